/- Contracts of the functions that the law GL reaches, and the law itself, for every input; no condition. -/
import Derived.Shelf.Spec.SlicesInsertGrow
import Derived.Test.YtmnnhjhkaepbaaaGreatProg
import Derived.KernelRfl
import Derived.Shelf.Spec.SlicesGrow
import Derived.Test.YtmnnhjhkaepbaaaGreatGL2
set_option linter.unusedSimpArgs false
set_option linter.unusedVariables false
namespace Go.Proofs.YtmnnhjhkaepbaaaGreat
open Go Go.Proofs Go.Shelf Go.RowKit Go.Lib
structure InsLay (P:Program) (ρ:Ren) (n1:String) (k bytes:Nat) (z:Value):Prop where
  mixed:P.follows .mixedOrders=true
  f22:P.funcs[ρ.f 22]?=some {Body2.n22 ρ with name:=n1}
  ov: ∀ args w,(callFunc (ρ.f 29) args).run P w=((Extern.SlicesOverlaps.overlaps #[(ρ.t 24),(ρ.t 24)] #[(ρ.t 4)] args).run P w).andThen fun v w'=>.ok (.value v) w'
  t0:P.underlying (ρ.t 0)=some (TypeDesc.tuple #[])
  a0: ∀ w,(isAgg (ρ.t 0)).run P w=.ok false w
  z0: ∀ w,(Go.sizeOf (ρ.t 0)).run P w=.ok 1 w
  v0: ∀ w,(zeroValue (ρ.t 0)).run P w=.ok (Value.tuple #[]) w
  t3:P.underlying (ρ.t 3)=some (TypeDesc.int IntKind.i64)
  a3: ∀ w,(isAgg (ρ.t 3)).run P w=.ok false w
  z3: ∀ w,(Go.sizeOf (ρ.t 3)).run P w=.ok 1 w
  v3: ∀ w,(zeroValue (ρ.t 3)).run P w=.ok (Value.int IntKind.i64 0) w
  t4:P.underlying (ρ.t 4)=some (TypeDesc.bool)
  a4: ∀ w,(isAgg (ρ.t 4)).run P w=.ok false w
  z4: ∀ w,(Go.sizeOf (ρ.t 4)).run P w=.ok 1 w
  v4: ∀ w,(zeroValue (ρ.t 4)).run P w=.ok (Value.bool false) w
  z9: ∀ w,(Go.sizeOf (ρ.t 9)).run P w=.ok k w
  t24:P.underlying (ρ.t 24)=some (TypeDesc.slice (ρ.t 9))
  a24: ∀ w,(isAgg (ρ.t 24)).run P w=.ok false w
  z24: ∀ w,(Go.sizeOf (ρ.t 24)).run P w=.ok 1 w
  v24: ∀ w,(zeroValue (ρ.t 24)).run P w=.ok (Value.slice none 0 0) w
  i9:(P.info? (ρ.t 9)).map (fun i=>(i.zero,i.size,i.bytes))=some (some z,k,bytes)
  hk:0 < k
  hz:z.cells.size=k
variable {P:Program} {ρ:Ren} {n1:String} {k bytes:Nat} {z:Value}
theorem iF (w:World) (dT sT ty elem:TypeId) (g o dLen dCap:Nat) (a:Addr) (sLen sCap:Nat) (cur:Array Value) (t:TypeId) (cs:List Value) (k:Nat)
    (hu:P.underlying dT=some (.slice elem)) (hs:(P.info? elem).map (·.size)=some k)
    (hg:w.heap[g]?=some (.cells cur t (0,0))) (hn:cs.length=Nat.min sLen dLen*k)
    (hsrc: ∀ j v,cs[j]?=some v→w.cell? (a.add j)=some v) (hfit:o+cs.length≤cur.size) (h1: ∀ v∈cs,v.oneCell'=true):
    (Builtin.copy_ #[dT,sT] ty #[.slice (some ⟨g,o,none⟩) dLen dCap,.slice (some a) sLen sCap]).run P w=
      .ok (goInt (Nat.min sLen dLen)) (w.setRow g (cur.toList.take o++cs++cur.toList.drop (o+cs.length)).toArray):=by
  have hl:=run_loadCells_list (P:=P) w a cs hsrc
  have hst:=run_storeCells_at P g o t cs 0 cur w hg (by simpa using hfit) h1
  cases hq:P.info? elem with
  |none=>simp [hq] at hs
  | some i =>
    have hi:i.size=k:=by simpa [hq] using hs
    simp [Builtin.copy_,run_underlying hu,Builtin.lenOf,Builtin.firstCells,sizeOf,typeInfo,hq,hi,← hn,hl,hst]
def put (cc:Array Value) (o:Nat) (cs:List Value):Array Value:=(cc.toList.take o++cs++cc.toList.drop (o+cs.length)).toArray
set_option maxHeartbeats 4000000 in
set_option maxRecDepth 100000 in
theorem aEJ (L : InsLay P ρ n1 k bytes z) (b n c i vb vc : Nat) (cc cv : Array Value) (tb tv : TypeId) (w : World) (hi : i < n) (hroom : n + 1 ≤ c) (hc63 : c ≤ 9223372036854775807) (hvb : vb ≠ b)
    (hb:w.heap[b]?=some (.cells cc tb (0,0))) (hv:w.heap[vb]?=some (.cells cv tv (0,0))) (hcc:c*k=cc.size) (hcv:k≤cv.size) (vs:List Value) (hvs:vs=cv.toList.take k)
    (h1c: ∀ v∈cc.toList.take (n*k),v.oneCell'=true) (h1v: ∀ v∈vs,v.oneCell'=true):
    Calls P (ρ.f 22) #[.slice (some ⟨b,0,none⟩) n c,.int .i64 i,.slice (some ⟨vb,0,none⟩) 1 vc] w fun e w'=>
      e=.returned (.slice (some ⟨b,0,none⟩) (n+1) c)∧w'=w.drew.setRow b (put (put cc ((i+1)*k) ((cc.toList.take (n*k)).drop (i*k))) (i*k) vs):=by
  have hk:=L.hk
  have hvl:vs.length=k:=by rw [hvs,List.length_take,Array.length_toList]; omega
  have t0:=L.t0; have a0:=L.a0; have z0:=L.z0; have v0:=L.v0; have t3:=L.t3; have a3:=L.a3; have z3:=L.z3; have v3:=L.v3; have t4:=L.t4; have a4:=L.a4; have z4:=L.z4; have v4:=L.v4; have z9:=L.z9; have t24:=L.t24; have a24:=L.a24; have z24:=L.z24; have v24:=L.v24
  have u0:=run_underlying L.t0; have u3:=run_underlying L.t3; have u4:=run_underlying L.t4; have u24:=run_underlying L.t24
  have hz2: ¬ ((i:Int)=(n:Int)):=by omega
  have hsz:(P.info? (ρ.t 9)).map (·.size)=some k:=by
    obtain ⟨i0,hi0,h0,h1,h2⟩:=info_parts L.i9
    rw [hi0]; simp [h1]
  have hov: ∀ lb cb,(callFunc (ρ.f 29) #[.slice (some ⟨vb,0,none⟩) 1 vc,.slice (some ⟨b,(i+1)*k,none⟩) lb cb]).run P w=.ok (.value (.bool false)) w:=fun lb cb=>by
    rw [L.ov,
      Lib.run_overlaps_apart w (ρ.t 24) (ρ.t 4) (ρ.t 9) L.t24 k L.z9 ⟨vb,0,none⟩ ⟨b,(i+1)*k,none⟩ 1 vc lb cb hvb tv tb cv.size cc.size (by simp [World.shape?,hv]) (by simp [World.shape?,hb]) (by rw [← hcc]; have:0 < c*k:=Nat.mul_pos (by omega) hk; omega) (by simp [World.frozen?,hv]) (by simp [World.frozen?,hv])]
    rfl
  have mixed:=L.mixed
  have hw1:IntKind.i64.wrap ((i:Int)+1)=(i:Int)+1:=by rw [IntKind.wrap_i64]; omega
  have hb1:(0:Int)≤(i:Int)+1:=by omega
  have hin:i≤n:=by omega
  have htn:((i:Int)+1).toNat=i+1:=by omega
  have hb2: ¬ (c=i+1):=by omega
  have hb3:(i:Int)≤(n:Int)+1:=by omega
  have hb4: ¬ (c=i):=by omega
  have hnk:n*k≤cc.size:=by rw [← hcc]; exact Nat.mul_le_mul_right k (by omega)
  have hn1k:(n+1)*k≤cc.size:=by rw [← hcc]; exact Nat.mul_le_mul_right k (by omega)
  have hik:i*k≤n*k:=Nat.mul_le_mul_right k hin
  obtain ⟨ds,hds⟩: ∃ ds,ds=(cc.toList.take (n*k)).drop (i*k):=⟨_,rfl⟩
  have hdl:ds.length=(n - i)*k:=by rw [hds,List.length_drop,List.length_take,Array.length_toList,Nat.min_eq_left hnk,Nat.sub_mul]
  rw [← hds]
  have e1:Nat.min (n+1 - i) (n - i)=n - i:=by simp only [Nat.min_def]; split <;> omega
  have e2:(i+1)*k+(n - i)*k=(n+1)*k:=by rw [← Nat.add_mul]; congr 1; omega
  have hcp1: ∀ ty dc sc,(Builtin.copy_ #[(ρ.t 24),(ρ.t 24)] ty #[.slice (some ⟨b,(i+1)*k,none⟩) (n - i) dc,.slice (some ⟨b,i*k,none⟩) (n+1 - i) sc]).run P w.drew=.ok (goInt (n - i:Nat)) (w.drew.setRow b (put cc ((i+1)*k) ds)):=fun ty dc sc=>by
    have h:=iF (P:=P) w.drew (ρ.t 24) (ρ.t 24) ty (ρ.t 9) b ((i+1)*k) (n - i) dc ⟨b,i*k,none⟩ (n+1 - i) sc cc tb ds k L.t24 hsz hb (by rw [hdl,e1])
      (fun j v hj=>by
        rw [Addr.add_lit]
        have hj':=hj
        rw [hds,List.getElem?_drop,List.getElem?_take] at hj
        split at hj
        · rw [Array.getElem?_toList] at hj
          simp [World.cell?,show w.drew.heap[b]?=_ from hb,hj]
        · cases hj) (by rw [hdl,e2]; exact hn1k) (fun v hv=>h1c v (List.mem_of_mem_drop (hds ▸ hv)))
    rw [e1] at h
    exact h
  have hps:(put cc ((i+1)*k) ds).size=cc.size:=by
    simp only [put,List.size_toArray,List.length_append,List.length_take,List.length_drop,Array.length_toList,hdl,e2]
    omega
  obtain ⟨W1,hW1⟩: ∃ W1,W1=w.drew.setRow b (put cc ((i+1)*k) ds):=⟨_,rfl⟩
  have hB1:W1.heap[b]?=some (.cells (put cc ((i+1)*k) ds) tb (0,0)):=by rw [hW1]; exact setRow_heap w.drew b cc _ tb _ hb
  have hV1:W1.heap[vb]?=some (.cells cv tv (0,0)):=by rw [hW1,setRow_other w.drew b vb _ hvb]; exact hv
  have hcp2: ∀ ty dc,(Builtin.copy_ #[(ρ.t 24),(ρ.t 24)] ty #[.slice (some ⟨b,i*k,none⟩) (n+1 - i) dc,.slice (some ⟨vb,0,none⟩) 1 vc]).run P W1=.ok (goInt (1:Nat)) (W1.setRow b (put (put cc ((i+1)*k) ds) (i*k) vs)):=fun ty dc=>by
    have e3:Nat.min 1 (n+1 - i)=1:=by simp only [Nat.min_def]; split <;> omega
    have h:=iF (P:=P) W1 (ρ.t 24) (ρ.t 24) ty (ρ.t 9) b (i*k) (n+1 - i) dc ⟨vb,0,none⟩ 1 vc _ tb vs k L.t24 hsz hB1 (by rw [e3,hvl,Nat.one_mul])
      (fun j v hj=>by
        rw [Addr.add_lit]
        rw [hvs,List.getElem?_take] at hj
        split at hj
        · rw [Array.getElem?_toList] at hj
          simp [World.cell?,hV1,hj]
        · cases hj) (by rw [hps,hvl]; have:(i+1)*k≤(n+1)*k:=Nat.mul_le_mul_right k (by omega); rw [Nat.add_mul,Nat.one_mul] at this; omega) h1v
    rw [e3] at h
    exact h
  have hfin:W1.setRow b (put (put cc ((i+1)*k) ds) (i*k) vs)=w.drew.setRow b (put (put cc ((i+1)*k) ds) (i*k) vs):=by rw [hW1,setRow_setRow]
  rw [← hW1] at hcp1
  clear hW1 hds e1 e2 hvs
  go_enter L.f22,Body2.n22_ntmps ρ
  go_wp2_with (simp only [hov])
  go_region_law_o (refine step_copy_runI rfl _ _ (ρ.t 24) (ρ.t 24) rfl _ _ (by simp [Act.eval,Act.put]) (by simp [Act.eval,Act.put]) (hcp1 _ _ _) ?_)
  go_wp2_with (at_builtin; refine wpList_copy_runI _ rfl _ _ (ρ.t 24) (ρ.t 24) rfl _ _ rfl rfl (hcp2 _ _) ?_)
  go_ret
  first|exact ⟨rfl,rfl⟩|exact ⟨rfl,hfin⟩
theorem oR (w:World) (a b:Array Value) (e:TypeId):(w.alloc (.cells a e)).setRow w.heap.size b=w.alloc (.cells b e):=by
  have h:(w.alloc (.cells a e)).heap[w.heap.size]?=some (.cells a e (0,0)):=fJ _ _
  unfold World.setRow World.alloc
  congr 1
  refine Array.ext_getElem? fun j=>?_
  rw [Array.getElem?_modify]
  split
  · rename_i hj
    subst hj
    simp [Obj.cells]
  · rename_i hj
    simp only [Array.getElem?_push]
    rw [if_neg (fun x=>hj x.symm),if_neg (fun x=>hj x.symm)]
set_option maxHeartbeats 4000000 in
set_option maxRecDepth 100000 in
theorem aGp (L : InsLay P ρ n1 k bytes z) (b n c i vb vc : Nat) (cc cv : Array Value) (tb tv : TypeId) (w : World) (hi : i < n) (hnc : n ≤ c) (hroom : c < n + 1) (hc63 : c < 9223372036854775807) (hbig : (n + 1) * bytes ≤ 140737488355328)
    (hb:w.heap[b]?=some (.cells cc tb (0,0))) (hv:w.heap[vb]?=some (.cells cv tv (0,0))) (hcc:c*k=cc.size) (hcv:k≤cv.size) (vs:List Value) (hvs:vs=cv.toList.take k)
    (h1c: ∀ v∈cc.toList.take (n*k),v.oneCell'=true) (h1v: ∀ v∈vs,v.oneCell'=true):
    Calls P (ρ.f 22) #[.slice (some ⟨b,0,none⟩) n c,.int .i64 i,.slice (some ⟨vb,0,none⟩) 1 vc] w fun e w'=>
      ∃ G R,R.size=G*k∧n+1≤G∧G≤maxLen∧e=.returned (.slice (some ⟨w.heap.size,0,none⟩) (n+1) G)∧w'=w.drew.drew.alloc (.cells (put (put R (i*k) vs) ((i+1)*k) ((cc.toList.take (n*k)).drop (i*k))) (ρ.t 9))∧R.toList.take (i*k)=cc.toList.take (i*k):=by
  have hk:=L.hk; have hzl:=L.hz
  have hvl:vs.length=k:=by rw [hvs,List.length_take,Array.length_toList]; omega
  have t0:=L.t0; have a0:=L.a0; have z0:=L.z0; have v0:=L.v0; have t3:=L.t3; have a3:=L.a3; have z3:=L.z3; have v3:=L.v3; have t4:=L.t4; have a4:=L.a4; have z4:=L.z4; have v4:=L.v4; have z9:=L.z9; have t24:=L.t24; have a24:=L.a24; have z24:=L.z24; have v24:=L.v24
  have u0:=run_underlying L.t0; have u3:=run_underlying L.t3; have u4:=run_underlying L.t4; have u24:=run_underlying L.t24
  have mixed:=L.mixed
  obtain ⟨i0,hi0,hz0,hzs,hzb⟩:=info_parts L.i9
  have hz2: ¬ ((i:Int)=(n:Int)):=by omega
  have hz3:(c:Int) < (n:Int)+1:=by omega
  have hsz:(P.info? (ρ.t 9)).map (·.size)=some k:=by rw [hi0]; simp [hzs]
  have hbw:b < w.heap.size:=(Array.getElem?_eq_some_iff.1 hb).1
  have hvw:vb < w.heap.size:=(Array.getElem?_eq_some_iff.1 hv).1
  have hkk:(n:Int)+1 - (i:Int)=((n+1 - i:Nat):Int):=by omega
  have hik:i+(n+1 - i)=n+1:=by omega
  have hnk:n*k≤cc.size:=by rw [← hcc]; exact Nat.mul_le_mul_right k (by omega)
  have hikn:i*k≤n*k:=Nat.mul_le_mul_right k (by omega)
  have hold:(Builtin.firstCells i0.size i (.slice (some ⟨b,0,none⟩) i c)).run P w.drew=.ok (cc.toList.take (i*k)).toArray w.drew:=by
    rw [hzs]
    exact run_firstCells_some w.drew k i ⟨b,0,none⟩ i c (cc.toList.take (i*k)) (by rw [List.length_take,Array.length_toList]; omega) (fun j v hj=>by
      rw [Addr.add_lit]
      rw [List.getElem?_take] at hj
      split at hj
      · rw [Array.getElem?_toList] at hj
        simp [World.cell?,show w.drew.heap[b]?=_ from hb,hj]
      · cases hj)
  have hrz: ∀ ty,(Builtin.append_ #[(ρ.t 24),(ρ.t 3)] ty #[.slice (some ⟨b,0,none⟩) i c,.int .i64 ((n:Int)+1 - (i:Int))]).run P w=
      .ok (.slice (some ⟨w.heap.size,0,none⟩) (n+1) (grownCap w (n+1) c (ρ.t 9))) (w.drew.alloc (.cells ((cc.toList.take (i*k)).toArray++Builtin.zeroCells z.cells (n+1 - i)++Builtin.zeroCells z.cells (grownCap w (n+1) c (ρ.t 9) - (n+1))) (ρ.t 9))):=fun ty=>by
    have h:=Lib.run_append_grow_zeros w (ρ.t 24) (ρ.t 3) ty (ρ.t 9) i0 _ .i64 .i64 L.t24 L.t3 hi0 hz0 (some ⟨b,0,none⟩) i c _ hold (n+1 - i) (by omega) (by omega) (by omega) (by omega) (by rw [hzb]; have:(n+1 - i)*bytes≤(n+1)*bytes:=Nat.mul_le_mul_right _ (by omega); omega) (by rw [hzb,hik]; exact growslice_fits hroom hbig)
    rw [hik] at h
    rw [hkk]
    exact h
  have hGn:n+1≤grownCap w (n+1) c (ρ.t 9):=grownCap_ge w _ _ _
  have hGm:grownCap w (n+1) c (ρ.t 9)≤maxLen:=grownCap_le_maxLen w (n+1) c (ρ.t 9) (by unfold maxLen; omega)
  obtain ⟨G,hG⟩: ∃ G,G=grownCap w (n+1) c (ρ.t 9):=⟨_,rfl⟩
  rw [← hG] at hGn hGm
  obtain ⟨ROW,hROW⟩: ∃ ROW:Array Value,ROW=(cc.toList.take (i*k)).toArray++Builtin.zeroCells z.cells (n+1 - i)++Builtin.zeroCells z.cells (G - (n+1)):=⟨_,rfl⟩
  rw [← hG] at hrz
  rw [← hROW] at hrz
  have hRl:ROW.size=G*k:=by
    rw [hROW]
    simp only [Array.size_append,List.size_toArray,List.length_take,Array.length_toList,size_zeroCells,hzl,Nat.min_eq_left (show i*k≤cc.size by omega),← Nat.add_mul]
    congr 1; omega
  have hRt:ROW.toList.take (i*k)=cc.toList.take (i*k):=by
    rw [hROW]
    simp only [Array.toList_append,List.append_assoc]
    rw [List.take_append_of_le_length (by simp; omega),List.take_take,Nat.min_self]
  have hG63:G≤9223372036854775807:=by unfold maxLen at hGm; omega
  have hGi: ¬ (G=i):=by omega
  have hGim: ¬ (G=i+1):=by omega
  have hci: ¬ (c=i):=by omega
  have hn1G:(n+1)*k≤G*k:=Nat.mul_le_mul_right k hGn
  obtain ⟨ds,hds⟩: ∃ ds,ds=(cc.toList.take (n*k)).drop (i*k):=⟨_,rfl⟩
  have hdl:ds.length=(n - i)*k:=by rw [hds,List.length_drop,List.length_take,Array.length_toList,Nat.min_eq_left hnk,Nat.sub_mul]
  rw [← hds]
  have e1:Nat.min (n - i) (n - i)=n - i:=Nat.min_self _
  have e2:(i+1)*k+(n - i)*k=(n+1)*k:=by rw [← Nat.add_mul]; congr 1; omega
  have e4:i*k+k≤(n+1)*k:=by have:(i+1)*k≤(n+1)*k:=Nat.mul_le_mul_right k (by omega); rw [Nat.add_mul,Nat.one_mul] at this; exact this
  obtain ⟨W1,hW1⟩: ∃ W1,W1=w.drew.alloc (.cells ROW (ρ.t 9)):=⟨_,rfl⟩
  have hcpA: ∀ (W:World),W.heap=W1.heap→ ∀ ty dc,(Builtin.copy_ #[(ρ.t 24),(ρ.t 24)] ty #[.slice (some ⟨w.heap.size,i*k,none⟩) (n+1 - i) dc,.slice (some ⟨vb,0,none⟩) 1 vc]).run P W=.ok (goInt (1:Nat)) (W.setRow w.heap.size (put ROW (i*k) vs)):=fun W hW ty dc=>by
    have e3:Nat.min 1 (n+1 - i)=1:=by simp only [Nat.min_def]; split <;> omega
    have hN:W.heap[w.heap.size]?=some (.cells ROW (ρ.t 9) (0,0)):=by rw [hW,hW1]; exact fJ w.drew _
    have hV:W.heap[vb]?=some (.cells cv tv (0,0)):=by rw [hW,hW1,dS w.drew _ hvw]; exact hv
    have h:=iF (P:=P) W (ρ.t 24) (ρ.t 24) ty (ρ.t 9) w.heap.size (i*k) (n+1 - i) dc ⟨vb,0,none⟩ 1 vc ROW (ρ.t 9) vs k L.t24 hsz hN (by rw [e3,hvl,Nat.one_mul])
      (fun j v hj=>by
        rw [Addr.add_lit]
        rw [hvs,List.getElem?_take] at hj
        split at hj
        · rw [Array.getElem?_toList] at hj
          simp [World.cell?,hV,hj]
        · cases hj) (by rw [hRl,hvl]; omega) h1v
    rw [e3] at h
    exact h
  have hps:(put ROW (i*k) vs).size=ROW.size:=by
    simp only [put,List.size_toArray,List.length_append,List.length_take,List.length_drop,Array.length_toList,hvl]
    omega
  have hcpB: ∀ (W:World),W.heap=(W1.setRow w.heap.size (put ROW (i*k) vs)).heap→ ∀ ty dc sc,(Builtin.copy_ #[(ρ.t 24),(ρ.t 24)] ty #[.slice (some ⟨w.heap.size,(i+1)*k,none⟩) (n - i) dc,.slice (some ⟨b,i*k,none⟩) (n - i) sc]).run P W=.ok (goInt (n - i:Nat)) (W.setRow w.heap.size (put (put ROW (i*k) vs) ((i+1)*k) ds)):=fun W hW ty dc sc=>by
    have hN:W.heap[w.heap.size]?=some (.cells (put ROW (i*k) vs) (ρ.t 9) (0,0)):=by
      rw [hW,hW1]; exact setRow_heap _ _ ROW _ (ρ.t 9) _ (fJ w.drew _)
    have hB:W.heap[b]?=some (.cells cc tb (0,0)):=by
      rw [hW,hW1,setRow_other _ _ b _ (by omega),dS w.drew _ hbw]; exact hb
    have h:=iF (P:=P) W (ρ.t 24) (ρ.t 24) ty (ρ.t 9) w.heap.size ((i+1)*k) (n - i) dc ⟨b,i*k,none⟩ (n - i) sc _ (ρ.t 9) ds k L.t24 hsz hN (by rw [hdl,e1])
      (fun j v hj=>by
        rw [Addr.add_lit]
        rw [hds,List.getElem?_drop,List.getElem?_take] at hj
        split at hj
        · rw [Array.getElem?_toList] at hj
          simp [World.cell?,hB,hj]
        · cases hj) (by rw [hdl,e2,hps,hRl]; exact hn1G) (fun v hv=>h1c v (List.mem_of_mem_drop (hds ▸ hv)))
    rw [e1] at h
    exact h
  subst hW1
  have hw1:IntKind.i64.wrap ((i:Int)+1)=(i:Int)+1:=by rw [IntKind.wrap_i64]; omega
  have hb1:(0:Int)≤(i:Int)+1:=by omega
  have hin:i≤n:=by omega
  have htn:((i:Int)+1).toNat=i+1:=by omega
  have hb3:(i:Int)≤(n:Int):=by omega
  have hE1:((w.alloc (.cells ROW (ρ.t 9))).drew).heap=(w.drew.alloc (.cells ROW (ρ.t 9))).heap:=rfl
  have hF1:(((w.alloc (.cells ROW (ρ.t 9))).drew.setRow w.heap.size (put ROW (i*k) vs)).drew).heap=((w.drew.alloc (.cells ROW (ρ.t 9))).setRow w.heap.size (put ROW (i*k) vs)).heap:=rfl
  have hcall:Calls P (ρ.f 22) #[.slice (some ⟨b,0,none⟩) n c,.int .i64 i,.slice (some ⟨vb,0,none⟩) 1 vc] w fun e w'=>e=.returned (.slice (some ⟨w.heap.size,0,none⟩) (n+1) G)∧w'=(((w.alloc (.cells ROW (ρ.t 9))).drew.setRow w.heap.size (put ROW (i*k) vs)).drew).setRow w.heap.size (put (put ROW (i*k) vs) ((i+1)*k) ds):=by
    clear hkk hik hold hROW hG hRl hds e1 e2 e4 hRt hvs
    go_enter L.f22,Body2.n22_ntmps ρ
    go_wp2_with (first
      |(at_builtin; refine Lib.wpList_append_run _ rfl _ _ _ _ rfl _ _ rfl rfl _ _ (hrz _) ?_)
      |(at_builtin; refine wpList_copy_runI _ rfl _ _ (ρ.t 24) (ρ.t 24) rfl _ _ rfl rfl (hcpA _ hE1 _ _) ?_)
      |(at_builtin; refine wpList_copy_runI _ rfl _ _ (ρ.t 24) (ρ.t 24) rfl _ _ rfl rfl (hcpB _ hF1 _ _ _) ?_))
    go_region_law_o (refine step_copy_runI rfl _ _ (ρ.t 24) (ρ.t 24) rfl (.slice (some ⟨w.heap.size,(i+1)*k,none⟩) (n - i) (G - (i+1))) (.slice (some ⟨b,i*k,none⟩) (n - i) (c - i)) (by simp [Act.eval,Act.put]) (by simp [Act.eval,Act.put]) (hcpB _ hF1 (ρ.t 3) (G - (i+1)) (c - i)) ?_)
    go_wp2
    go_ret
    exact ⟨rfl,rfl⟩
  refine hcall.mono fun e w' h=>?_
  obtain ⟨rfl,rfl⟩:=h
  refine ⟨G,ROW,hRl,hGn,hGm,rfl,?_,hRt⟩
  have q:=oR w ROW (put ROW (i*k) vs) (ρ.t 9)
  have q2:=oR w (put ROW (i*k) vs) (put (put ROW (i*k) vs) ((i+1)*k) ds) (ρ.t 9)
  have q3:(((w.alloc (.cells ROW (ρ.t 9))).drew.setRow w.heap.size (put ROW (i*k) vs)).drew).setRow w.heap.size (put (put ROW (i*k) vs) ((i+1)*k) ds)=((((w.alloc (.cells ROW (ρ.t 9))).setRow w.heap.size (put ROW (i*k) vs))).setRow w.heap.size (put (put ROW (i*k) vs) ((i+1)*k) ds)).drew.drew:=rfl
  rw [q3,q,q2]
  rfl
set_option maxHeartbeats 4000000 in
set_option maxRecDepth 100000 in
theorem aIc (L:InsLay P ρ n1 k bytes z) (b n c vb vc:Nat) (w w':World) (v:Value) (hnc:n≤c)
    (hr: ∀ ty,(Builtin.append_ #[(ρ.t 24),(ρ.t 24)] ty #[.slice (some ⟨b,0,none⟩) n c,.slice (some ⟨vb,0,none⟩) 1 vc]).run P w=.ok v w'):
    Calls P (ρ.f 22) #[.slice (some ⟨b,0,none⟩) n c,.int .i64 n,.slice (some ⟨vb,0,none⟩) 1 vc] w fun e u=>e=.returned v∧u=w':=by
  have hk:=L.hk
  have t0:=L.t0; have a0:=L.a0; have z0:=L.z0; have v0:=L.v0; have t3:=L.t3; have a3:=L.a3; have z3:=L.z3; have v3:=L.v3; have t4:=L.t4; have a4:=L.a4; have z4:=L.z4; have v4:=L.v4; have z9:=L.z9; have t24:=L.t24; have a24:=L.a24; have z24:=L.z24; have v24:=L.v24
  have u0:=run_underlying L.t0; have u3:=run_underlying L.t3; have u4:=run_underlying L.t4; have u24:=run_underlying L.t24
  have mixed:=L.mixed
  go_enter L.f22,Body2.n22_ntmps ρ
  go_wp2_with (at_builtin; refine Lib.wpList_append_run _ rfl _ _ _ _ rfl _ _ rfl rfl _ _ (hr _) ?_)
  all_goals (go_ret; exact ⟨rfl,rfl⟩)
set_option maxHeartbeats 4000000 in
set_option maxRecDepth 100000 in
theorem aFE (L:InsLay P ρ n1 k bytes z) (vb vc:Nat) (w w':World) (v:Value)
    (hr: ∀ ty,(Builtin.append_ #[(ρ.t 24),(ρ.t 24)] ty #[.slice none 0 0,.slice (some ⟨vb,0,none⟩) 1 vc]).run P w=.ok v w'):
    Calls P (ρ.f 22) #[.slice none 0 0,.int .i64 0,.slice (some ⟨vb,0,none⟩) 1 vc] w fun e u=>e=.returned v∧u=w':=by
  have hk:=L.hk
  have t0:=L.t0; have a0:=L.a0; have z0:=L.z0; have v0:=L.v0; have t3:=L.t3; have a3:=L.a3; have z3:=L.z3; have v3:=L.v3; have t4:=L.t4; have a4:=L.a4; have z4:=L.z4; have v4:=L.v4; have z9:=L.z9; have t24:=L.t24; have a24:=L.a24; have z24:=L.z24; have v24:=L.v24
  have u0:=run_underlying L.t0; have u3:=run_underlying L.t3; have u4:=run_underlying L.t4; have u24:=run_underlying L.t24
  have mixed:=L.mixed
  go_enter L.f22,Body2.n22_ntmps ρ
  go_wp2_with (at_builtin; refine Lib.wpList_append_run _ rfl _ _ _ _ rfl _ _ rfl rfl _ _ (hr _) ?_)
  all_goals (go_ret; exact ⟨rfl,rfl⟩)
set_option maxHeartbeats 4000000 in
set_option maxRecDepth 100000 in
theorem aGV (L:InsLay P ρ n1 k bytes z) (a:Addr) (vb vc:Nat) (w w':World) (v:Value)
    (hr: ∀ ty,(Builtin.append_ #[(ρ.t 24),(ρ.t 24)] ty #[.slice (some a) 0 0,.slice (some ⟨vb,0,none⟩) 1 vc]).run P w=.ok v w'):
    Calls P (ρ.f 22) #[.slice (some a) 0 0,.int .i64 0,.slice (some ⟨vb,0,none⟩) 1 vc] w fun e u=>e=.returned v∧u=w':=by
  have hk:=L.hk
  have t0:=L.t0; have a0:=L.a0; have z0:=L.z0; have v0:=L.v0; have t3:=L.t3; have a3:=L.a3; have z3:=L.z3; have v3:=L.v3; have t4:=L.t4; have a4:=L.a4; have z4:=L.z4; have v4:=L.v4; have z9:=L.z9; have t24:=L.t24; have a24:=L.a24; have z24:=L.z24; have v24:=L.v24
  have u0:=run_underlying L.t0; have u3:=run_underlying L.t3; have u4:=run_underlying L.t4; have u24:=run_underlying L.t24
  have mixed:=L.mixed
  go_enter L.f22,Body2.n22_ntmps ρ
  go_wp2_with (at_builtin; refine Lib.wpList_append_run _ rfl _ _ _ _ rfl _ _ rfl rfl _ _ (hr _) ?_)
  all_goals (go_ret; exact ⟨rfl,rfl⟩)
end Go.Proofs.YtmnnhjhkaepbaaaGreat
namespace Go.Proofs.YtmnnhjhkaepbaaaGreat
open Go Go.Proofs Go.Shelf Go.Lib
theorem iC {cc:Array Value} {o:Nat} {cs:List Value} (h:o+cs.length≤cc.size) (q:Nat):(put cc o cs)[q]?=if o≤q∧q < o+cs.length then cs[q - o]? else cc[q]?:=by
  unfold put
  rw [mS h]
theorem kL {cc:Array Value} {o:Nat} {cs:List Value} (h:o+cs.length≤cc.size):(put cc o cs).size=cc.size:=by
  simp only [put,List.size_toArray,List.length_append,List.length_take,List.length_drop,Array.length_toList]
  omega
theorem aBe {x : Cx} {rows : List (List V)} {row : List V} {k i : Nat} {cc cv F : Array Value} (hsz : ∀ r ∈ rows, r.length = k) (hsz1 : row.length = k) (hi : i ≤ rows.length)
    (hr: ∀ (r:Nat) (row:List V) (j:Nat) (v:V),rows[r]?=some row→row[j]?=some v→R x v (cc.getD (r*k+j) undef))
    (hv: ∀ (j:Nat) (v:V),row[j]?=some v→R x v (cv.getD j undef))
    (ha: ∀ q,q < i*k→F[q]?=cc[q]?) (hb: ∀ q,q < k→F[i*k+q]?=cv[q]?) (hc: ∀ q,q < (rows.length - i)*k→F[(i+1)*k+q]?=cc[i*k+q]?):
    ∀ (r:Nat) (row':List V) (j:Nat) (v:V),(rows.take i++row::rows.drop i)[r]?=some row'→row'[j]?=some v→R x v (F.getD (r*k+j) undef):=by
  intro r row' j v h1 h2
  have hlt:(rows.take i).length=i:=by rw [List.length_take]; omega
  rw [List.getElem?_append] at h1
  split at h1
  · rename_i hlt'
    rw [hlt] at hlt'
    rw [List.getElem?_take,if_pos hlt'] at h1
    have hjk:j < k:=by rw [← hsz _ (List.mem_of_getElem? h1)]; exact (List.getElem?_eq_some_iff.1 h2).1
    have:r*k+j < i*k:=by
      have:(r+1)*k≤i*k:=Nat.mul_le_mul_right k hlt'
      rw [Nat.add_mul,Nat.one_mul] at this; omega
    rw [Array.getD_eq_getD_getElem?,ha _ this,← Array.getD_eq_getD_getElem?]
    exact hr r row' j v h1 h2
  · rename_i hge
    rw [hlt] at h1 hge
    by_cases he:r=i
    · subst he
      rw [Nat.sub_self] at h1
      simp only [List.getElem?_cons_zero,Option.some.injEq] at h1
      subst h1
      have hjk:j < k:=by rw [← hsz1]; exact (List.getElem?_eq_some_iff.1 h2).1
      rw [Array.getD_eq_getD_getElem?,hb _ hjk,← Array.getD_eq_getD_getElem?]
      exact hv j v h2
    · obtain ⟨q,hq⟩: ∃ q,r - i=q+1:=⟨r - i - 1,by omega⟩
      rw [hq,List.getElem?_cons_succ,List.getElem?_drop] at h1
      have hjk:j < k:=by rw [← hsz _ (List.mem_of_getElem? h1)]; exact (List.getElem?_eq_some_iff.1 h2).1
      have hql:=(List.getElem?_eq_some_iff.1 h1).1
      have hlt2:q*k+j < (rows.length - i)*k:=by
        have:(q+1)*k≤(rows.length - i)*k:=Nat.mul_le_mul_right k (by omega)
        rw [Nat.add_mul,Nat.one_mul] at this; omega
      have e1:r*k+j=(i+1)*k+(q*k+j):=by rw [← Nat.add_assoc,← Nat.add_mul]; congr 2; omega
      have e2:i*k+(q*k+j)=(i+q)*k+j:=by rw [Nat.add_mul]; omega
      rw [e1,Array.getD_eq_getD_getElem?,hc _ hlt2,← Array.getD_eq_getD_getElem?,e2]
      exact hr _ row' j v h1 h2
section
variable {P:Program} {ρ:Ren} {n1:String} {k bytes:Nat} {z:Value}
theorem aGn (L:InsLay P ρ n1 k bytes z) {zz:List V} (hzz:dZ P (ρ.t 9)=some zz) (hzl:zz.length=k) {x:Cx} (hx:Inv x) {id id2 ver ver2 ty2 i:Nat} {rows:List (List V)} {row:List V} {c0 c2:Value}
    {lz:Bool} (hlz:(lz&&rows.isEmpty)=false) (hH:x.H id=⟨ver,true,lz,ρ.t 9,k,rows⟩) (hH2:x.H id2=⟨ver2,true,false,ty2,k,[row]⟩) (hne:id≠id2) (hi:i≤rows.length)
    (hf:cP k rows=true) (hf1:cP k [row]=true) (hb:(rows.length+1)*bytes≤140737488355328) (hm:rows.length+1≤9223372036854775807)
    (r0:R x (.ms id ver 0 rows.length) c0) (r2:R x (.ms id2 ver2 0 1) c2):
    Calls P (ρ.f 22) #[c0,.int .i64 i,c2] x.w fun e w'=> ∃ c y,e=.returned c∧y.w=w'∧y.H=upd x.H id ⟨ver+1,true,lz,ρ.t 9,k,rows.take i++row::rows.drop i⟩∧Inv y∧R y (.ms id (ver+1) 0 (rows.length+1)) c∧Frame x y:=by
  have hk:=L.hk
  have ho:(x.H id).own=true:=by rw [hH]; simp only [Blk.own,hlz]; rfl
  have ho2:(x.H id2).own=true:=by rw [hH2]; rfl
  obtain ⟨hsz,hone⟩:=eE hf
  obtain ⟨hsz1,hone1⟩:=eE hf1
  have r0':=r0; have r2':=r2
  cases r0 with
  |ms _ _ _ _ b n cap hv hh hm0=>
  cases r2 with
  |ms _ _ _ _ b2 m2 cap2 hv2 hh2 hm2=>
  obtain ⟨e1,e2,e3,e4,e5,e6⟩:=hh (by rw [hH]) (by rw [hH])
  obtain ⟨d1,d2,d3,d4,d5,d6⟩:=hh2 (by rw [hH2]) (by rw [hH2])
  obtain ⟨e7,e8⟩:=e5 ho
  obtain ⟨d7,d8⟩:=d5 ho2
  have hmI:(lz&&decide (4294967296≤ρ.t 9))=false:=by
    have:=hm0 (by rw [hH]) (by rw [hH])
    rw [hH] at this; exact this
  obtain ⟨cc,b1,bb2,bb3,bb4⟩:=hx.cel id ho (hm0 (by rw [hH]) (by rw [hH]))
  obtain ⟨cv,v1,vv2,vv3,vv4⟩:=hx.cel id2 ho2 (hm2 (by rw [hH2]) (by rw [hH2]))
  have hrs:bX x.w (x.σ id)=cc.size:=by unfold bX; rw [b1]
  have hrs2:bX x.w (x.σ id2)=cv.size:=by unfold bX; rw [v1]
  rw [hrs,hH] at e8
  rw [hrs2,hH2] at d8
  rw [hH] at e7 b1 bb3 bb4
  rw [hH2] at d7 v1 vv3 vv4
  simp only [Nat.zero_mul,Nat.zero_add] at e7 d7 e8 d8
  simp only at b1 bb3 bb4 v1 vv3 vv4
  subst e1; subst d1; subst e7; subst d7
  have hvb:x.σ id2≠x.σ id:=fun e=>hne (hx.inj id id2 ho ho2 e.symm)
  have hcv:k≤cv.size:=by simpa using vv3
  have hsz1':row.length=k:=hsz1 row (by simp)
  have hrow: ∀ (j:Nat) (v:V),row[j]?=some v→R x v (cv.getD j undef):=fun j v hj=>by
    have:=vv4 0 row j v rfl hj
    simpa using this
  have h1c: ∀ v∈cc.toList.take (rows.length*k),v.oneCell'=true:=fun v hv=>by
    obtain ⟨q,hq⟩:=List.getElem?_of_mem hv
    rw [List.getElem?_take] at hq
    split at hq
    · rename_i hlt
      obtain ⟨rw',u,h5,h6,h7⟩:=pO hsz hlt
      have h8:=bb4 _ _ _ _ h5 h6
      rw [h7,Array.getD_eq_getD_getElem?,← Array.getElem?_toList,hq] at h8
      exact h8.one (hone _ (List.mem_of_getElem? h5) _ (List.mem_of_getElem? h6))
    · cases hq
  obtain ⟨vs,hvs⟩: ∃ vs,vs=cv.toList.take k:=⟨_,rfl⟩
  have hvl:vs.length=k:=by rw [hvs,List.length_take,Array.length_toList]; omega
  have hvg: ∀ q,q < k→vs[q]?=cv[q]?:=fun q hq=>by rw [hvs,List.getElem?_take,if_pos hq,Array.getElem?_toList]
  have h1v: ∀ v∈vs,v.oneCell'=true:=fun v hv=>by
    obtain ⟨q,hq⟩:=List.getElem?_of_mem hv
    have hlt:q < k:=by rw [← hvl]; exact (List.getElem?_eq_some_iff.1 hq).1
    have hu: ∃ u,row[q]?=some u:=⟨_,List.getElem?_eq_getElem (by rw [hsz1']; exact hlt)⟩
    obtain ⟨u,hu⟩:=hu
    have h8:=hrow q u hu
    rw [Array.getD_eq_getD_getElem?,← hvg q hlt,hq] at h8
    exact h8.one (hone1 row (by simp) u (List.mem_of_getElem? hu))
  obtain ⟨n,hn⟩: ∃ n,n=rows.length:=⟨_,rfl⟩
  have hnew: ∀ r∈rows.take i++row::rows.drop i,r.length=k:=fun r hr=>by
    rcases List.mem_append.1 hr with hr|hr
    · exact hsz r (List.mem_of_mem_take hr)
    · rcases List.mem_cons.1 hr with hr|hr
      · rw [hr]; exact hsz1'
      · exact hsz r (List.mem_of_mem_drop hr)
  have hnewl:(rows.take i++row::rows.drop i).length=rows.length+1:=by simp; omega
  by_cases hend:i=rows.length
  · obtain ⟨i0,hi0,hz0,hzs,hzb⟩:=info_parts L.i9
    obtain ⟨y,c,hr,y1,y2,y3,y4⟩:=vZ (P:=P) (esz:=k) (bytes:=bytes) (new:=[row]) hx L.t24 hi0 hzz hzs hzb hzl (by omega) (i:=id) (ver:=ver) (len:=rows.length) (u:=.ms id2 ver2 0 1) (by rw [hH]) (by rw [hH]) (by rw [hH]) (by rw [hH]) (by rw [hH])
      (by simp [jL,hH2]) hf1 hb hm r0' r2' 0
    rw [hend]
    refine (aIc L (x.σ id) rows.length cap (x.σ id2) cap2 x.w y.w c e2 fun ty=>hr).mono fun e w' h=>?_
    obtain ⟨rfl,rfl⟩:=h
    refine ⟨c,y,rfl,rfl,?_,y2,y4,y3⟩
    rw [y1,hH]
    simp
  have hlt:i < rows.length:=by omega
  have hnk:rows.length*k≤cc.size:=by rw [← e8]; exact Nat.mul_le_mul_right k e2
  have hik:i*k≤rows.length*k:=Nat.mul_le_mul_right k hi
  obtain ⟨ds,hds⟩: ∃ ds,ds=(cc.toList.take (rows.length*k)).drop (i*k):=⟨_,rfl⟩
  have hdl:ds.length=(rows.length - i)*k:=by rw [hds,List.length_drop,List.length_take,Array.length_toList (xs:=cc),Nat.min_eq_left hnk,Nat.sub_mul]
  have hdg: ∀ q,q < (rows.length - i)*k→ds[q]?=cc[i*k+q]?:=fun q hq=>by
    rw [hds,List.getElem?_drop,List.getElem?_take,if_pos (by rw [Nat.sub_mul] at hq; omega),Array.getElem?_toList]
  have e9:(i+1)*k+(rows.length - i)*k=(rows.length+1)*k:=by rw [← Nat.add_mul]; congr 1; omega
  have e10:(i+1)*k=i*k+k:=by rw [Nat.add_mul,Nat.one_mul]
  by_cases hroom:rows.length+1≤cap
  · have hn1k:(rows.length+1)*k≤cc.size:=by rw [← e8]; exact Nat.mul_le_mul_right k hroom
    refine (aEJ L (x.σ id) rows.length cap i (x.σ id2) cap2 cc cv _ _ x.w hlt hroom (by unfold maxLen at e3; omega) hvb b1 v1 e8 hcv vs hvs h1c h1v).mono fun e w' h=>?_
    obtain ⟨rfl,rfl⟩:=h
    rw [← hds]
    have hs1:(put cc ((i+1)*k) ds).size=cc.size:=kL (by rw [hdl,e9]; exact hn1k)
    have hfit2:i*k+vs.length≤(put cc ((i+1)*k) ds).size:=by rw [hs1,hvl]; omega
    obtain ⟨dI,dF⟩:=fO hx (x.w.drawn+1) (Nat.le_succ _)
    obtain ⟨hI,hF⟩:=gW dI id ho cc (put (put cc ((i+1)*k) ds) (i*k) vs) (by rw [hH]; exact b1) (by rw [kL hfit2,hs1]) (ver+1) (rows.take i++row::rows.drop i) (by simp only [hH]; omega) (by simp only [hH]; omega) (by simp only [hH]; simp)
      (by simp only [hH]; exact hnew) (by simp only [hH]; rw [hnewl]; exact hn1k) (by
        simp only [hH]
        refine aBe hsz hsz1' hi (fun r row j v h5 h6=>(bb4 r row j v h5 h6).frame hx dF) (fun j v h5=>(hrow j v h5).frame hx dF) (fun q hq=>?_) (fun q hq=>?_) (fun q hq=>?_)
        · rw [iC hfit2,if_neg (by omega),iC (by rw [hdl,e9]; exact hn1k),if_neg (by omega)]
        · rw [iC hfit2,if_pos (by omega),Nat.add_sub_cancel_left]; exact hvg q hq
        · rw [iC hfit2,if_neg (by omega),iC (by rw [hdl,e9]; exact hn1k),if_pos (by rw [hdl]; omega),Nat.add_sub_cancel_left]; exact hdg q hq)
    refine ⟨_,_,rfl,?_,?_,hI,?_,dF.trans hF⟩
    · rfl
    · simp only [hH]
    · refine .ms _ _ _ _ _ _ _ (by simp [aG]) (fun _ _=>?_) fun _ _=>by simp only [aG,hH]; exact hmI
      simp only [aG,hH]
      refine ⟨trivial,hroom,e3,by rw [hnewl]; omega,fun _=>⟨by simp,?_⟩,fun h=>by simp [Blk.own] at h⟩
      have:bX (({x.w with drawn:=x.w.drawn+1}:World).setRow (x.σ id) (put (put cc ((i+1)*k) ds) (i*k) vs)) (x.σ id)=cc.size:=by
        have q:=setRow_heap ({x.w with drawn:=x.w.drawn+1}:World) (x.σ id) cc (put (put cc ((i+1)*k) ds) (i*k) vs) _ _ b1
        unfold bX
        rw [q]
        show (put (put cc ((i+1)*k) ds) (i*k) vs).size=cc.size
        rw [kL hfit2,hs1]
      rw [this,Nat.zero_add]; exact e8
  · refine (aGp L (x.σ id) rows.length cap i (x.σ id2) cap2 cc cv _ _ x.w hlt e2 (by omega) (by omega) hb b1 v1 e8 hcv vs hvs h1c h1v).mono fun e w' h=>?_
    obtain ⟨G,Rw,g1,g2,g3,rfl,rfl,g4⟩:=h
    rw [← hds]
    have hGk:(rows.length+1)*k≤Rw.size:=by rw [g1]; exact Nat.mul_le_mul_right k g2
    have hfit1:i*k+vs.length≤Rw.size:=by rw [hvl]; omega
    have hs1:(put Rw (i*k) vs).size=Rw.size:=kL hfit1
    have hfit2:(i+1)*k+ds.length≤(put Rw (i*k) vs).size:=by rw [hs1,hdl,e9]; exact hGk
    obtain ⟨dI,dF⟩:=fO hx (x.w.drawn+2) (by omega)
    obtain ⟨hI,hF⟩:=iM dI id (put (put Rw (i*k) vs) ((i+1)*k) ds) lz (ρ.t 9) k (rows.take i++row::rows.drop i) hnew (by rw [hnewl,kL hfit2,hs1]; exact hGk) (by
        refine aBe hsz hsz1' hi (fun r row j v h5 h6=>(bb4 r row j v h5 h6).frame hx dF) (fun j v h5=>(hrow j v h5).frame hx dF) (fun q hq=>?_) (fun q hq=>?_) (fun q hq=>?_)
        · rw [iC hfit2,if_neg (by omega),iC hfit1,if_neg (by omega)]
          have:=congrArg (fun l=>l[q]?) g4
          simp only [List.getElem?_take,if_pos hq,Array.getElem?_toList] at this
          exact this
        · rw [iC hfit2,if_neg (by omega),iC hfit1,if_pos (by omega),Nat.add_sub_cancel_left]; exact hvg q hq
        · rw [iC hfit2,if_pos (by rw [hdl]; omega),Nat.add_sub_cancel_left]; exact hdg q hq) hmI
    refine ⟨_,_,rfl,?_,?_,hI,?_,dF.trans hF⟩
    · rfl
    · simp only [hH]
    · refine .ms _ _ _ _ _ _ _ (by simp [aG,hH]) (fun _ _=>?_) fun _ _=>by simp only [aG]; exact hmI
      simp only [aG,hH]
      refine ⟨trivial,g2,g3,by rw [hnewl]; omega,fun _=>⟨by simp,?_⟩,fun h=>by simp [Blk.own] at h⟩
      rw [gL,kL hfit2,hs1,g1,Nat.zero_add]
theorem nP (L:InsLay P ρ n1 k bytes z) (hcf:cS P (ρ.f 22)) {zz:List V} (hzz:dZ P (ρ.t 9)=some zz) (hzl:zz.length=k) {id id2 ver ver2 ty2 i n:Nat} {rows:List (List V)} {row:List V} {H:aI}
    {lz:Bool} (hlz:(lz&&(rows.take n).isEmpty)=false) (hH:H id=⟨ver,true,lz,ρ.t 9,k,rows⟩) (hH2:H id2=⟨ver2,true,false,ty2,k,[row]⟩) (hne:id≠id2) (hn:n≤rows.length) (hi:i≤n)
    (hf:cP k (rows.take n)=true) (hf1:cP k [row]=true) (hb:(n+1)*bytes≤140737488355328) (hm:n+1≤9223372036854775807):
    dC P (ρ.f 22) [.ms id ver 0 n,iV i,.ms id2 ver2 0 1] H (.ms id (ver+2) 0 (n+1)) (upd H id ⟨ver+2,true,lz,ρ.t 9,k,(rows.take n).take i++row::(rows.take n).drop i⟩):=by
  refine ⟨hcf,fun x cs hxH hx hr=>?_⟩
  subst hxH
  obtain ⟨c0,c1,c2,rfl⟩: ∃ c0 c1 c2,cs=[c0,c1,c2]:=by
    have:=hr.1
    match cs with
    |[a,b,c]=>exact ⟨a,b,c,rfl⟩
    |[]=>simp at this
    |[_]=>simp at this
    |[_,_]=>simp at this
    |_::_::_::_::_=>simp at this
  have r0:R x (.ms id ver 0 n) c0:=hr.2 0 _ rfl
  have r1:R x (iV i) c1:=hr.2 1 _ rfl
  have r2:R x (.ms id2 ver2 0 1) c2:=hr.2 2 _ rfl
  have hc1:c1=.int .i64 i:=by
    unfold iV at r1
    cases r1; rfl
  subst hc1
  have hlz2:(lz&&rows.isEmpty)=false:=by
    cases lz with
    |false=>rfl
    | true =>
      cases rows with
      |nil=>simp at hlz
      |cons a l=>rfl
  have ho:(x.H id).own=true:=by rw [hH]; simp only [Blk.own,hlz2]; rfl
  have hM:(x.H id).isM=false:=by
    cases r0 with
    |ms _ _ _ _ b m cap hv hh hm=>exact hm (by rw [hH]) (by rw [hH])
  obtain ⟨cc,b1,bb2,bb3,bb4⟩:=hx.cel id ho hM
  have hlen:(rows.take n).length=n:=by rw [List.length_take]; omega
  obtain ⟨hI,hF⟩:=gW hx id ho cc cc b1 rfl (ver+1) (rows.take n) (by rw [hH]; exact Nat.le_succ _) (by rw [hH]; simp) (by rw [hH]; exact hlz) (fun r h=>bb2 r (by rw [hH]; exact List.mem_of_mem_take h))
    (by rw [hlen]; refine Nat.le_trans (Nat.mul_le_mul_right _ ?_) bb3; rw [hH]; exact hn) (fun r row j v h1 h2=>by
      rw [List.getElem?_take] at h1
      split at h1
      · exact bb4 r row j v (by rw [hH]; exact h1) h2
      · cases h1)
  have hw:x.w.setRow (x.σ id) cc=x.w:=setRow_self x.w _ cc _ _ b1
  rw [hw] at hI hF
  have q0:R {x with H:=upd x.H id ⟨ver+1,true,(x.H id).lz,(x.H id).ty,(x.H id).sz,rows.take n⟩} (.ms id (ver+1) 0 (rows.take n).length) c0:=by
    cases r0 with
    |ms _ _ _ _ b m cap hv hh hm=>
    obtain ⟨e1,e2,e3,e4,e5,e6⟩:=hh (by rw [hH]) (by rw [hH])
    obtain ⟨e7,e8⟩:=e5 ho
    refine .ms _ _ _ _ _ _ _ (by simp [aG]) (fun _ _=>?_) fun _ _=>by simp only [aG]; exact hM
    simp only [aG,hlen]
    exact ⟨e1,e2,e3,by omega,fun _=>⟨e7,e8⟩,fun h=>by rw [hH] at h; simp only [Blk.own,hlz] at h; cases h⟩
  have h:=aGn L hzz hzl hI (id:=id) (id2:=id2) (ver:=ver+1) (ver2:=ver2) (ty2:=ty2) (i:=i) (rows:=rows.take n) (row:=row) hlz (by simp [aG,hH]) (by simp only [aD _ _ (Ne.symm hne)]; exact hH2) hne (by rw [hlen]; exact hi) hf hf1 (by rw [hlen]; exact hb) (by rw [hlen]; exact hm) q0 (r2.frame hx hF)
  refine h.mono fun e w' h=>?_
  obtain ⟨c,y,rfl,h1,h2,h3,h4,h5⟩:=h
  refine ⟨c,y,rfl,h1,?_,h3,?_,hF.trans h5⟩
  · rw [h2]
    funext j
    by_cases e:j=id
    · subst e; simp only [aG]
    · simp only [aD _ _ e]
  · rw [hlen] at h4; exact h4
theorem vW (L:InsLay P ρ n1 k bytes z) (hcf:cS P (ρ.f 22)) {zz:List V} (hzz:dZ P (ρ.t 9)=some zz) (hzl:zz.length=k) {id id2 ver ver2 ty2:Nat} {row:List V} {H:aI}
    (hH:H id=⟨ver,true,true,ρ.t 9,k,[]⟩) (hH2:H id2=⟨ver2,true,false,ty2,k,[row]⟩) (hf1:cP k [row]=true) (hb:bytes≤140737488355328):
    dC P (ρ.f 22) [.ms id ver 0 0,iV 0,.ms id2 ver2 0 1] H (.ms id (ver+2) 0 1) (upd H id ⟨ver+2,true,true,ρ.t 9,k,[row]⟩):=by
  refine ⟨hcf,fun x cs hxH hx hr=>?_⟩
  subst hxH
  obtain ⟨c0,c1,c2,rfl⟩: ∃ c0 c1 c2,cs=[c0,c1,c2]:=by
    have:=hr.1
    match cs with
    |[a,b,c]=>exact ⟨a,b,c,rfl⟩
    |[]=>simp at this
    |[_]=>simp at this
    |[_,_]=>simp at this
    |_::_::_::_::_=>simp at this
  have r0:R x (.ms id ver 0 0) c0:=hr.2 0 _ rfl
  have r1:R x (iV 0) c1:=hr.2 1 _ rfl
  have r2:R x (.ms id2 ver2 0 1) c2:=hr.2 2 _ rfl
  have hc1:c1=.int .i64 0:=by
    unfold iV at r1
    cases r1; rfl
  subst hc1
  have hk:=L.hk
  have ho2:(x.H id2).own=true:=by rw [hH2]; rfl
  obtain ⟨i0,hi0,hz0,hzs,hzb⟩:=info_parts L.i9
  obtain ⟨y,c,hrun,y1,y2,y3,y4⟩:=vZ (P:=P) (esz:=k) (bytes:=bytes) (new:=[row]) hx L.t24 hi0 hzz hzs hzb hzl (by omega) (i:=id) (ver:=ver) (len:=0) (u:=.ms id2 ver2 0 1) (by rw [hH]) (by rw [hH]) (by rw [hH]; rfl) (by rw [hH]) (by rw [hH])
      (by simp [jL,hH2]) hf1 (by simpa using hb) (by simp) r0 r2 0
  have hcall:Calls P (ρ.f 22) #[c0,.int .i64 0,c2] x.w fun e w'=>e=.returned c∧w'=y.w:=by
    cases r2 with
    |ms _ _ _ _ b2 m2 cap2 hv2 hh2 hm2=>
    obtain ⟨d1,d2,d3,d4,d5,d6⟩:=hh2 (by rw [hH2]) (by rw [hH2])
    obtain ⟨d7,d8⟩:=d5 ho2
    subst d1; subst d7
    simp only [Nat.zero_mul] at hrun ⊢
    cases r0 with
    | ms _ _ _ _ b n cap hv hh hm =>
      obtain ⟨e1,e2,e3,e4,e5,e6⟩:=hh (by rw [hH]) (by rw [hH])
      have hcap:=e6 (by rw [hH]; rfl)
      subst e1; subst hcap
      cases b with
      |none=>exact aFE L (x.σ id2) cap2 x.w y.w c (fun _=>hrun)
      |some a=>exact aGV L a (x.σ id2) cap2 x.w y.w c (fun _=>hrun)
  refine hcall.mono fun e w' h=>?_
  obtain ⟨rfl,rfl⟩:=h
  have hyi:y.H id=⟨ver+1,true,true,ρ.t 9,k,[row]⟩:=by rw [y1,hH]; simp [aG]
  have hfin:sR y.H (upd y.H id ⟨ver+2,true,true,ρ.t 9,k,[row]⟩):=fun j=>by
    by_cases e:j=id
    · subst e; rw [aG,hyi]; exact iU.up (by omega) rfl
    · rw [aD _ _ e]; exact .refl _
  obtain ⟨f1,f2⟩:=oQ y2 hfin
  have f3:=eA.ms hfin (id:=id) (ver:=ver+1) (n:=ver+2) (off:=0) (len:=0+[row].length) (by rw [hyi]) (by rw [hyi]) (by simp) (by simp)
  refine ⟨c,xD y _,rfl,rfl,?_,f1,f3 y c rfl y2 y4,y3.trans f2⟩
  show upd y.H id _=_
  rw [y1]
  funext j
  by_cases e:j=id
  · subst e; simp only [aG]
  · simp only [aD _ _ e]
theorem uW (L : InsLay P ρ n1 k bytes z) (hcf : cS P (ρ.f 22)) {zz : List V} (hzz : dZ P (ρ.t 9) = some zz) (hzl : zz.length = k) {id id2 ver ver2 ty2 i n : Nat} {rows : List (List V)} {row : List V} {H : aI}
    {lz:Bool} (hn:n=rows.length) (hH:H id=⟨ver,true,lz,ρ.t 9,k,rows⟩) (hH2:H id2=⟨ver2,true,false,ty2,k,[row]⟩) (hne:id≠id2) (hi:i≤n)
    (hf:cP k rows=true) (hf1:cP k [row]=true) (hb:(n+1)*bytes≤140737488355328) (hm:n+1≤9223372036854775807):
    dC P (ρ.f 22) [.ms id ver 0 n,iV i,.ms id2 ver2 0 1] H (.ms id (ver+2) 0 (n+1)) (upd H id ⟨ver+2,true,lz,ρ.t 9,k,rows.take i++row::rows.drop i⟩):=by
  subst hn
  by_cases h0:(lz&&rows.isEmpty)=false
  · have:=nP L hcf hzz hzl (i:=i) (by rw [List.take_length]; exact h0) hH hH2 hne (Nat.le_refl _) hi (by rw [List.take_length]; exact hf) hf1 hb hm
    rw [List.take_length] at this
    exact this
  · cases lz with
    |false=>exact (h0 rfl).elim
    | true =>
      cases rows with
      |cons a l=>exact (h0 rfl).elim
      | nil =>
        have hi0:i=0:=by simpa using hi
        subst hi0
        exact vW L hcf hzz hzl hH hH2 hf1 (by simpa using hb)
end
end Go.Proofs.YtmnnhjhkaepbaaaGreat
namespace Go.Proofs.YtmnnhjhkaepbaaaGreat
open Go Go.Proofs Go.Shelf Go.Lib
def aFc (f ty k bytes : Nat) : jM := fun g args H =>
  if g=f then match args with
    | [.ms id ver 0 n, .int .i64 i, .ms id2 ver2 0 1] => match H id2 with
      | ⟨v2, true, false, _, k2, [row]⟩ => match H id with
        | ⟨v1, true, lz, ty1, k1, rows⟩ =>
          if ((lz && (rows.take n).isEmpty) = false ∨ n = rows.length) ∧ v1 = ver ∧ v2 = ver2 ∧ k1 = k ∧ k2 = k ∧ ty1 = ty ∧ id ≠ id2 ∧ n ≤ rows.length ∧ i.toNat ≤ n ∧ 0 ≤ i ∧ (n + 1) * bytes ≤ 140737488355328 ∧ n + 1 ≤ 9223372036854775807 then
            if cP k (rows.take n)&&cP k [row] then
              some (.ms id (ver+2) 0 (n+1),upd H id ⟨ver+2,true,lz,ty,k,(rows.take n).take i.toNat++row::(rows.take n).drop i.toNat⟩)
            else none
          else none
        |_=>none
      |_=>none
    |_=>none
  else none
theorem aAw {P : Program} {ρ : Ren} {n1 : String} {k bytes : Nat} {z : Value} (L : InsLay P ρ n1 k bytes z) (hcf : cS P (ρ.f 22)) {zz : List V} (hzz : dZ P (ρ.t 9) = some zz) (hzl : zz.length = k) : gD P (aFc (ρ.f 22) (ρ.t 9) k bytes) := by
  intro g args H v H' h
  unfold aFc at h
  split at h
  · rename_i hg
    subst hg
    split at h
    · rename_i id ver n i id2 ver2
      split at h
      · rename_i v2 ty2 k2 row h2
        split at h
        · rename_i v1 lz ty1 k1 rows h1
          split at h
          · rename_i hc
            obtain ⟨c0,rfl,rfl,rfl,rfl,rfl,c1,c2,c3,c4,c5,c6⟩:=hc
            split at h
            · rename_i hf
              simp only [Bool.and_eq_true] at hf
              cases h
              rcases c0 with c0|c0
              · have:=nP L hcf hzz hzl (i:=i.toNat) c0 h1 h2 c1 c2 c3 hf.1 hf.2 c5 c6
                unfold iV at this
                rw [Int.toNat_of_nonneg c4] at this
                exact this
              · have hf1:=hf.1
                rw [c0,List.take_length] at hf1
                have:=uW L hcf hzz hzl (i:=i.toNat) c0 h1 h2 c1 c3 hf1 hf.2 c5 c6
                unfold iV at this
                rw [Int.toNat_of_nonneg c4] at this
                have e:rows.take n=rows:=by rw [c0,List.take_length]
                rw [e]
                exact this
            · cases h
          · cases h
        · cases h
      · cases h
    · cases h
  · cases h
end Go.Proofs.YtmnnhjhkaepbaaaGreat
namespace Go.Proofs.YtmnnhjhkaepbaaaGreat
open Go Go.Proofs Go.Shelf
def aEX:Go.Shelf.Ren:=⟨fun|22=>136|29=>180|30=>181|n=>n,fun|24=>22|9=>25|n=>n,fun n=>n⟩
theorem aEW:InsLay Tryz.prog aEX Tryz.f136.name 1 24 (.slice none 0 0):={
  mixed:=by kernel_rfl
  f22:=Tryz.func136.trans (congrArg some (by kernel_rfl))
  ov:=fun args w=>run_callFunc_extern Tryz.func180 (by kernel_rfl) (by kernel_rfl) (by kernel_rfl) (by kernel_rfl) args w
  t0:=Tryz.underlying0,a0:=Tryz.isAgg0,z0:=Tryz.sizeOf0,v0:=Tryz.zeroValue0
  t3:=Tryz.underlying3,a3:=Tryz.isAgg3,z3:=Tryz.sizeOf3,v3:=Tryz.zeroValue3
  t4:=Tryz.underlying4,a4:=Tryz.isAgg4,z4:=Tryz.sizeOf4,v4:=Tryz.zeroValue4
  z9:=Tryz.sizeOf25
  t24:=Tryz.underlying22,a24:=Tryz.isAgg22,z24:=Tryz.sizeOf22,v24:=Tryz.zeroValue22
  i9:=by kernel_rfl
  hk:=by decide
  hz:=by kernel_rfl}
theorem aCf:cS Tryz.prog 136:=⟨_,Tryz.func136,by kernel_rfl,by kernel_rfl⟩
def vP:jM:=aFc 136 25 1 24
theorem wN:gD Tryz.prog vP:=aAw aEW aCf (zz:=[V.nilsl]) (by kernel_rfl) rfl
end Go.Proofs.YtmnnhjhkaepbaaaGreat
namespace Go.Proofs.YtmnnhjhkaepbaaaGreat
open Go Go.Proofs Go.Shelf
def aEQ:Go.Shelf.Ren:=⟨fun|22=>137|29=>182|30=>183|n=>n,fun|24=>25|9=>3|n=>n,fun n=>n⟩
theorem aED:InsLay Tryz.prog aEQ Tryz.f137.name 1 8 (.int .i64 0):={
  mixed:=by kernel_rfl
  f22:=Tryz.func137.trans (congrArg some (by kernel_rfl))
  ov:=fun args w=>run_callFunc_extern Tryz.func182 (by kernel_rfl) (by kernel_rfl) (by kernel_rfl) (by kernel_rfl) args w
  t0:=Tryz.underlying0,a0:=Tryz.isAgg0,z0:=Tryz.sizeOf0,v0:=Tryz.zeroValue0
  t3:=Tryz.underlying3,a3:=Tryz.isAgg3,z3:=Tryz.sizeOf3,v3:=Tryz.zeroValue3
  t4:=Tryz.underlying4,a4:=Tryz.isAgg4,z4:=Tryz.sizeOf4,v4:=Tryz.zeroValue4
  z9:=Tryz.sizeOf3
  t24:=Tryz.underlying25,a24:=Tryz.isAgg25,z24:=Tryz.sizeOf25,v24:=Tryz.zeroValue25
  i9:=by kernel_rfl
  hk:=by decide
  hz:=by kernel_rfl}
theorem aCl:cS Tryz.prog 137:=⟨_,Tryz.func137,by kernel_rfl,by kernel_rfl⟩
def uJ:jM:=aFc 137 3 1 8
theorem wX:gD Tryz.prog uJ:=aAw aED aCl (zz:=[V.int .i64 0]) (by kernel_rfl) rfl
end Go.Proofs.YtmnnhjhkaepbaaaGreat
namespace Go.Proofs.YtmnnhjhkaepbaaaGreat
open Go Go.Proofs Go.Shelf Go.Lib
section
variable {P:Program} {ρ:Go.Shelf.Ren}
theorem aA1 (L : Lays8.n4 P ρ) (hcf : cS P (ρ.f 4)) (i0 : TypeInfo) (z : Value) (hi0 : P.info? (ρ.t 25) = some i0) (hz0 : i0.zero = some z) (hs0 : 0 < i0.size) (hzs : z.cells.size = i0.size)
    {n:Nat} (hb:n*i0.bytes≤140737488355328) (h63:n≤4611686018427387904) (id:Nat) (H:aI) (hty:ρ.t 25 < 4294967296:=by decide):
    dC P (ρ.f 4) [.nilsl,iV (n:Nat)] H (.ms id ((H id).ver+1) 0 0) (upd H id ⟨(H id).ver+1,true,decide (n=0),ρ.t 25,i0.size,[]⟩):=by
  refine ⟨hcf,fun x cs hxH hx hr=>?_⟩
  subst hxH
  obtain ⟨c0,c1,rfl⟩: ∃ c0 c1,cs=[c0,c1]:=by
    have:=hr.1
    match cs with
    |[a,b]=>exact ⟨a,b,rfl⟩
    |[]=>simp at this
    |[_]=>simp at this
    |_::_::_::_=>simp at this
  have r0:R x .nilsl c0:=hr.2 0 _ rfl
  have r1:R x (iV (n:Nat)) c1:=hr.2 1 _ rfl
  have hc0:c0=.slice none 0 0:=by cases r0; rfl
  have hc1:c1=.int .i64 (n:Nat):=by unfold iV at r1; cases r1; rfl
  subst hc0; subst hc1
  by_cases hn:n=0
  · subst hn
    refine (Any8.slices_Grow_room L none 0 0 0 x.w (Nat.le_refl _) (by decide) (by decide) (by decide)).mono fun e w' h=>?_
    obtain ⟨rfl,rfl⟩:=h
    obtain ⟨h1,h2,h3⟩:=iB hx id (ρ.t 25) i0.size hty
    exact ⟨_,{x with H:=upd x.H id ⟨(x.H id).ver+1,true,true,ρ.t 25,i0.size,[]⟩},rfl,rfl,by simp,h1,h3 _,h2⟩
  · refine (Any8.slices_Grow_grow L i0 z hi0 hz0 hs0 none 0 0 n [] x.w (Nat.le_refl _) (by omega) (by simpa using hb) (by simpa using h63) (by simp) (fun _=>rfl) (fun a h=>by cases h)).mono fun e w' h=>?_
    obtain ⟨rfl,rfl⟩:=h
    obtain ⟨dI,dF⟩:=fO hx (x.w.drawn+1) (Nat.le_succ _)
    have hge:0+n≤grownCap x.w (0+n) 0 (ρ.t 25):=grownCap_ge x.w _ _ _
    have hle:=grownCap_le_maxLen x.w (0+n) 0 (ρ.t 25) (by unfold maxLen; omega)
    generalize hG:grownCap x.w (0+n) 0 (ρ.t 25)=G at hge hle
    have hsz:((#[]:Array Value)++Builtin.zeroCells z.cells (0+n - 0)++Builtin.zeroCells z.cells (G - (0+n))).size=G*i0.size:=by
      have zc: ∀ m,(Builtin.zeroCells z.cells m).size=m*i0.size:=fun m=>by
        rw [size_zeroCells,hzs]
      rw [Array.size_append,Array.size_append,zc,zc]
      simp only [Array.size_empty,Nat.zero_add,Nat.sub_zero]
      rw [← Nat.add_mul]; congr 1; omega
    have hrf:([].toArray:Array Value)=#[]:=rfl
    rw [hrf]
    generalize ((#[]:Array Value)++Builtin.zeroCells z.cells (0+n - 0)++Builtin.zeroCells z.cells (G - (0+n)))=cc at hsz
    obtain ⟨h1,h2⟩:=iM dI id cc false (ρ.t 25) i0.size [] (by simp) (by simp) (fun r row j v h=>by simp at h)
    refine ⟨_,_,rfl,rfl,by simp [hn],h1,?_,dF.trans h2⟩
    refine .ms _ _ _ _ _ _ _ (by simp [aG]) (fun _ _=>?_) fun _ _=>by simp only [aG]; rfl
    simp only [aG]
    refine ⟨trivial,Nat.zero_le _,hle,by simp,fun _=>⟨by simp [World.drew],?_⟩,fun h=>by simp [Blk.own] at h⟩
    simp only [Nat.zero_add]
    unfold bX
    have:(({x.w with drawn:=x.w.drawn+1}:World).alloc (.cells cc (ρ.t 25))).heap[({x.w with drawn:=x.w.drawn+1}:World).heap.size]?=some (.cells cc (ρ.t 25)):=fJ _ _
    rw [this]
    exact hsz.symm
def aC3 (f id ty k bytes : Nat) : jM := fun g args H =>
  if g=f then match args with
    |[.nilsl,.int .i64 n]=>if 0≤n∧n.toNat*bytes≤140737488355328∧n.toNat≤4611686018427387904 then
        some (.ms id ((H id).ver+1) 0 0,upd H id ⟨(H id).ver+1,true,decide (n.toNat=0),ty,k,[]⟩) else none
    |_=>none
  else none
theorem aFq (L : Lays8.n4 P ρ) (hcf : cS P (ρ.f 4)) (i0 : TypeInfo) (z : Value) (hi0 : P.info? (ρ.t 25) = some i0) (hz0 : i0.zero = some z) (hs0 : 0 < i0.size) (hzs : z.cells.size = i0.size) (id : Nat) (hty : ρ.t 25 < 4294967296 := by decide) :
    gD P (aC3 (ρ.f 4) id (ρ.t 25) i0.size i0.bytes):=by
  intro g args H v H' h
  unfold aC3 at h
  split at h
  · rename_i hg
    subst hg
    split at h
    · rename_i n
      split at h
      · rename_i hc
        cases h
        have:=aA1 L hcf i0 z hi0 hz0 hs0 hzs (n:=n.toNat) hc.2.1 hc.2.2 id H hty
        rw [Int.toNat_of_nonneg hc.1] at this
        exact this
      · cases h
    · cases h
  · cases h
theorem aEH (L:Lays8.n4 P ρ) (hcf:cS P (ρ.f 4)) {k b:Nat} {z:Value} (hi:(P.info? (ρ.t 25)).map (fun i=>(i.zero,i.size,i.bytes))=some (some z,k,b)) (hs0:0 < k) (hzs:z.cells.size=k) (id:Nat) (hty:ρ.t 25 < 4294967296:=by decide):
    gD P (aC3 (ρ.f 4) id (ρ.t 25) k b):=by
  obtain ⟨i0,h1,h2⟩:=Option.map_eq_some_iff.1 hi
  simp only [Prod.mk.injEq] at h2
  obtain ⟨h3,h4,h5⟩:=h2
  subst h4; subst h5
  exact aFq L hcf i0 z h1 h3 hs0 hzs id hty
def orP (p q:jM):jM:=fun f args H=>match p f args H with
  |some r=>some r
  |none=>q f args H
theorem aCA {p q:jM} (hp:gD P p) (hq:gD P q):gD P (orP p q):=by
  intro f args H v H' h
  unfold orP at h
  split at h
  · rename_i r hr; cases h; exact hp _ _ _ _ _ hr
  · exact hq _ _ _ _ _ h
end
end Go.Proofs.YtmnnhjhkaepbaaaGreat
namespace Go.Proofs.YtmnnhjhkaepbaaaGreat
open Go Go.Proofs Go.Shelf
def aCc:Go.Shelf.Ren:=⟨fun|4=>196|n=>n,fun|22=>25|25=>3|3=>3|4=>4|9=>9|20=>20|0=>0|n=>n,fun n=>n⟩
theorem aB9:Lays8.n4 Tryz.prog aCc:={
  mixed:=(by kernel_rfl),
  f4:=⟨Tryz.f196.name,by decide,Tryz.func196.trans (congrArg some (by kernel_rfl))⟩,
  t0:=Tryz.underlying0,
  a0:=Tryz.isAgg0,
  z0:=Tryz.sizeOf0,
  v0:=Tryz.zeroValue0,
  t3:=Tryz.underlying3,
  a3:=Tryz.isAgg3,
  z3:=Tryz.sizeOf3,
  v3:=Tryz.zeroValue3,
  t4:=Tryz.underlying4,
  a4:=Tryz.isAgg4,
  z4:=Tryz.sizeOf4,
  v4:=Tryz.zeroValue4,
  t9:=Tryz.underlying9,
  a9:=Tryz.isAgg9,
  z9:=Tryz.sizeOf9,
  v9:=Tryz.zeroValue9,
  t20:=Tryz.underlying20,
  a20:=Tryz.isAgg20,
  z20:=Tryz.sizeOf20,
  v20:=Tryz.zeroValue20,
  t22:=Tryz.underlying25,
  a22:=Tryz.isAgg25,
  z22:=Tryz.sizeOf25,
  v22:=Tryz.zeroValue25}
theorem aBs:cS Tryz.prog 196:=⟨_,Tryz.func196,by kernel_rfl,by kernel_rfl⟩
theorem aBp:(Tryz.prog.info? 3).map (fun i=>(i.zero,i.size,i.bytes))=some (some (.int .i64 0),1,8):=by kernel_rfl
def sC (id:Nat):jM:=aC3 196 id 3 1 8
theorem uO (id:Nat):gD Tryz.prog (sC id):=aEH aB9 aBs aBp (by decide) rfl id
end Go.Proofs.YtmnnhjhkaepbaaaGreat
namespace Go.Proofs.YtmnnhjhkaepbaaaGreat
open Go Go.Proofs Go.Shelf
def aEg:Go.Shelf.Ren:=⟨fun|22=>230|29=>236|30=>237|n=>n,fun|24=>65|9=>169|n=>n,fun n=>n⟩
theorem aEL:InsLay Tryz.prog aEg Tryz.f230.name 2 48 (.agg #[.slice none 0 0,.slice none 0 0]):={
  mixed:=by kernel_rfl
  f22:=Tryz.func230.trans (congrArg some (by kernel_rfl))
  ov:=fun args w=>run_callFunc_extern Tryz.func236 (by kernel_rfl) (by kernel_rfl) (by kernel_rfl) (by kernel_rfl) args w
  t0:=Tryz.underlying0,a0:=Tryz.isAgg0,z0:=Tryz.sizeOf0,v0:=Tryz.zeroValue0
  t3:=Tryz.underlying3,a3:=Tryz.isAgg3,z3:=Tryz.sizeOf3,v3:=Tryz.zeroValue3
  t4:=Tryz.underlying4,a4:=Tryz.isAgg4,z4:=Tryz.sizeOf4,v4:=Tryz.zeroValue4
  z9:=Tryz.sizeOf169
  t24:=Tryz.underlying65,a24:=Tryz.isAgg65,z24:=Tryz.sizeOf65,v24:=Tryz.zeroValue65
  i9:=by kernel_rfl
  hk:=by decide
  hz:=by kernel_rfl}
theorem aCm:cS Tryz.prog 230:=⟨_,Tryz.func230,by kernel_rfl,by kernel_rfl⟩
def tX:jM:=aFc 230 169 2 48
theorem wZ:gD Tryz.prog tX:=aAw aEL aCm (zz:=[V.nilsl,V.nilsl]) (by kernel_rfl) rfl
end Go.Proofs.YtmnnhjhkaepbaaaGreat
namespace Go.Proofs.YtmnnhjhkaepbaaaGreat
open Go Go.Proofs
def awT:FT:=(.nd 119 ⟨aLN,[]⟩ (.nd 57 ⟨s57,[]⟩ (.nd 31 ⟨s31,[]⟩ (.nd 22 ⟨s22,[]⟩ (.nd 14 ⟨s14,[]⟩ (.nd 10 ⟨s10,[(39,5999100200),(39,7999100300)]⟩ (.nd 9 ⟨s9,[]⟩ .lf .lf) (.nd 12 ⟨s12,[]⟩ .lf .lf)) (.nd 18 ⟨s18,[(52,1001101000)]⟩ (.nd 15 ⟨s15,[]⟩ .lf .lf) (.nd 20 ⟨s20,[]⟩ .lf .lf))) (.nd 28 ⟨s28,[]⟩ (.nd 25 ⟨s25,[(70,1000075),(64,69025100702),(70,81025100703),(66,10)]⟩ (.nd 23 ⟨s23,[]⟩ .lf .lf) (.nd 27 ⟨s27,[]⟩ .lf .lf)) (.nd 30 ⟨s30,[(36,1000041),(36,47025100502),(48,1998104600),(48,53025100503),(50,22),(55,1001100502),(55,1001100503)]⟩ (.nd 29 ⟨s29,[]⟩ .lf .lf) .lf))) (.nd 47 ⟨s47,[]⟩ (.nd 39 ⟨s39,[]⟩ (.nd 35 ⟨s35,[]⟩ (.nd 33 ⟨s33,[]⟩ .lf .lf) (.nd 36 ⟨s36,[]⟩ .lf .lf)) (.nd 41 ⟨s41,[(42,9)]⟩ (.nd 40 ⟨s40,[(24,9)]⟩ .lf .lf) (.nd 45 ⟨s45,[(47,5999100200),(47,7999100300)]⟩ .lf .lf))) (.nd 54 ⟨s54,[]⟩ (.nd 49 ⟨s49,[]⟩ (.nd 48 ⟨s48,[(70,75025100902),(76,86025100903),(72,50)]⟩ .lf .lf) (.nd 53 ⟨s53,[]⟩ .lf .lf)) (.nd 56 ⟨s56,[(110,116025101202),(118,124025101203),(115,14),(123,15)]⟩ (.nd 55 ⟨s55,[]⟩ .lf .lf) .lf)))) (.nd 85 ⟨s85,[(73,6)]⟩ (.nd 75 ⟨s75,[]⟩ (.nd 70 ⟨s70,[(80,85025100802),(86,91025100803),(82,11),(88,12)]⟩ (.nd 59 ⟨s59,[]⟩ (.nd 58 ⟨s58,[]⟩ .lf .lf) (.nd 69 ⟨s69,[]⟩ .lf .lf)) (.nd 73 ⟨s73,[]⟩ (.nd 71 ⟨s71,[]⟩ .lf .lf) (.nd 74 ⟨s74,[]⟩ .lf .lf))) (.nd 81 ⟨s81,[]⟩ (.nd 77 ⟨s77,[]⟩ (.nd 76 ⟨s76,[]⟩ .lf .lf) (.nd 78 ⟨s78,[]⟩ .lf .lf)) (.nd 84 ⟨s84,[]⟩ (.nd 83 ⟨s83,[]⟩ .lf .lf) .lf))) (.nd 93 ⟨s93,[]⟩ (.nd 89 ⟨s89,[]⟩ (.nd 87 ⟨s87,[]⟩ (.nd 86 ⟨s86,[]⟩ .lf .lf) (.nd 88 ⟨s88,[]⟩ .lf .lf)) (.nd 91 ⟨s91,[]⟩ (.nd 90 ⟨s90,[]⟩ .lf .lf) (.nd 92 ⟨s92,[]⟩ .lf .lf))) (.nd 97 ⟨s97,[(104,17)]⟩ (.nd 95 ⟨s95,[(29,1000032),(143,14)]⟩ (.nd 94 ⟨s94,[]⟩ .lf .lf) (.nd 96 ⟨s96,[]⟩ .lf .lf)) (.nd 116 ⟨aPQ,[]⟩ (.nd 98 ⟨s98,[]⟩ .lf .lf) .lf))))) (.nd 177 ⟨aLb,[]⟩ (.nd 139 ⟨aPE,[]⟩ (.nd 130 ⟨aPO,[]⟩ (.nd 123 ⟨aHr,[(26,14)]⟩ (.nd 121 ⟨aOC,[]⟩ (.nd 120 ⟨aMr,[]⟩ .lf .lf) (.nd 122 ⟨aOp,[]⟩ .lf .lf)) (.nd 126 ⟨aLY,[]⟩ (.nd 125 ⟨aO6,[]⟩ .lf .lf) (.nd 127 ⟨aL8,[]⟩ .lf .lf))) (.nd 134 ⟨aNi,[]⟩ (.nd 132 ⟨aOd,[]⟩ (.nd 131 ⟨aPP,[]⟩ .lf .lf) (.nd 133 ⟨aNT,[]⟩ .lf .lf)) (.nd 138 ⟨aPy,[]⟩ (.nd 135 ⟨aO9,[(28,1000031),(58,1000061)]⟩ .lf .lf) .lf))) (.nd 169 ⟨aHQ,[]⟩ (.nd 143 ⟨aMH,[]⟩ (.nd 141 ⟨aL7,[]⟩ (.nd 140 ⟨aNn,[(60,76003105009)]⟩ .lf .lf) (.nd 142 ⟨aL2,[]⟩ .lf .lf)) (.nd 145 ⟨aLu,[]⟩ (.nd 144 ⟨aPg,[]⟩ .lf .lf) (.nd 168 ⟨aNv,[]⟩ .lf .lf))) (.nd 174 ⟨aJc,[]⟩ (.nd 171 ⟨aO4,[]⟩ (.nd 170 ⟨aNY,[]⟩ .lf .lf) (.nd 172 ⟨aO8,[]⟩ .lf .lf)) (.nd 176 ⟨aI8,[]⟩ (.nd 175 ⟨aHV,[]⟩ .lf .lf) .lf)))) (.nd 215 ⟨aJH,[]⟩ (.nd 189 ⟨aMQ,[]⟩ (.nd 185 ⟨aLv,[]⟩ (.nd 179 ⟨aNI,[]⟩ (.nd 178 ⟨aPb,[]⟩ .lf .lf) (.nd 184 ⟨aPj,[]⟩ .lf .lf)) (.nd 187 ⟨aOB,[]⟩ (.nd 186 ⟨aLR,[]⟩ .lf .lf) (.nd 188 ⟨aNr,[]⟩ .lf .lf))) (.nd 193 ⟨aK7,[]⟩ (.nd 191 ⟨aOS,[]⟩ (.nd 190 ⟨aNw,[]⟩ .lf .lf) (.nd 192 ⟨aPI,[]⟩ .lf .lf)) (.nd 195 ⟨aM0,[]⟩ (.nd 194 ⟨aNe,[]⟩ .lf .lf) .lf))) (.nd 224 ⟨aMS,[]⟩ (.nd 219 ⟨aOx,[]⟩ (.nd 217 ⟨aJM,[]⟩ (.nd 216 ⟨aIG,[]⟩ .lf .lf) (.nd 218 ⟨aIv,[]⟩ .lf .lf)) (.nd 223 ⟨aOI,[]⟩ (.nd 220 ⟨aOz,[]⟩ .lf .lf) .lf)) (.nd 228 ⟨aLj,[]⟩ (.nd 226 ⟨aOL,[]⟩ (.nd 225 ⟨aPA,[]⟩ .lf .lf) (.nd 227 ⟨aMb,[]⟩ .lf .lf)) (.nd 235 ⟨aHd,[]⟩ (.nd 229 ⟨aNk,[]⟩ .lf .lf) .lf))))))
theorem awG:aA3 Tryz.prog awT.find:=FT.good fun p hp=>by
  have e:awT.list=[(119,⟨aLN,[]⟩),(57,⟨s57,[]⟩),(31,⟨s31,[]⟩),(22,⟨s22,[]⟩),(14,⟨s14,[]⟩),(10,⟨s10,[(39,5999100200),(39,7999100300)]⟩),(9,⟨s9,[]⟩),(12,⟨s12,[]⟩),(18,⟨s18,[(52,1001101000)]⟩),(15,⟨s15,[]⟩),(20,⟨s20,[]⟩),(28,⟨s28,[]⟩),(25,⟨s25,[(70,1000075),(64,69025100702),(70,81025100703),(66,10)]⟩),(23,⟨s23,[]⟩),(27,⟨s27,[]⟩),(30,⟨s30,[(36,1000041),(36,47025100502),(48,1998104600),(48,53025100503),(50,22),(55,1001100502),(55,1001100503)]⟩),(29,⟨s29,[]⟩),(47,⟨s47,[]⟩),(39,⟨s39,[]⟩),(35,⟨s35,[]⟩),(33,⟨s33,[]⟩),(36,⟨s36,[]⟩),(41,⟨s41,[(42,9)]⟩),(40,⟨s40,[(24,9)]⟩),(45,⟨s45,[(47,5999100200),(47,7999100300)]⟩),(54,⟨s54,[]⟩),(49,⟨s49,[]⟩),(48,⟨s48,[(70,75025100902),(76,86025100903),(72,50)]⟩),(53,⟨s53,[]⟩),(56,⟨s56,[(110,116025101202),(118,124025101203),(115,14),(123,15)]⟩),(55,⟨s55,[]⟩),(85,⟨s85,[(73,6)]⟩),(75,⟨s75,[]⟩),(70,⟨s70,[(80,85025100802),(86,91025100803),(82,11),(88,12)]⟩),(59,⟨s59,[]⟩),(58,⟨s58,[]⟩),(69,⟨s69,[]⟩),(73,⟨s73,[]⟩),(71,⟨s71,[]⟩),(74,⟨s74,[]⟩),(81,⟨s81,[]⟩),(77,⟨s77,[]⟩),(76,⟨s76,[]⟩),(78,⟨s78,[]⟩),(84,⟨s84,[]⟩),(83,⟨s83,[]⟩),(93,⟨s93,[]⟩),(89,⟨s89,[]⟩),(87,⟨s87,[]⟩),(86,⟨s86,[]⟩),(88,⟨s88,[]⟩),(91,⟨s91,[]⟩),(90,⟨s90,[]⟩),(92,⟨s92,[]⟩),(97,⟨s97,[(104,17)]⟩),(95,⟨s95,[(29,1000032),(143,14)]⟩),(94,⟨s94,[]⟩),(96,⟨s96,[]⟩),(116,⟨aPQ,[]⟩),(98,⟨s98,[]⟩),(177,⟨aLb,[]⟩),(139,⟨aPE,[]⟩),(130,⟨aPO,[]⟩),(123,⟨aHr,[(26,14)]⟩),(121,⟨aOC,[]⟩),(120,⟨aMr,[]⟩),(122,⟨aOp,[]⟩),(126,⟨aLY,[]⟩),(125,⟨aO6,[]⟩),(127,⟨aL8,[]⟩),(134,⟨aNi,[]⟩),(132,⟨aOd,[]⟩),(131,⟨aPP,[]⟩),(133,⟨aNT,[]⟩),(138,⟨aPy,[]⟩),(135,⟨aO9,[(28,1000031),(58,1000061)]⟩),(169,⟨aHQ,[]⟩),(143,⟨aMH,[]⟩),(141,⟨aL7,[]⟩),(140,⟨aNn,[(60,76003105009)]⟩),(142,⟨aL2,[]⟩),(145,⟨aLu,[]⟩),(144,⟨aPg,[]⟩),(168,⟨aNv,[]⟩),(174,⟨aJc,[]⟩),(171,⟨aO4,[]⟩),(170,⟨aNY,[]⟩),(172,⟨aO8,[]⟩),(176,⟨aI8,[]⟩),(175,⟨aHV,[]⟩),(215,⟨aJH,[]⟩),(189,⟨aMQ,[]⟩),(185,⟨aLv,[]⟩),(179,⟨aNI,[]⟩),(178,⟨aPb,[]⟩),(184,⟨aPj,[]⟩),(187,⟨aOB,[]⟩),(186,⟨aLR,[]⟩),(188,⟨aNr,[]⟩),(193,⟨aK7,[]⟩),(191,⟨aOS,[]⟩),(190,⟨aNw,[]⟩),(192,⟨aPI,[]⟩),(195,⟨aM0,[]⟩),(194,⟨aNe,[]⟩),(224,⟨aMS,[]⟩),(219,⟨aOx,[]⟩),(217,⟨aJM,[]⟩),(216,⟨aIG,[]⟩),(218,⟨aIv,[]⟩),(223,⟨aOI,[]⟩),(220,⟨aOz,[]⟩),(228,⟨aLj,[]⟩),(226,⟨aOL,[]⟩),(225,⟨aPA,[]⟩),(227,⟨aMb,[]⟩),(235,⟨aHd,[]⟩),(229,⟨aNk,[]⟩)]:=by kernel_rfl
  rw [e] at hp
  simp only [List.mem_cons,List.not_mem_nil,or_false] at hp
  rcases hp with rfl|rfl|rfl|rfl|rfl|rfl|rfl|rfl|rfl|rfl|rfl|rfl|rfl|rfl|rfl|rfl|rfl|rfl|rfl|rfl|rfl|rfl|rfl|rfl|rfl|rfl|rfl|rfl|rfl|rfl|rfl|rfl|rfl|rfl|rfl|rfl|rfl|rfl|rfl|rfl|rfl|rfl|rfl|rfl|rfl|rfl|rfl|rfl|rfl|rfl|rfl|rfl|rfl|rfl|rfl|rfl|rfl|rfl|rfl|rfl|rfl|rfl|rfl|rfl|rfl|rfl|rfl|rfl|rfl|rfl|rfl|rfl|rfl|rfl|rfl|rfl|rfl|rfl|rfl|rfl|rfl|rfl|rfl|rfl|rfl|rfl|rfl|rfl|rfl|rfl|rfl|rfl|rfl|rfl|rfl|rfl|rfl|rfl|rfl|rfl|rfl|rfl|rfl|rfl|rfl|rfl|rfl|rfl|rfl|rfl|rfl|rfl|rfl|rfl|rfl|rfl|rfl|rfl
  · exact ⟨_,_,Tryz.func119,aIN,by kernel_rfl⟩
  · exact ⟨_,_,Tryz.func57,aMs,by kernel_rfl⟩
  · exact ⟨_,_,Tryz.func31,aGO,by kernel_rfl⟩
  · exact ⟨_,_,Tryz.func22,aGt,by kernel_rfl⟩
  · exact ⟨_,_,Tryz.func14,aGc,by kernel_rfl⟩
  · exact ⟨_,_,Tryz.func10,aFd,by kernel_rfl⟩
  · exact ⟨_,_,Tryz.func9,aSa,by kernel_rfl⟩
  · exact ⟨_,_,Tryz.func12,aF3,by kernel_rfl⟩
  · exact ⟨_,_,Tryz.func18,aN2,by kernel_rfl⟩
  · exact ⟨_,_,Tryz.func15,aOn,by kernel_rfl⟩
  · exact ⟨_,_,Tryz.func20,aNK,by kernel_rfl⟩
  · exact ⟨_,_,Tryz.func28,aGs,by kernel_rfl⟩
  · exact ⟨_,_,Tryz.func25,aE9,by kernel_rfl⟩
  · exact ⟨_,_,Tryz.func23,aLS,by kernel_rfl⟩
  · exact ⟨_,_,Tryz.func27,aPk,by kernel_rfl⟩
  · exact ⟨_,_,Tryz.func30,aB2,by kernel_rfl⟩
  · exact ⟨_,_,Tryz.func29,aFN,by kernel_rfl⟩
  · exact ⟨_,_,Tryz.func47,aLn,by kernel_rfl⟩
  · exact ⟨_,_,Tryz.func39,aLd,by kernel_rfl⟩
  · exact ⟨_,_,Tryz.func35,aLh,by kernel_rfl⟩
  · exact ⟨_,_,Tryz.func33,aFK,by kernel_rfl⟩
  · exact ⟨_,_,Tryz.func36,aLK,by kernel_rfl⟩
  · exact ⟨_,_,Tryz.func41,aON,by kernel_rfl⟩
  · exact ⟨_,_,Tryz.func40,aNx,by kernel_rfl⟩
  · exact ⟨_,_,Tryz.func45,aPF,by kernel_rfl⟩
  · exact ⟨_,_,Tryz.func54,aLL,by kernel_rfl⟩
  · exact ⟨_,_,Tryz.func49,aFT,by kernel_rfl⟩
  · exact ⟨_,_,Tryz.func48,aGU,by kernel_rfl⟩
  · exact ⟨_,_,Tryz.func53,aLr,by kernel_rfl⟩
  · exact ⟨_,_,Tryz.func56,aNa,by kernel_rfl⟩
  · exact ⟨_,_,Tryz.func55,aM2,by kernel_rfl⟩
  · exact ⟨_,_,Tryz.func85,aPH,by kernel_rfl⟩
  · exact ⟨_,_,Tryz.func75,aOZ,by kernel_rfl⟩
  · exact ⟨_,_,Tryz.func70,aLZ,by kernel_rfl⟩
  · exact ⟨_,_,Tryz.func59,aNH,by kernel_rfl⟩
  · exact ⟨_,_,Tryz.func58,aOu,by kernel_rfl⟩
  · exact ⟨_,_,Tryz.func69,aPU,by kernel_rfl⟩
  · exact ⟨_,_,Tryz.func73,aMG,by kernel_rfl⟩
  · exact ⟨_,_,Tryz.func71,aOm,by kernel_rfl⟩
  · exact ⟨_,_,Tryz.func74,aOV,by kernel_rfl⟩
  · exact ⟨_,_,Tryz.func81,aPM,by kernel_rfl⟩
  · exact ⟨_,_,Tryz.func77,aCG,by kernel_rfl⟩
  · exact ⟨_,_,Tryz.func76,aGm,by kernel_rfl⟩
  · exact ⟨_,_,Tryz.func78,aGb,by kernel_rfl⟩
  · exact ⟨_,_,Tryz.func84,aOe,by kernel_rfl⟩
  · exact ⟨_,_,Tryz.func83,aNL,by kernel_rfl⟩
  · exact ⟨_,_,Tryz.func93,aMV,by kernel_rfl⟩
  · exact ⟨_,_,Tryz.func89,aNJ,by kernel_rfl⟩
  · exact ⟨_,_,Tryz.func87,aOg,by kernel_rfl⟩
  · exact ⟨_,_,Tryz.func86,aLt,by kernel_rfl⟩
  · exact ⟨_,_,Tryz.func88,aK6,by kernel_rfl⟩
  · exact ⟨_,_,Tryz.func91,aLz,by kernel_rfl⟩
  · exact ⟨_,_,Tryz.func90,aOb,by kernel_rfl⟩
  · exact ⟨_,_,Tryz.func92,aKZ,by kernel_rfl⟩
  · exact ⟨_,_,Tryz.func97,aMe,by kernel_rfl⟩
  · exact ⟨_,_,Tryz.func95,aPa,by kernel_rfl⟩
  · exact ⟨_,_,Tryz.func94,aNV,by kernel_rfl⟩
  · exact ⟨_,_,Tryz.func96,aMj,by kernel_rfl⟩
  · exact ⟨_,_,Tryz.func116,aHv,by kernel_rfl⟩
  · exact ⟨_,_,Tryz.func98,aO2,by kernel_rfl⟩
  · exact ⟨_,_,Tryz.func177,aIC,by kernel_rfl⟩
  · exact ⟨_,_,Tryz.func139,aIl,by kernel_rfl⟩
  · exact ⟨_,_,Tryz.func130,aHt,by kernel_rfl⟩
  · exact ⟨_,_,Tryz.func123,aC1,by kernel_rfl⟩
  · exact ⟨_,_,Tryz.func121,aII,by kernel_rfl⟩
  · exact ⟨_,_,Tryz.func120,aHO,by kernel_rfl⟩
  · exact ⟨_,_,Tryz.func122,aI5,by kernel_rfl⟩
  · exact ⟨_,_,Tryz.func126,aJn,by kernel_rfl⟩
  · exact ⟨_,_,Tryz.func125,aJT,by kernel_rfl⟩
  · exact ⟨_,_,Tryz.func127,aH3,by kernel_rfl⟩
  · exact ⟨_,_,Tryz.func134,aIR,by kernel_rfl⟩
  · exact ⟨_,_,Tryz.func132,aIH,by kernel_rfl⟩
  · exact ⟨_,_,Tryz.func131,aHu,by kernel_rfl⟩
  · exact ⟨_,_,Tryz.func133,aHR,by kernel_rfl⟩
  · exact ⟨_,_,Tryz.func138,aJd,by kernel_rfl⟩
  · exact ⟨_,_,Tryz.func135,aHN,by kernel_rfl⟩
  · exact ⟨_,_,Tryz.func169,aDI,by kernel_rfl⟩
  · exact ⟨_,_,Tryz.func143,aHK,by kernel_rfl⟩
  · exact ⟨_,_,Tryz.func141,aJp,by kernel_rfl⟩
  · exact ⟨_,_,Tryz.func140,aIg,by kernel_rfl⟩
  · exact ⟨_,_,Tryz.func142,aIh,by kernel_rfl⟩
  · exact ⟨_,_,Tryz.func145,aJO,by kernel_rfl⟩
  · exact ⟨_,_,Tryz.func144,aJS,by kernel_rfl⟩
  · exact ⟨_,_,Tryz.func168,aJb,by kernel_rfl⟩
  · exact ⟨_,_,Tryz.func174,aDc,by kernel_rfl⟩
  · exact ⟨_,_,Tryz.func171,aJv,by kernel_rfl⟩
  · exact ⟨_,_,Tryz.func170,aHf,by kernel_rfl⟩
  · exact ⟨_,_,Tryz.func172,aIs,by kernel_rfl⟩
  · exact ⟨_,_,Tryz.func176,aDn,by kernel_rfl⟩
  · exact ⟨_,_,Tryz.func175,aCX,by kernel_rfl⟩
  · exact ⟨_,_,Tryz.func215,aDB,by kernel_rfl⟩
  · exact ⟨_,_,Tryz.func189,aH7,by kernel_rfl⟩
  · exact ⟨_,_,Tryz.func185,aHi,by kernel_rfl⟩
  · exact ⟨_,_,Tryz.func179,aHF,by kernel_rfl⟩
  · exact ⟨_,_,Tryz.func178,aJf,by kernel_rfl⟩
  · exact ⟨_,_,Tryz.func184,aI9,by kernel_rfl⟩
  · exact ⟨_,_,Tryz.func187,aI2,by kernel_rfl⟩
  · exact ⟨_,_,Tryz.func186,aHE,by kernel_rfl⟩
  · exact ⟨_,_,Tryz.func188,aJq,by kernel_rfl⟩
  · exact ⟨_,_,Tryz.func193,aHC,by kernel_rfl⟩
  · exact ⟨_,_,Tryz.func191,aIb,by kernel_rfl⟩
  · exact ⟨_,_,Tryz.func190,aIt,by kernel_rfl⟩
  · exact ⟨_,_,Tryz.func192,aJz,by kernel_rfl⟩
  · exact ⟨_,_,Tryz.func195,aHL,by kernel_rfl⟩
  · exact ⟨_,_,Tryz.func194,aJB,by kernel_rfl⟩
  · exact ⟨_,_,Tryz.func224,aJh,by kernel_rfl⟩
  · exact ⟨_,_,Tryz.func219,aIY,by kernel_rfl⟩
  · exact ⟨_,_,Tryz.func217,aDq,by kernel_rfl⟩
  · exact ⟨_,_,Tryz.func216,aC9,by kernel_rfl⟩
  · exact ⟨_,_,Tryz.func218,aCV,by kernel_rfl⟩
  · exact ⟨_,_,Tryz.func223,aIK,by kernel_rfl⟩
  · exact ⟨_,_,Tryz.func220,aIX,by kernel_rfl⟩
  · exact ⟨_,_,Tryz.func228,aHb,by kernel_rfl⟩
  · exact ⟨_,_,Tryz.func226,aH0,by kernel_rfl⟩
  · exact ⟨_,_,Tryz.func225,aH9,by kernel_rfl⟩
  · exact ⟨_,_,Tryz.func227,aH4,by kernel_rfl⟩
  · exact ⟨_,_,Tryz.func235,aD4,by kernel_rfl⟩
  · exact ⟨_,_,Tryz.func229,aJI,by kernel_rfl⟩
def awQ:jM:=(orP vP (orP uJ (orP (sC 999983) tX)))
theorem aMy:gD Tryz.prog awQ:=(aCA wN (aCA wX (aCA (uO 999983) wZ)))
def awA:PrimA:=(orA (orA nE lG) mD)
theorem aMW:eG Tryz.prog awA:=(aFD (aFD aAq sZ) uG)
theorem fH {l:List gY} (hl: ∀ p∈l,bE Tryz.prog p.1 p.2.1 p.2.2) {f:Nat} {args:List V} {v:V} (hp:dD args=true) (h:(rY awQ awT.find (aAA awQ (orB (aQI l) awA) awT.find 400) 0 false f args H0).map (·.1)=some v):bE Tryz.prog f args v:=aAs aMy (aPn (aIa hl) aMW) awG 400 hp h
def aFi:gY:=(10,[(.agg [(iV 2),(iV 0),(.sl [[(.sl [[(iV 1)],[(iV 0)]])],[(.sl [[(iV 1)],[(iV 0)]])]]),(.sl [[(.sl [[(iV 1)],[(iV 0)]])],[(.sl [[(iV 1)],[(iV 2)]])]])]),(.sl [[(iV 0)],[(iV 1)]])],(.tup [(.agg [(iV 2),(iV 0),(.sl [[(.sl [[(iV 1)],[(iV 0)]])],[(.sl [[(iV 1)],[(iV 0)]])]]),(.sl [[(.sl [[(iV 257)],[(iV 0)]])],[(.sl [[(iV 257)],[(iV 512)]])]])]),(iV 0)]))
theorem aD0:bE Tryz.prog aFi.1 aFi.2.1 aFi.2.2:=fH (l:=[]) (fun p hp=>by simp only [List.not_mem_nil] at hp) rfl (by kernel_rfl)
def aEF:gY:=(54,[(.agg [(iV 2),(.sl [[(.bool true),.nilsl,.nilsl,.nilsl,.nilsl]])]),(.agg [(iV 2),.nilsl])],(.tup [(.agg [(iV 2),(.sl [[(.bool true),.nilsl,.nilsl,.nilsl,.nilsl]])]),(.sl [[(.sl [[(iV 0)]])],[(.sl [[(iV 1)]])]]),(.bool false),(iV 0)]))
theorem aAu:bE Tryz.prog aEF.1 aEF.2.1 aEF.2.2:=fH (l:=[]) (fun p hp=>by simp only [List.not_mem_nil] at hp) rfl (by kernel_rfl)
def aEe:gY:=(56,[(.agg [(iV 2),(.sl [[(.bool true),.nilsl,.nilsl,.nilsl,.nilsl]])]),(.agg [(iV 2),(.sl [[(.sl [[(iV 0)]]),(.sl [[(iV 257)]])],[(.sl [[(iV 1)]]),(.sl [[(iV 0)]])]])])],(.tup [(.agg [(iV 2),(iV 0),(.sl [[(.sl [[(iV 0)],[(iV 0)]])]]),(.sl [[(.sl [[(iV 257)],[(iV 0)]])]]),(.sl [[(.sl [])]])]),(iV 0)]))
theorem yZ:bE Tryz.prog aEe.1 aEe.2.1 aEe.2.2:=fH (l:=[]) (fun p hp=>by simp only [List.not_mem_nil] at hp) rfl (by kernel_rfl)
def aEG:gY:=(54,[(.agg [(iV 2),(.sl [[(.bool false),.nilsl,(.sl [[(iV 1)]]),(.sl [[(.sl [[(iV 0)]])],[(.sl [[(iV 512)]])]]),(.sl [[(iV 1)],[(iV 2)]])],[(.bool true),(.sl []),(.sl []),(.sl []),(.sl [])],[(.bool true),(.sl [[(iV 0)]]),.nilsl,.nilsl,.nilsl]])]),(.agg [(iV 2),(.sl [[(.sl [[(iV 1)],[(iV 1)]]),(.sl [[(iV 0)],[(iV 0)]])],[(.sl [[(iV 0)],[(iV 0)],[(iV 1)]]),(.sl [[(iV 257)],[(iV 257)],[(iV 512)]])],[(.sl [[(iV 0)],[(iV 1)],[(iV 1)]]),(.sl [[(iV 257)],[(iV 512)],[(iV 0)]])]])])],(.tup [(.agg [(iV 2),(.sl [[(.bool false),.nilsl,(.sl [[(iV 1)]]),(.sl [[(.sl [[(iV 0)]])],[(.sl [[(iV 512)]])]]),(.sl [[(iV 1)],[(iV 2)]])],[(.bool true),(.sl []),(.sl []),(.sl []),(.sl [])],[(.bool true),(.sl [[(iV 0)]]),.nilsl,.nilsl,.nilsl]])]),.nilsl,(.bool true),(iV 0)]))
theorem zT:bE Tryz.prog aEG.1 aEG.2.1 aEG.2.2:=fH (l:=[]) (fun p hp=>by simp only [List.not_mem_nil] at hp) rfl (by kernel_rfl)
def aBt:gY:=(55,[(.agg [(iV 2),(iV 0),(.sl [[(.sl [[(iV 1)],[(iV 0)]])],[(.sl [[(iV 1)],[(iV 0)]])]]),(.sl [[(.sl [[(iV 257)],[(iV 0)]])],[(.sl [[(iV 257)],[(iV 512)]])]])]),(.agg [(iV 2),(.sl [[(.sl [[(iV 0)]]),(.sl [[(iV 257)]])],[(.sl [[(iV 1)]]),(.sl [[(iV 0)]])]])]),(.sl [[(.sl [[(iV 0)],[(iV 1)]])]])],(.tup [(.agg [(iV 2),(.sl [[(.sl [[(iV 1)]]),(.sl [[(iV 0)]])],[(.sl [[(iV 0)],[(iV 1)]]),(.sl [[(iV 257)],[(iV 512)]])]])]),(iV 0)]))
theorem oV:bE Tryz.prog aBt.1 aBt.2.1 aBt.2.2:=fH (l:=[]) (fun p hp=>by simp only [List.not_mem_nil] at hp) rfl (by kernel_rfl)
def aGG:gY:=(12,[(.agg [(iV 2),(iV 0),(.sl [[(.sl [[(iV 1)],[(iV 0)]])],[(.sl [[(iV 1)],[(iV 0)]])]]),(.sl [[(.sl [[(iV 257)],[(iV 0)]])],[(.sl [[(iV 257)],[(iV 512)]])]])])],(.tup [(.agg [(iV 2),(iV 0),(.sl [[(.sl [[(iV 1)],[(iV 0)]])],[(.sl [[(iV 1)],[(iV 0)]])]]),(.sl [[(.sl [[(iV 1)],[(iV 0)]])],[(.sl [[(iV 1)],[(iV 2)]])]])]),(iV 0)]))
theorem aDV:bE Tryz.prog aGG.1 aGG.2.1 aGG.2.2:=fH (l:=[]) (fun p hp=>by simp only [List.not_mem_nil] at hp) rfl (by kernel_rfl)
def aBX:gY:=(55,[(.agg [(iV 2),(iV 0),(.sl [[(.sl [[(iV 1)],[(iV 0)]])],[(.sl [[(iV 1)],[(iV 0)]])]]),(.sl [[(.sl [[(iV 257)],[(iV 0)]])],[(.sl [[(iV 257)],[(iV 512)]])]])]),(.agg [(iV 2),.nilsl]),(.sl [[(.sl [[(iV 0)]])],[(.sl [[(iV 1)]])]])],(.tup [(.agg [(iV 2),(.sl [[(.sl [[(iV 0)]]),(.sl [[(iV 257)]])],[(.sl [[(iV 1)]]),(.sl [[(iV 0)]])]])]),(iV 0)]))
theorem qG:bE Tryz.prog aBX.1 aBX.2.1 aBX.2.2:=fH (l:=[]) (fun p hp=>by simp only [List.not_mem_nil] at hp) rfl (by kernel_rfl)
def aEM:gY:=(57,[(.agg [(iV 2),(iV 0),(.sl [[(.sl [[(iV 0)],[(iV 0)]])]]),(.sl [[(.sl [[(iV 257)],[(iV 0)]])]])]),(.agg [(iV 2),(iV 0),(.sl [[(.sl [[(iV 1)],[(iV 0)]])],[(.sl [[(iV 1)],[(iV 0)]])]]),(.sl [[(.sl [[(iV 257)],[(iV 0)]])],[(.sl [[(iV 257)],[(iV 512)]])]])])],(.tup [(.sl [[(iV 0)],[(iV 1)]]),(.bool true),(iV 0)]))
theorem aAr:bE Tryz.prog aEM.1 aEM.2.1 aEM.2.2:=fH (l:=[]) (fun p hp=>by simp only [List.not_mem_nil] at hp) rfl (by kernel_rfl)
def aAT:gY:=(55,[(.agg [(iV 2),(iV 0),(.sl [[(.sl [[(iV 1)],[(iV 0)]])],[(.sl [[(iV 1)],[(iV 0)]])]]),(.sl [[(.sl [[(iV 257)],[(iV 0)]])],[(.sl [[(iV 257)],[(iV 512)]])]])]),(.agg [(iV 2),(.sl [[(.sl [[(iV 1)],[(iV 1)]]),(.sl [[(iV 0)],[(iV 0)]])],[(.sl [[(iV 0)],[(iV 0)],[(iV 1)]]),(.sl [[(iV 257)],[(iV 257)],[(iV 512)]])],[(.sl [[(iV 0)],[(iV 1)],[(iV 1)]]),(.sl [[(iV 257)],[(iV 512)],[(iV 0)]])]])]),.nilsl],(.tup [(.agg [(iV 2),(.sl [[(.sl [[(iV 1)],[(iV 1)]]),(.sl [[(iV 0)],[(iV 0)]])],[(.sl [[(iV 0)],[(iV 0)],[(iV 1)]]),(.sl [[(iV 257)],[(iV 257)],[(iV 512)]])],[(.sl [[(iV 0)],[(iV 1)],[(iV 1)]]),(.sl [[(iV 257)],[(iV 512)],[(iV 0)]])]])]),(iV 0)]))
theorem pQ:bE Tryz.prog aAT.1 aAT.2.1 aAT.2.2:=fH (l:=[]) (fun p hp=>by simp only [List.not_mem_nil] at hp) rfl (by kernel_rfl)
def aGW:gY:=(96,[(.agg [(iV 2),(iV 0),(.sl [[(.sl [[(iV 0)],[(iV 0)]])]]),(.sl [[(.sl [[(iV 257)],[(iV 0)]])]]),(.sl [[(.sl [])]])]),(.agg [(iV 2),(.sl [[(.sl [[(iV 1)]]),(.sl [[(iV 0)]])],[(.sl [[(iV 0)],[(iV 1)]]),(.sl [[(iV 257)],[(iV 512)]])]])]),(.sl [[(iV 0)],[(iV 1)]])],(.tup [(.agg [(.sl []),(iV 0),(.sl [[(iV 1)]])]),.nilsl,(iV 0)]))
theorem aCQ:bE Tryz.prog aGW.1 aGW.2.1 aGW.2.2:=fH (l:=[]) (fun p hp=>by simp only [List.not_mem_nil] at hp) rfl (by kernel_rfl)
def aDi:gY:=(36,[(.agg [(iV 2),(iV 0),(.sl [[(.sl [[(iV 1)],[(iV 0)]])],[(.sl [[(iV 1)],[(iV 0)]])]]),(.sl [[(.sl [[(iV 1)],[(iV 0)]])],[(.sl [[(iV 1)],[(iV 2)]])]])])],(.tup [(.sl [[(iV 0)],[(iV 1)]]),(.sl [[.nilsl],[(.sl [[(iV 0)]])]]),(iV 0)]))
theorem aGl:bE Tryz.prog aDi.1 aDi.2.1 aDi.2.2:=fH (l:=[]) (fun p hp=>by simp only [List.not_mem_nil] at hp) rfl (by kernel_rfl)
def xP:gY:=(54,[(.agg [(iV 2),(.sl [[(.bool true),.nilsl,.nilsl,.nilsl,.nilsl]])]),(.agg [(iV 2),(.sl [[(.sl [[(iV 0)]]),(.sl [[(iV 257)]])],[(.sl [[(iV 1)]]),(.sl [[(iV 0)]])]])])],(.tup [(.agg [(iV 2),(.sl [[(.bool true),.nilsl,.nilsl,.nilsl,.nilsl]])]),.nilsl,(.bool true),(iV 0)]))
theorem vB:bE Tryz.prog xP.1 xP.2.1 xP.2.2:=fH (l:=[]) (fun p hp=>by simp only [List.not_mem_nil] at hp) rfl (by kernel_rfl)
def yE:gY:=(54,[(.agg [(iV 2),(.sl [[(.bool false),.nilsl,(.sl [[(iV 1)]]),(.sl [[(.sl [[(iV 0)]])],[(.sl [[(iV 512)]])]]),(.sl [[(iV 1)],[(iV 2)]])],[(.bool true),(.sl []),(.sl []),(.sl []),(.sl [])],[(.bool true),(.sl [[(iV 0)]]),.nilsl,.nilsl,.nilsl]])]),(.agg [(iV 2),(.sl [[(.sl [[(iV 1)]]),(.sl [[(iV 0)]])],[(.sl [[(iV 0)],[(iV 1)]]),(.sl [[(iV 257)],[(iV 512)]])]])])],(.tup [(.agg [(iV 2),(.sl [[(.bool false),.nilsl,(.sl [[(iV 1)]]),(.sl [[(.sl [[(iV 0)]])],[(.sl [[(iV 512)]])]]),(.sl [[(iV 1)],[(iV 2)]])],[(.bool true),(.sl []),(.sl []),(.sl []),(.sl [])],[(.bool true),(.sl [[(iV 0)]]),.nilsl,.nilsl,.nilsl]])]),(.sl [[(.sl [[(iV 1)],[(iV 1)]])],[(.sl [[(iV 0)],[(iV 0)],[(iV 1)]])],[(.sl [[(iV 0)],[(iV 1)],[(iV 1)]])]]),(.bool false),(iV 0)]))
theorem wK:bE Tryz.prog yE.1 yE.2.1 yE.2.2:=fH (l:=[]) (fun p hp=>by simp only [List.not_mem_nil] at hp) rfl (by kernel_rfl)
def xL:gY:=(56,[(.agg [(iV 2),(.sl [[(.bool false),.nilsl,(.sl [[(iV 1)]]),(.sl [[(.sl [[(iV 0)]])],[(.sl [[(iV 512)]])]]),(.sl [[(iV 1)],[(iV 2)]])],[(.bool true),(.sl []),(.sl []),(.sl []),(.sl [])],[(.bool true),(.sl [[(iV 0)]]),.nilsl,.nilsl,.nilsl]])]),(.agg [(iV 2),(.sl [[(.sl [[(iV 1)],[(iV 1)]]),(.sl [[(iV 0)],[(iV 0)]])],[(.sl [[(iV 0)],[(iV 0)],[(iV 1)]]),(.sl [[(iV 257)],[(iV 257)],[(iV 512)]])],[(.sl [[(iV 0)],[(iV 1)],[(iV 1)]]),(.sl [[(iV 257)],[(iV 512)],[(iV 0)]])]])])],(.tup [(.agg [(iV 2),(iV 0),(.sl [[(.sl [[(iV 1)],[(iV 0)]])],[(.sl [[(iV 1)],[(iV 0)]])]]),(.sl [[(.sl [[(iV 257)],[(iV 0)]])],[(.sl [[(iV 257)],[(iV 512)]])]]),(.sl [[(.sl [])],[(.sl [[(iV 0)]])]])]),(iV 0)]))
theorem wJ:bE Tryz.prog xL.1 xL.2.1 xL.2.2:=fH (l:=[]) (fun p hp=>by simp only [List.not_mem_nil] at hp) rfl (by kernel_rfl)
def aA5:gY:=(97,[(.agg [(iV 2),(.sl [[(.bool true),.nilsl,.nilsl,.nilsl,.nilsl]])]),(.agg [(iV 2),(.sl [[(.sl [[(iV 1)]]),(.sl [[(iV 0)]])],[(.sl [[(iV 0)],[(iV 1)]]),(.sl [[(iV 257)],[(iV 512)]])]])]),(.agg [(.sl []),(iV 0),(.sl [[(iV 1)]])])],(.tup [(.agg [(iV 2),(.sl [[(.bool false),.nilsl,(.sl [[(iV 1)]]),(.sl [[(.sl [[(iV 0)]])],[(.sl [[(iV 512)]])]]),(.sl [[(iV 1)],[(iV 2)]])],[(.bool true),(.sl []),(.sl []),(.sl []),(.sl [])],[(.bool true),(.sl [[(iV 0)]]),.nilsl,.nilsl,.nilsl]])]),.nilsl,(iV 0)]))
theorem aBR:bE Tryz.prog aA5.1 aA5.2.1 aA5.2.2:=fH (l:=[]) (fun p hp=>by simp only [List.not_mem_nil] at hp) rfl (by kernel_rfl)
def yD:gY:=(53,[(iV 2)],(.tup [(.agg [(iV 2),(.sl [[(.bool true),.nilsl,.nilsl,.nilsl,.nilsl]])]),(iV 0)]))
theorem wA:bE Tryz.prog yD.1 yD.2.1 yD.2.2:=fH (l:=[]) (fun p hp=>by simp only [List.not_mem_nil] at hp) rfl (by kernel_rfl)
def sJ:gY:=(55,[(.agg [(iV 2),(iV 0),(.sl [[(.sl [[(iV 1)],[(iV 0)]])],[(.sl [[(iV 1)],[(iV 0)]])]]),(.sl [[(.sl [[(iV 257)],[(iV 0)]])],[(.sl [[(iV 257)],[(iV 512)]])]])]),(.agg [(iV 2),(.sl [[(.sl [[(iV 0)]]),(.sl [[(iV 257)]])],[(.sl [[(iV 1)]]),(.sl [[(iV 0)]])]])]),.nilsl],(.tup [(.agg [(iV 2),(.sl [[(.sl [[(iV 0)]]),(.sl [[(iV 257)]])],[(.sl [[(iV 1)]]),(.sl [[(iV 0)]])]])]),(iV 0)]))
theorem mN:bE Tryz.prog sJ.1 sJ.2.1 sJ.2.2:=fH (l:=[]) (fun p hp=>by simp only [List.not_mem_nil] at hp) rfl (by kernel_rfl)
def rX:gY:=(55,[(.agg [(iV 2),(iV 0),(.sl [[(.sl [[(iV 1)],[(iV 0)]])],[(.sl [[(iV 1)],[(iV 0)]])]]),(.sl [[(.sl [[(iV 257)],[(iV 0)]])],[(.sl [[(iV 257)],[(iV 512)]])]])]),(.agg [(iV 2),(.sl [[(.sl [[(iV 1)]]),(.sl [[(iV 0)]])],[(.sl [[(iV 0)],[(iV 1)]]),(.sl [[(iV 257)],[(iV 512)]])]])]),(.sl [[(.sl [[(iV 1)],[(iV 1)]])],[(.sl [[(iV 0)],[(iV 0)],[(iV 1)]])],[(.sl [[(iV 0)],[(iV 1)],[(iV 1)]])]])],(.tup [(.agg [(iV 2),(.sl [[(.sl [[(iV 1)],[(iV 1)]]),(.sl [[(iV 0)],[(iV 0)]])],[(.sl [[(iV 0)],[(iV 0)],[(iV 1)]]),(.sl [[(iV 257)],[(iV 257)],[(iV 512)]])],[(.sl [[(iV 0)],[(iV 1)],[(iV 1)]]),(.sl [[(iV 257)],[(iV 512)],[(iV 0)]])]])]),(iV 0)]))
theorem mO:bE Tryz.prog rX.1 rX.2.1 rX.2.2:=fH (l:=[]) (fun p hp=>by simp only [List.not_mem_nil] at hp) rfl (by kernel_rfl)
def yQ:gY:=(57,[(.agg [(iV 2),(iV 0),(.sl [[(.sl [[(iV 1)],[(iV 0)]])],[(.sl [[(iV 1)],[(iV 0)]])]]),(.sl [[(.sl [[(iV 257)],[(iV 0)]])],[(.sl [[(iV 257)],[(iV 512)]])]])]),(.agg [(iV 2),(iV 0),(.sl [[(.sl [[(iV 1)],[(iV 0)]])],[(.sl [[(iV 1)],[(iV 0)]])]]),(.sl [[(.sl [[(iV 257)],[(iV 0)]])],[(.sl [[(iV 257)],[(iV 512)]])]])])],(.tup [.nilsl,(.bool false),(iV 0)]))
theorem tV:bE Tryz.prog yQ.1 yQ.2.1 yQ.2.2:=fH (l:=[]) (fun p hp=>by simp only [List.not_mem_nil] at hp) rfl (by kernel_rfl)
def uE:gY:=(18,[(.agg [(iV 2),(iV 0),(.sl [[(.sl [[(iV 1)],[(iV 0)]])],[(.sl [[(iV 1)],[(iV 0)]])]]),(.sl [[(.sl [[(iV 1)],[(iV 0)]])],[(.sl [[(iV 1)],[(iV 2)]])]])]),(.sl [[(.sl [[(iV 0)]])],[(.sl [[(iV 1)]])]])],(.tup [(.sl [[(iV 0)],[(iV 1)]]),(.bool true),(iV 0)]))
theorem qJ:bE Tryz.prog uE.1 uE.2.1 uE.2.2:=fH (l:=[aBt,aBX,aAT,aGW,aA5,sJ,rX]) (fun p hp=>by
  simp only [List.mem_cons,List.not_mem_nil,or_false] at hp
  rcases hp with rfl|rfl|rfl|rfl|rfl|rfl|rfl
  · exact oV
  · exact qG
  · exact pQ
  · exact aCQ
  · exact aBR
  · exact mN
  · exact mO) rfl (by kernel_rfl)
def yF:gY:=(58,[(.agg [(iV 2),(.sl [[(.bool true),.nilsl,.nilsl,.nilsl,.nilsl]]),(iV 2),(.sl [[(.sl [[(iV 0)]]),(.sl [[(iV 257)]])],[(.sl [[(iV 1)]]),(.sl [[(iV 0)]])]])]),(.agg [(iV 2),(iV 0),(.sl [[(.sl [[(iV 1)],[(iV 0)]])],[(.sl [[(iV 1)],[(iV 0)]])]]),(.sl [[(.sl [[(iV 257)],[(iV 0)]])],[(.sl [[(iV 257)],[(iV 512)]])]])]),(.agg [(iV 2),(iV 0),(.sl [[(.sl [[(iV 0)],[(iV 0)]])]]),(.sl [[(.sl [[(iV 257)],[(iV 0)]])]]),(.sl [[(.sl [])]])]),(.sl [[(iV 0)],[(iV 1)]])],(.tup [(.agg [(iV 2),(.sl [[(.bool false),.nilsl,(.sl [[(iV 1)]]),(.sl [[(.sl [[(iV 0)]])],[(.sl [[(iV 512)]])]]),(.sl [[(iV 1)],[(iV 2)]])],[(.bool true),(.sl []),(.sl []),(.sl []),(.sl [])],[(.bool true),(.sl [[(iV 0)]]),.nilsl,.nilsl,.nilsl]]),(iV 2),(.sl [[(.sl [[(iV 1)]]),(.sl [[(iV 0)]])],[(.sl [[(iV 0)],[(iV 1)]]),(.sl [[(iV 257)],[(iV 512)]])]])]),(iV 0)]))
theorem wC:bE Tryz.prog yF.1 yF.2.1 yF.2.2:=fH (l:=[aBt,aBX,aAT,aGW,aA5,sJ,rX]) (fun p hp=>by
  simp only [List.mem_cons,List.not_mem_nil,or_false] at hp
  rcases hp with rfl|rfl|rfl|rfl|rfl|rfl|rfl
  · exact oV
  · exact qG
  · exact pQ
  · exact aCQ
  · exact aBR
  · exact mN
  · exact mO) rfl (by kernel_rfl)
def aDA:gY:=(20,[(.agg [(iV 2),(iV 0),(.sl [[(.sl [[(iV 1)],[(iV 0)]])],[(.sl [[(iV 1)],[(iV 0)]])]]),(.sl [[(.sl [[(iV 1)],[(iV 0)]])],[(.sl [[(iV 1)],[(iV 2)]])]])]),(.sl [[(.sl [[(iV 0)]])],[(.sl [[(iV 1)]])]])],(.tup [.nilsl,(iV 15)]))
theorem aFm:bE Tryz.prog aDA.1 aDA.2.1 aDA.2.2:=fH (l:=[aEF,aEe,aEG,aBt,aBX,aEM,aAT,xP,yE,xL,yD,sJ,rX,yQ,uE,yF]) (fun p hp=>by
  simp only [List.mem_cons,List.not_mem_nil,or_false] at hp
  rcases hp with rfl|rfl|rfl|rfl|rfl|rfl|rfl|rfl|rfl|rfl|rfl|rfl|rfl|rfl|rfl|rfl
  · exact aAu
  · exact yZ
  · exact zT
  · exact oV
  · exact qG
  · exact aAr
  · exact pQ
  · exact vB
  · exact wK
  · exact wJ
  · exact wA
  · exact mN
  · exact mO
  · exact tV
  · exact qJ
  · exact wC) rfl (by kernel_rfl)
def aDF:gY:=(35,[(.agg [(iV 2),(iV 0),(.sl [[(.sl [[(iV 1)],[(iV 0)]])],[(.sl [[(iV 1)],[(iV 0)]])]]),(.sl [[(.sl [[(iV 257)],[(iV 0)]])],[(.sl [[(iV 257)],[(iV 512)]])]])])],(.tup [(.agg [(iV 2),(iV 0),(.sl [[(.sl [[(iV 1)],[(iV 0)]])],[(.sl [[(iV 1)],[(iV 0)]])]]),(.sl [[(.sl [[(iV 257)],[(iV 0)]])],[(.sl [[(iV 257)],[(iV 512)]])]]),(.sl [[(.sl [])],[(.sl [[(iV 0)]])]])]),(.agg [(iV 2),(.sl [[(.sl [[(iV 1)],[(iV 1)]]),(.sl [[(iV 0)],[(iV 0)]])],[(.sl [[(iV 0)],[(iV 0)],[(iV 1)]]),(.sl [[(iV 257)],[(iV 257)],[(iV 512)]])],[(.sl [[(iV 0)],[(iV 1)],[(iV 1)]]),(.sl [[(iV 257)],[(iV 512)],[(iV 0)]])]])]),(iV 2),(iV 0)]))
theorem aEZ:bE Tryz.prog aDF.1 aDF.2.1 aDF.2.2:=fH (l:=[aEF,aEe,aEG,aBt,aBX,aEM,aAT,xP,yE,xL,yD,sJ,rX,yQ,uE,yF]) (fun p hp=>by
  simp only [List.mem_cons,List.not_mem_nil,or_false] at hp
  rcases hp with rfl|rfl|rfl|rfl|rfl|rfl|rfl|rfl|rfl|rfl|rfl|rfl|rfl|rfl|rfl|rfl
  · exact aAu
  · exact yZ
  · exact zT
  · exact oV
  · exact qG
  · exact aAr
  · exact pQ
  · exact vB
  · exact wK
  · exact wJ
  · exact wA
  · exact mN
  · exact mO
  · exact tV
  · exact qJ
  · exact wC) rfl (by kernel_rfl)
def aDH:gY:=(20,[(.agg [(iV 2),(iV 0),(.sl [[(.sl [[(iV 1)],[(iV 0)]])],[(.sl [[(iV 1)],[(iV 0)]])]]),(.sl [[(.sl [[(iV 1)],[(iV 0)]])],[(.sl [[(iV 1)],[(iV 2)]])]])]),(.sl [[(.sl [[(iV 0)],[(iV 1)]])]])],(.tup [(.sl [[(iV 2),(iV 0),(.sl [[(.sl [[(iV 1)],[(iV 0)]])],[(.sl [[(iV 1)],[(iV 0)]])]]),(.sl [[(.sl [[(iV 1)],[(iV 0)]])],[(.sl [[(iV 1)],[(iV 2)]])]])]]),(iV 0)]))
theorem aE7:bE Tryz.prog aDH.1 aDH.2.1 aDH.2.2:=fH (l:=[aEF,aEe,aEG,aBt,aBX,aEM,aAT,xP,yE,xL,yD,sJ,rX,yQ,uE,yF]) (fun p hp=>by
  simp only [List.mem_cons,List.not_mem_nil,or_false] at hp
  rcases hp with rfl|rfl|rfl|rfl|rfl|rfl|rfl|rfl|rfl|rfl|rfl|rfl|rfl|rfl|rfl|rfl
  · exact aAu
  · exact yZ
  · exact zT
  · exact oV
  · exact qG
  · exact aAr
  · exact pQ
  · exact vB
  · exact wK
  · exact wJ
  · exact wA
  · exact mN
  · exact mO
  · exact tV
  · exact qJ
  · exact wC) rfl (by kernel_rfl)
def aD3:gY:=(15,[(.agg [(iV 2),(iV 0),(.sl [[(.sl [[(iV 1)],[(iV 0)]])],[(.sl [[(iV 1)],[(iV 0)]])]]),(.sl [[(.sl [[(iV 1)],[(iV 0)]])],[(.sl [[(iV 1)],[(iV 2)]])]])]),(.sl [[(iV 0)],[(iV 1)]])],(.tup [(.agg [(iV 2),(iV 0),(.sl [[(.sl [[(iV 1)],[(iV 0)]])],[(.sl [[(iV 1)],[(iV 0)]])]]),(.sl [[(.sl [[(iV 1)],[(iV 0)]])],[(.sl [[(iV 1)],[(iV 2)]])]]),(.sl [[.nilsl],[(.sl [[(iV 0)]])]])]),(iV 3),(iV 0)]))
theorem aFr:bE Tryz.prog aD3.1 aD3.2.1 aD3.2.2:=fH (l:=[aFi,aGG,aDi,aDF]) (fun p hp=>by
  simp only [List.mem_cons,List.not_mem_nil,or_false] at hp
  rcases hp with rfl|rfl|rfl|rfl
  · exact aD0
  · exact aDV
  · exact aGl
  · exact aEZ) rfl (by kernel_rfl)
theorem fT:bE Tryz.prog 9 [] (.bool true):=fH (l:=[aFi,aGG,uE,aDA,aDH,aD3]) (fun p hp=>by
  simp only [List.mem_cons,List.not_mem_nil,or_false] at hp
  rcases hp with rfl|rfl|rfl|rfl|rfl|rfl
  · exact aD0
  · exact aDV
  · exact qJ
  · exact aFm
  · exact aE7
  · exact aFr) rfl (by kernel_rfl)
theorem iL (m:M):bE Tryz.prog 29 [(V.agg [(iV (m.i)),(iV (m.s)),(aA m.nx),(aA m.ot)])] (iV (aZ m)):=by
 refine pW Tryz.func29 aFN fun hB=>?_
 unfold s29
 dsimp only
 refine W_r (eR (i:=1) (n:=0) (m:=4) (cs:=[(iV (m.i)),(iV (m.s)),(aA m.nx),(aA m.ot)]) rfl (congrArg Blk.ver rfl) rfl rfl rfl (aC rfl (R_e (W_r (bD rfl rfl (aX rfl rfl rfl rfl (bR rfl ?_)))))))
 refine aC rfl (R_e (aH fun Q1 n1 x1 y1 z1=>(W_r (bD rfl rfl (aX rfl rfl rfl rfl (bU rfl rfl (aC rfl ?_)))))))
 refine cF 4 (fun T H=>T 1=(V.mp 1 1 0 0)∧T 3=(iV ((m.nx.length:Nat):Int))∧T 19=(V.bool (decide (((m.i) < (1:Int))∨((64:Int) < (m.i)))))∧H 1=(bk 1 24 4 [[(iV (m.i)),(iV (m.s)),(aA m.nx),(aA m.ot)]])∧True) ?_ ?_
 ·
  by_cases g2:(m.i) < (1:Int)
  ·
   refine G_n (edT g2 rfl) (G_n (edT g2 rfl) (G_n (edT g2 rfl) (cK (edT g2 rfl) rfl ?_)))
   exact ⟨rfl,rfl,(eL g2),rfl,trivial⟩
  ·
   refine aQ (edF g2 rfl) (bD rfl rfl (aQ (edF g2 rfl) (aX rfl rfl rfl rfl (aQ (edF g2 rfl) (jO rfl rfl (cG (edF g2 rfl) rfl ?_))))))
   exact ⟨rfl,rfl,(eQ g2),rfl,trivial⟩
 intro T H ⟨t1,t3,t19,h1,_⟩
 refine aC t19 (R_e ?_)
 refine lD rfl (fun c3=>?_) fun c3=>?_
 ·
  refine W_r (aC rfl (R_e (bS (y1 _ _ ?_))))
  refine cC (@rfl V (iV (2:Int))) (aV ?_)
  · rw [aZ,if_pos (by omega)]
 refine W_r (aC t3 (jY rfl rfl (aC rfl (R_e ?_))))
 refine lD rfl (fun c4=>?_) fun c4=>?_
 ·
  refine W_r (aC rfl (R_e (bS (y1 _ _ ?_))))
  refine cC (@rfl V (iV (19:Int))) (aV ?_)
  · rw [aZ,if_neg (by omega),if_pos (by omega)]
 refine W_r (aC t3 (jO rfl rfl (aC rfl (R_e ?_))))
 refine lD rfl (fun c5=>?_) fun c5=>?_
 ·
  refine W_r (aC rfl (R_e (bS (y1 _ _ ?_))))
  refine cC (@rfl V (iV (11:Int))) (aV ?_)
  · rw [aZ,if_neg (by omega),if_neg (by omega),if_pos (by omega)]
 refine W_r (bD t1 h1 (aX rfl h1 rfl rfl (bU rfl rfl (aC rfl ?_))))
 refine cF 5 (fun T H=>T 1=(V.mp 1 1 0 0)∧T 3=(iV ((m.nx.length:Nat):Int))∧T 35=(V.bool (decide (((m.s) < (0:Int))∨(((m.nx.length:Nat):Int)≤(m.s)))))∧H 1=(bk 1 24 4 [[(iV (m.i)),(iV (m.s)),(aA m.nx),(aA m.ot)]])∧True) ?_ ?_
 ·
  by_cases g6:(m.s) < (0:Int)
  ·
   refine G_n (edT g6 rfl) (G_n (edT g6 rfl) (G_n (edT g6 rfl) (G_n (edT g6 rfl) (cK (edT g6 rfl) rfl ?_))))
   exact ⟨t1,t3,(eL g6),h1,trivial⟩
  ·
   refine aQ (edF g6 rfl) (bD t1 h1 (aQ (edF g6 rfl) (aX rfl h1 rfl rfl (aQ (edF g6 rfl) (aC t3 (aQ (edF g6 rfl) (xR rfl rfl ?_)))))))
   refine cG (edF g6 rfl) rfl ?_
   exact ⟨t1,t3,(eQ g6),h1,trivial⟩
 intro T H ⟨t1,t3,t35,h1,_⟩
 refine aC t35 (R_e ?_)
 refine lD rfl (fun c7=>?_) fun c7=>?_
 ·
  refine W_r (aC rfl (R_e (bS (y1 _ _ ?_))))
  refine cC (@rfl V (iV (2:Int))) (aV ?_)
  · rw [aZ,if_neg (by omega),if_neg (by omega),if_neg (by omega),if_pos (by omega)]
 refine W_r (bD t1 h1 (aX rfl h1 rfl rfl (bR rfl (aC t3 (eV rfl rfl (aC rfl (R_e ?_)))))))
 refine lD rfl (fun c8=>?_) fun c8=>?_
 ·
  refine W_r (aC rfl (R_e (bS (y1 _ _ ?_))))
  refine cC (@rfl V (iV (1:Int))) (aV ?_)
  · rw [aZ,if_neg (by omega),if_neg (by omega),if_neg (by omega),if_neg (by omega),if_pos (by omega)]
 refine fQ (n1 _ _ (.done (aE (W_r (aC t3 (aC rfl (R_e ?_)))))))
 refine aH fun Q9 n9 x9 y9 z9=>?_
 refine bW (fun mm T H=> ∃ (k:Nat),mm=m.nx.length - k∧T 1=(V.mp 1 1 0 0)∧T 3=(iV ((m.nx.length:Nat):Int))∧T 42=(iV ((m.nx.length:Nat):Int))∧T 43=(iV ((k:Nat):Int))∧H 1=(bk 1 24 4 [[(iV (m.i)),(iV (m.s)),(aA m.nx),(aA m.ot)]])∧(k≤m.nx.length)∧(1≤m.i∧m.i≤64∧0 < m.nx.length∧m.nx.length≤128∧m.ot.length=m.nx.length)∧(aZ m=fe (nJ m) k (m.nx.length - k))) ?_ ?_
 ·
  refine ⟨_,0,rfl,t1,t3,rfl,(Eq.trans (@rfl V (iV (0:Int))) rfl),h1,?_,?_,?_⟩
  · omega
  · omega
  · rw [aZ,if_neg (by omega),if_neg (by omega),if_neg (by omega),if_neg (by omega),if_neg (by omega)]; rfl
 intro mm T H ⟨k,hmm,t1,t3,t42,t43,h1,hk,hv,hc⟩ Q10 p110 p210 p310
 unfold aKv
 refine W_r (bU t43 t42 (R_e ?_))
 refine aP rfl (fun c11=>?_) fun c11=>?_
 ·
  refine aJ (aH fun Q12 n12 x12 y12 z12=>(W_r (aC t43 (aC rfl (R_e (aE (W_r ?_)))))))
  refine bD t1 h1 (aX rfl h1 rfl rfl (aC rfl (bO (i:=k) (@rfl V (aA m.nx)) (@rfl V (iV ((k:Nat):Int))) (by omega) rfl (aK rfl rfl (bR rfl (bD t1 h1 (aX rfl h1 rfl rfl ?_)))))))
  refine eV rfl rfl (aC rfl ?_)
  refine cF 10 (fun T H=>T 1=(V.mp 1 1 0 0)∧T 3=(iV ((m.nx.length:Nat):Int))∧T 4=(iV ((k:Nat):Int))∧T 42=(iV ((m.nx.length:Nat):Int))∧T 43=(iV ((k:Nat):Int))∧T 65=(V.bool (decide ((((((nth (m.nx) (k))).length:Nat):Int)≠(m.i))∨(((((nth (m.ot) (k))).length:Nat):Int)≠(m.i)))))∧H 1=(bk 1 24 4 [[(iV (m.i)),(iV (m.s)),(aA m.nx),(aA m.ot)]])∧True) ?_ ?_
  ·
   by_cases g13:((((nth (m.nx) (k))).length:Nat):Int)≠(m.i)
   ·
    refine G_n (edT g13 rfl) (G_n (edT g13 rfl) (G_n (edT g13 rfl) (G_n (edT g13 rfl) (G_n (edT g13 rfl) (G_n (edT g13 rfl) (G_n (edT g13 rfl) (G_n (edT g13 rfl) ?_)))))))
    refine G_n (edT g13 rfl) (cK (edT g13 rfl) rfl ?_)
    exact ⟨t1,t3,rfl,t42,t43,(eL g13),h1,trivial⟩
   ·
    refine aQ (edF g13 rfl) (bD t1 h1 (aQ (edF g13 rfl) (aX rfl h1 rfl rfl (aQ (edF g13 rfl) (aC rfl (aQ (edF g13 rfl) (bO (i:=k) (@rfl V (aA m.ot)) (@rfl V (iV ((k:Nat):Int))) (by omega) rfl ?_)))))))
    refine aQ (edF g13 rfl) (aK rfl rfl (aQ (edF g13 rfl) (bR rfl (aQ (edF g13 rfl) (bD t1 h1 (aQ (edF g13 rfl) (aX rfl h1 rfl rfl ?_)))))))
    refine aQ (edF g13 rfl) (eV rfl rfl (cG (edF g13 rfl) rfl ?_))
    exact ⟨t1,t3,rfl,t42,t43,(eQ g13),h1,trivial⟩
  intro T H ⟨t1,t3,t4,t42,t43,t65,h1,_⟩
  refine R_e ?_
  refine aP t65 (fun c14=>?_) fun c14=>?_
  ·
   refine aE (W_r (aC rfl (R_e (bF (y12 _ _ (p210 _ _ (y9 _ _ ?_)))))))
   refine cC (@rfl V (iV (1:Int))) (aV ?_)
   · rw [hc,uR (by rw [nJ,if_pos (by omega)]; decide) (by omega),nJ,if_pos (by omega)]
  refine aJ (W_r (bD t1 h1 (aX rfl h1 rfl rfl (aC rfl (R_e (aCR fun Q15 n15 x15 y15 z15=>?_))))))
  refine bW (fun mm T H=> ∃ (j:Nat),mm=((m.i).toNat) - j∧T 1=(V.mp 1 1 0 0)∧T 3=(iV ((m.nx.length:Nat):Int))∧T 4=(iV ((k:Nat):Int))∧T 42=(iV ((m.nx.length:Nat):Int))∧T 43=(iV ((k:Nat):Int))∧T 67=(iV (m.i))∧T 68=(iV ((j:Nat):Int))∧H 1=(bk 1 24 4 [[(iV (m.i)),(iV (m.s)),(aA m.nx),(aA m.ot)]])∧(j≤(m.i).toNat)∧(((nth m.nx k).length:Int)=m.i∧((nth m.ot k).length:Int)=m.i)∧(nJ m k=fe (sY m k) j (m.i.toNat - j))) ?_ ?_
  ·
   refine ⟨_,0,rfl,t1,t3,t4,t42,t43,rfl,(Eq.trans (@rfl V (iV (0:Int))) rfl),h1,?_,?_,?_⟩
   · omega
   · omega
   · rw [nJ,if_neg (by omega)]; rfl
  intro mm T H ⟨j,hmm,t1,t3,t4,t42,t43,t67,t68,h1,hj,hl,hr⟩ Q16 p116 p216 p316
  unfold aJ6
  refine W_r (bU t68 t67 (R_e ?_))
  refine aP rfl (fun c17=>?_) fun c17=>?_
  ·
   refine aJ (aH fun Q18 n18 x18 y18 z18=>(W_r (aC t68 (aC rfl (R_e (W_r (bD t1 h1 ?_)))))))
   refine aX rfl h1 rfl rfl (aC t4 (bO (i:=k) (@rfl V (aA m.nx)) (@rfl V (iV ((k:Nat):Int))) (by omega) rfl (aK rfl rfl (aC rfl (bO (i:=j) (@rfl V (aM ((nth (m.nx) (k))))) (@rfl V (iV ((j:Nat):Int))) (by omega) rfl (aK rfl rfl (bD t1 h1 ?_)))))))
   refine aX rfl h1 rfl rfl (aC t4 (bO (i:=k) (@rfl V (aA m.ot)) (@rfl V (iV ((k:Nat):Int))) (by omega) rfl (aK rfl rfl (aC rfl (bO (i:=j) (@rfl V (aM ((nth (m.ot) (k))))) (@rfl V (iV ((j:Nat):Int))) (by omega) rfl (aK rfl rfl (aC rfl ?_)))))))
   refine aC rfl (R_e (W_r (aC rfl (bU rfl rfl (aC rfl ?_)))))
   refine cF 4 (fun T H=>T 1=(V.mp 1 1 0 0)∧T 3=(iV ((m.nx.length:Nat):Int))∧T 4=(iV ((k:Nat):Int))∧T 7=(iV ((nth ((nth (m.ot) (k))) (j))))∧T 42=(iV ((m.nx.length:Nat):Int))∧T 43=(iV ((k:Nat):Int))∧T 67=(iV (m.i))∧T 68=(iV ((j:Nat):Int))∧T 93=(V.bool (decide ((((nth ((nth (m.nx) (k))) (j))) < (0:Int))∨(((m.nx.length:Nat):Int)≤((nth ((nth (m.nx) (k))) (j)))))))∧H 1=(bk 1 24 4 [[(iV (m.i)),(iV (m.s)),(aA m.nx),(aA m.ot)]])∧True) ?_ ?_
   ·
    by_cases g19:((nth ((nth (m.nx) (k))) (j))) < (0:Int)
    ·
     refine G_n (edT g19 rfl) (G_n (edT g19 rfl) (G_n (edT g19 rfl) (cK (edT g19 rfl) rfl ?_)))
     exact ⟨t1,t3,t4,rfl,t42,t43,t67,t68,(eL g19),h1,trivial⟩
    ·
     refine aQ (edF g19 rfl) (aC rfl (aQ (edF g19 rfl) (aC t3 (aQ (edF g19 rfl) (xR rfl rfl (cG (edF g19 rfl) rfl ?_))))))
     exact ⟨t1,t3,t4,rfl,t42,t43,t67,t68,(eQ g19),h1,trivial⟩
   intro T H ⟨t1,t3,t4,t7,t42,t43,t67,t68,t93,h1,_⟩
   refine aC t93 ?_
   refine cF 3 (fun T H=>T 1=(V.mp 1 1 0 0)∧T 3=(iV ((m.nx.length:Nat):Int))∧T 4=(iV ((k:Nat):Int))∧T 7=(iV ((nth ((nth (m.ot) (k))) (j))))∧T 42=(iV ((m.nx.length:Nat):Int))∧T 43=(iV ((k:Nat):Int))∧T 67=(iV (m.i))∧T 68=(iV ((j:Nat):Int))∧T 97=(V.bool (decide (((((nth ((nth (m.nx) (k))) (j))) < (0:Int))∨(((m.nx.length:Nat):Int)≤((nth ((nth (m.nx) (k))) (j)))))∨(((nth ((nth (m.ot) (k))) (j))) < (0:Int)))))∧H 1=(bk 1 24 4 [[(iV (m.i)),(iV (m.s)),(aA m.nx),(aA m.ot)]])∧True) ?_ ?_
   ·
    by_cases g20:(((nth ((nth (m.nx) (k))) (j))) < (0:Int))∨(((m.nx.length:Nat):Int)≤((nth ((nth (m.nx) (k))) (j))))
    ·
     refine G_n (edT g20 rfl) (G_n (edT g20 rfl) (cK (edT g20 rfl) rfl ?_))
     exact ⟨t1,t3,t4,t7,t42,t43,t67,t68,(eL g20),h1,trivial⟩
    ·
     refine aQ (edF g20 rfl) (aC t7 (aQ (edF g20 rfl) (bU rfl rfl (cG (edF g20 rfl) rfl ?_))))
     exact ⟨t1,t3,t4,t7,t42,t43,t67,t68,(eQ g20),h1,trivial⟩
   intro T H ⟨t1,t3,t4,t7,t42,t43,t67,t68,t97,h1,_⟩
   refine aC t97 ?_
   refine cF 3 (fun T H=>T 1=(V.mp 1 1 0 0)∧T 3=(iV ((m.nx.length:Nat):Int))∧T 4=(iV ((k:Nat):Int))∧T 42=(iV ((m.nx.length:Nat):Int))∧T 43=(iV ((k:Nat):Int))∧T 67=(iV (m.i))∧T 68=(iV ((j:Nat):Int))∧T 101=(V.bool (decide ((((((nth ((nth (m.nx) (k))) (j))) < (0:Int))∨(((m.nx.length:Nat):Int)≤((nth ((nth (m.nx) (k))) (j)))))∨(((nth ((nth (m.ot) (k))) (j))) < (0:Int)))∨((1048576:Int) < ((nth ((nth (m.ot) (k))) (j)))))))∧H 1=(bk 1 24 4 [[(iV (m.i)),(iV (m.s)),(aA m.nx),(aA m.ot)]])∧True) ?_ ?_
   ·
    by_cases g21:((((nth ((nth (m.nx) (k))) (j))) < (0:Int))∨(((m.nx.length:Nat):Int)≤((nth ((nth (m.nx) (k))) (j)))))∨(((nth ((nth (m.ot) (k))) (j))) < (0:Int))
    ·
     refine G_n (edT g21 rfl) (G_n (edT g21 rfl) (cK (edT g21 rfl) rfl ?_))
     exact ⟨t1,t3,t4,t42,t43,t67,t68,(eL g21),h1,trivial⟩
    ·
     refine aQ (edF g21 rfl) (aC t7 (aQ (edF g21 rfl) (jO rfl rfl (cG (edF g21 rfl) rfl ?_))))
     exact ⟨t1,t3,t4,t42,t43,t67,t68,(eQ g21),h1,trivial⟩
   intro T H ⟨t1,t3,t4,t42,t43,t67,t68,t101,h1,_⟩
   refine R_e ?_
   refine lD t101 (fun c22=>?_) fun c22=>?_
   ·
    refine W_r (aC rfl (R_e (bS (y18 _ _ (p216 _ _ (y15 _ _ (y12 _ _ ?_)))))))
    refine p210 _ _ (y9 _ _ ?_)
    refine cC (@rfl V (iV (2:Int))) (aV ?_)
    · have e:nJ m k=2:=by
        rw [hr,uR (by unfold sY; split <;> omega) (by omega)]; unfold sY; split <;> omega
      rw [hc,uR (by omega) (by omega),e]
   refine fQ (n18 _ _ (.done (W_t (bJ t68 (@rfl V (iV ((1:Nat):Int))) (by omega) (aC rfl (R_e ?_))))))
   refine p116 _ _ _ ?_ ⟨(j+1),rfl,t1,t3,t4,t42,t43,t67,(Eq.trans (@rfl V (iV ((j+1:Nat):Int))) (by first|rfl|simp)),h1,?_,?_,?_⟩
   · omega
   · omega
   · omega
   · rw [hr,tC (by unfold sY; split <;> omega) (by omega)]
  refine aW (p316 _ _ _ (x15 _ _ (n12 _ _ (.done (W_t (bJ t43 (@rfl V (iV ((1:Nat):Int))) (by omega) (aC rfl ?_)))))))
  refine R_e ?_
  refine p110 _ _ _ ?_ ⟨(k+1),rfl,t1,t3,t42,(Eq.trans (@rfl V (iV ((k+1:Nat):Int))) (by first|rfl|simp)),h1,?_,?_,?_⟩
  · omega
  · omega
  · omega
  · rw [hc,tC (by rw [hr,zY (by omega)]) (by omega)]
 refine aW (p310 _ _ _ (x9 _ _ (.done (W_r (aC rfl (R_e (bS ?_)))))))
 refine cC (@rfl V (iV (0:Int))) (aV ?_)
 · rw [hc,zY (by omega)]
theorem aHa (m:M) (tg:List Int) (s a:Nat) (b:Bool) (hm:aZ m=0) (hs:s < m.nx.length) (ha:a < m.i.toNat) (ht:tg.length=m.nx.length) (hr: ∀ k,k < tg.length→0≤nth tg k∧nth tg k≤255) (Hi:aI) (e2:Hi 2=(bk 1 24 4 [[(iV (m.i)),(iV (m.s)),(aA m.nx),(aA m.ot)]])) (e3:Hi 3=(bk 1 25 1 [[(aM tg)]])) (e9:Hi 9=(bk 1 4 1 [[(V.bool b)]])):dC Tryz.prog 31 [(iV ((s:Nat):Int)),(iV ((a:Nat):Int)),(V.mp 2 1 0 0),(V.mp 3 1 0 0),(V.mp 9 1 0 0)] Hi (iV ((LfA m tg s a))) (upd Hi 9 (bk 1 4 1 [[(V.bool ((b||decide (1048576 < LfA m tg s a))))]])):=by
 refine eW (k0:=1000) Tryz.func31 aGO fun hB=>?_
 have mo:=cJ hm
 have rr:=mo.2.2.2.2.2.2.2 s hs
 have rj:=rr.2.2 a (by omega)
 have tj:=hr (nth (nth m.nx s) a).toNat (by omega)
 unfold s31
 dsimp only
 refine W_r (aC rfl (R_e (W_r (bD rfl e2 (aX rfl e2 rfl rfl (aC rfl (bO (i:=s) (@rfl V (aA m.ot)) (@rfl V (iV ((s:Nat):Int))) (by omega) rfl ?_)))))))
 refine aK rfl rfl (aC rfl (bO (i:=a) (@rfl V (aM ((nth (m.ot) (s))))) (@rfl V (iV ((a:Nat):Int))) (by omega) rfl (aK rfl rfl (aKI rfl rfl (by omega) (by omega) (aX rfl e3 rfl rfl (bD rfl e2 (aX rfl e2 rfl rfl ?_)))))))
 refine aC rfl (bO (i:=s) (@rfl V (aA m.nx)) (@rfl V (iV ((s:Nat):Int))) (by omega) rfl (aK rfl rfl (aC rfl (bO (i:=a) (@rfl V (aM ((nth (m.nx) (s))))) (@rfl V (iV ((a:Nat):Int))) (by omega) rfl (aK rfl rfl (eT (i:=((nth ((nth (m.nx) (s))) (a)))) (@rfl V (aM tg)) (@rfl V (iV ((nth ((nth (m.nx) (s))) (a))))) (by omega) (by omega) rfl (aK rfl rfl ?_)))))))
 refine aDT rfl rfl (by omega) (by omega) (aC rfl (R_e (W_r (aX rfl e9 rfl rfl (aC rfl ?_)))))
 refine cF 3 (fun T H=>T 4=(V.mp 9 1 0 0)∧T 8=(iV (((256:Int)*((nth ((nth (m.ot) (s))) (a))))+((nth (tg) ((nth ((nth (m.nx) (s))) (a))).toNat))))∧T 34=(V.bool ((b||decide ((1048576:Int) < (((256:Int)*((nth ((nth (m.ot) (s))) (a))))+((nth (tg) ((nth ((nth (m.nx) (s))) (a))).toNat)))))))∧(∀ j,j∉[9]→H j=Hi j)∧H 2=(bk 1 24 4 [[(iV (m.i)),(iV (m.s)),(aA m.nx),(aA m.ot)]])∧H 3=(bk 1 25 1 [[(aM tg)]])∧H 9=(bk 1 4 1 [[(V.bool b)]])∧True) ?_ ?_
 ·
  by_cases g1:b=true
  ·
   refine G_n (ebT g1 rfl) (G_n (ebT g1 rfl) (cK (ebT g1 rfl) rfl ?_))
   exact ⟨rfl,rfl,(aRg g1),(fun _ _=>rfl),e2,e3,e9,trivial⟩
  ·
   refine aQ (ebF g1 rfl) (aC rfl (aQ (ebF g1 rfl) (jO rfl rfl (cG (ebF g1 rfl) rfl ?_))))
   exact ⟨rfl,rfl,(aP9 g1),(fun _ _=>rfl),e2,e3,e9,trivial⟩
 intro T H ⟨t4,t8,t34,hF,h2,h3,h9,_⟩
 refine qV t4 t34 rfl h9 rfl rfl rfl rfl rfl (R_e (W_r (aC t8 (aC rfl (R_e (bS (bQ (R:=fun T H=>T 7=(iV (((256:Int)*((nth ((nth (m.ot) (s))) (a))))+((nth (tg) ((nth ((nth (m.nx) (s))) (a))).toNat))))∧(∀ j,j∉[9]→H j=Hi j)∧H 2=(bk 1 24 4 [[(iV (m.i)),(iV (m.s)),(aA m.nx),(aA m.ot)]])∧H 3=(bk 1 25 1 [[(aM tg)]])∧H 9=(bk 1 4 1 [[(V.bool ((b||decide ((1048576:Int) < (((256:Int)*((nth ((nth (m.ot) (s))) (a))))+((nth (tg) ((nth ((nth (m.nx) (s))) (a))).toNat)))))))]])∧True) ⟨(@rfl V (iV (((256:Int)*((nth ((nth (m.ot) (s))) (a))))+((nth (tg) ((nth ((nth (m.nx) (s))) (a))).toNat))))),(bB hF (by decide)),h2,h3,rfl,trivial⟩ ?_)))))))
 intro T H ⟨t7,hF,h2,h3,h9,_⟩
 have fh:=cW.fin (cW.put (B:=(bk 1 4 1 [[(V.bool ((b||decide (1048576 < LfA m tg s a))))]])) (cW.start hF) h9 (iU.eq (by first|rfl|simp)))
 exact iP t7 fh (eA.trans_eq (eA.same fh _) (by first|rfl|simp))
theorem aFl (m:M) (s a:Nat) (hm:aZ m=0) (hs:s < m.nx.length) (ha:a < m.i.toNat) (Hi:aI) (e1:Hi 1=(bk 1 24 4 [[(iV (m.i)),(iV (m.s)),(aA m.nx),(aA m.ot)]])):dC Tryz.prog 33 [(iV ((s:Nat):Int)),(iV ((a:Nat):Int)),(V.mp 1 1 0 0)] Hi (iV ((LwA m s a))) Hi:=by
 refine eW (k0:=1000) Tryz.func33 aFK fun hB=>?_
 have mo:=cJ hm
 have rr:=mo.2.2.2.2.2.2.2 s hs
 have rj:=rr.2.2 a (by omega)
 unfold s33
 dsimp only
 refine W_r (aC rfl (R_e (W_r (bD rfl e1 (aX rfl e1 rfl rfl (aC rfl (bO (i:=s) (@rfl V (aA m.ot)) (@rfl V (iV ((s:Nat):Int))) (by omega) rfl ?_)))))))
 refine aK rfl rfl (aC rfl (bO (i:=a) (@rfl V (aM ((nth (m.ot) (s))))) (@rfl V (iV ((a:Nat):Int))) (by omega) rfl (aK rfl rfl (aGE (x:=((nth ((nth (m.ot) (s))) (a)))) (y:=(256:Int)) rfl rfl (by omega) (by omega) (aC rfl (R_e (bS ?_)))))))
 refine bQ (R:=fun T H=>T 5=(iV ((((nth ((nth (m.ot) (s))) (a)))) / ((256:Int))))∧(∀ j,j∉[]→H j=Hi j)∧H 1=(bk 1 24 4 [[(iV (m.i)),(iV (m.s)),(aA m.nx),(aA m.ot)]])∧True) ⟨(@rfl V (iV ((((nth ((nth (m.ot) (s))) (a)))) / ((256:Int))))),(fun _ _=>rfl),e1,trivial⟩ ?_
 intro T H ⟨t5,hF,h1,_⟩
 have fh:=cW.fin (cW.start hF)
 exact iP t5 fh (eA.trans_eq (eA.same fh _) (by first|rfl|simp))
end Go.Proofs.YtmnnhjhkaepbaaaGreat
namespace Go.Proofs.YtmnnhjhkaepbaaaGreat
open Go Go.Proofs
attribute [local irreducible] pH
theorem aNP (m:M) (tg:List Int) (u2 u4 u5 u22 u38 u12 u13:Nat) (hm:aZ m=0) (ht:tg.length=m.nx.length) (hr: ∀ k,k < tg.length→0≤nth tg k∧nth tg k≤255) (Hi:aI) (q902:(Hi 902).ver=u2) (q904:(Hi 904).ver=u4) (q905:(Hi 905).ver=u5) (q922:(Hi 922).ver=u22∧(Hi 922).live=false) (q938:(Hi 938).ver=u38∧(Hi 938).live=false) (q1112:(Hi 1112).ver=u12) (q1113:(Hi 1113).ver=u13) (e2:Hi 2=(bk 1 24 4 [[(iV (m.i)),(iV (m.s)),(aA m.nx),(aA m.ot)]])) (e3:Hi 3=(bk 1 25 1 [[(aM tg)]])) (e9:Hi 9=(bk 1 4 1 [[(V.bool (bgA m tg 0))]])):dC Tryz.prog 30 [(V.agg [(iV (m.i)),(iV (m.s)),(aA m.nx),(aA m.ot)]),(V.fn 31 [] [(V.mp 2 1 0 0),(V.mp 3 1 0 0),(V.mp 9 1 0 0)])] Hi (V.agg [(iV ((lfM m tg).i)),(iV ((lfM m tg).s)),(aA ((lfM m tg).nx)),(aA ((lfM m tg).ot))]) (upd (upd (upd (upd (upd (upd (upd (upd Hi 902 (⟨u2+1,false,false,0,0,[]⟩:Blk)) 904 (⟨u4+1,false,false,0,0,[]⟩:Blk)) 905 (⟨u5+1,false,false,0,0,[]⟩:Blk)) 922 (⟨u22+m.nx.length,false,false,0,0,[]⟩:Blk)) 938 (⟨u38+2*m.nx.length,false,false,0,0,[]⟩:Blk)) 1112 (⟨u12+1+m.nx.length,false,false,0,0,[]⟩:Blk)) 1113 (⟨u13+1+m.nx.length,false,false,0,0,[]⟩:Blk)) 9 (bk 1 4 1 [[(V.bool (bgA m tg m.nx.length))]])):=by
 refine eW (k0:=900) Tryz.func30 aB2 fun hB=>?_
 have mo:=cJ hm
 unfold s30
 dsimp only
 refine W_r (eR (i:=902) (n:=u2) (m:=4) (cs:=[(iV (m.i)),(iV (m.s)),(aA m.nx),(aA m.ot)]) (by rfl) q902 rfl rfl rfl (dB (i:=904) (n:=u4) (m:=4) (by rfl) q904 rfl (R_e (W_r (bD rfl rfl (aX rfl rfl rfl rfl (bD rfl rfl ?_)))))))
 refine aX rfl rfl rfl rfl (dO rfl rfl (dB (i:=905) (n:=u5) (m:=4) (by rfl) q905 rfl (qV rfl rfl rfl rfl rfl rfl rfl rfl rfl (R_e (aE ?_)))))
 refine gR (fun T H=>T 1=(V.fn 31 [] [(V.mp 2 1 0 0),(V.mp 3 1 0 0),(V.mp 9 1 0 0)])∧T 2=(V.mp 902 (u2+1) 0 0)∧T 4=(V.mp 904 (u4+1) 0 0)∧T 5=(V.mp 905 (u5+1) 0 0)∧T 16=(iV ((m.nx.length:Nat):Int))∧T 17=(iV (0:Int))∧(∀ j,j∉[902,904,905,922,938,1112,1113,9]→H j=Hi j)∧H 2=(bk 1 24 4 [[(iV (m.i)),(iV (m.s)),(aA m.nx),(aA m.ot)]])∧H 3=(bk 1 25 1 [[(aM tg)]])∧H 9=(bk 1 4 1 [[(V.bool (bgA m tg 0))]])∧H 902=(bk (u2+1) 24 4 [[(iV (m.i)),(iV (m.s)),(aA m.nx),(aA m.ot)]])∧H 904=(bk (u4+1) 24 4 [[(iV (0:Int)),(iV (0:Int)),V.nilsl,V.nilsl]])∧H 905=(bk (u5+1) 24 4 [[(iV (m.i)),(iV (m.s)),V.nilsl,V.nilsl]])∧((H 922).ver=u22∧(H 922).live=false)∧((H 938).ver=u38∧(H 938).live=false)∧(H 1112).ver=u12∧(H 1113).ver=u13∧True) ?_ ?_
 ·
  refine bD rfl rfl (aX rfl rfl rfl rfl (bR rfl (aC rfl ?_)))
  exact fM ⟨rfl,rfl,rfl,rfl,rfl,rfl,(bB (bB (bB (bB (fun _ _=>rfl) (by decide)) (by decide)) (by decide)) (by decide)),e2,e3,e9,rfl,rfl,rfl,q922,q938,q1112,q1113,trivial⟩
 intro T H ⟨t1,t2,t4,t5,t16,t17,hF,h2,h3,h9,h902,h904,h905,h922,h938,h1112,h1113,_⟩
 refine .lazyCell 1112 25 1 905 0 2 [(iV (m.i)),(iV (m.s)),V.nilsl,V.nilsl] (by decide) (by rw [h905]; rfl) (by rw [h905]; rfl) rfl (bQ (R:=fun T H=>T 1=(V.fn 31 [] [(V.mp 2 1 0 0),(V.mp 3 1 0 0),(V.mp 9 1 0 0)])∧T 2=(V.mp 902 (u2+1) 0 0)∧T 4=(V.mp 904 (u4+1) 0 0)∧T 5=(V.mp 905 (u5+1) 0 0)∧T 16=(iV ((m.nx.length:Nat):Int))∧T 17=(iV (0:Int))∧(∀ j,j∉[902,904,905,922,938,1112,1113,9]→H j=Hi j)∧H 2=(bk 1 24 4 [[(iV (m.i)),(iV (m.s)),(aA m.nx),(aA m.ot)]])∧H 3=(bk 1 25 1 [[(aM tg)]])∧H 9=(bk 1 4 1 [[(V.bool (bgA m tg 0))]])∧H 902=(bk (u2+1) 24 4 [[(iV (m.i)),(iV (m.s)),(aA m.nx),(aA m.ot)]])∧H 904=(bk (u4+1) 24 4 [[(iV (0:Int)),(iV (0:Int)),V.nilsl,V.nilsl]])∧H 905=(bk (u5+1) 24 4 [[(iV (m.i)),(iV (m.s)),(V.ms 1112 (u12+1) 0 (0)),V.nilsl]])∧((H 922).ver=u22∧(H 922).live=false)∧((H 938).ver=u38∧(H 938).live=false)∧H 1112=(bz (u12+1) 25 1 [])∧(H 1113).ver=u13∧True) ⟨t1,t2,t4,t5,t16,t17,(bB (bB hF (by decide)) (by decide)),((aD _ _ (by decide)).trans ((aD _ _ (by decide)).trans h2)),((aD _ _ (by decide)).trans ((aD _ _ (by decide)).trans h3)),((aD _ _ (by decide)).trans ((aD _ _ (by decide)).trans h9)),((aD _ _ (by decide)).trans ((aD _ _ (by decide)).trans h902)),((aD _ _ (by decide)).trans ((aD _ _ (by decide)).trans h904)),(by rw [aG,h905,h1112]; rfl),⟨(congrArg Blk.ver ((aD _ _ (by decide)).trans (aD _ _ (by decide)))).trans (h922).1,(congrArg Blk.live ((aD _ _ (by decide)).trans (aD _ _ (by decide)))).trans (h922).2⟩,⟨(congrArg Blk.ver ((aD _ _ (by decide)).trans (aD _ _ (by decide)))).trans (h938).1,(congrArg Blk.live ((aD _ _ (by decide)).trans (aD _ _ (by decide)))).trans (h938).2⟩,(by rw [aD _ _ (by decide),aG,h1112]),((congrArg Blk.ver ((aD _ _ (by decide)).trans (aD _ _ (by decide)))).trans h1113),trivial⟩ ?_)
 intro T H ⟨t1,t2,t4,t5,t16,t17,hF,h2,h3,h9,h902,h904,h905,h922,h938,h1112,h1113,_⟩
 refine .lazyCell 1113 25 1 905 0 3 [(iV (m.i)),(iV (m.s)),(V.ms 1112 (u12+1) 0 (0)),V.nilsl] (by decide) (by rw [h905]; rfl) (by rw [h905]; rfl) rfl (.done ?_)
 refine bQ (R:=fun T H=>T 1=(V.fn 31 [] [(V.mp 2 1 0 0),(V.mp 3 1 0 0),(V.mp 9 1 0 0)])∧T 2=(V.mp 902 (u2+1) 0 0)∧T 4=(V.mp 904 (u4+1) 0 0)∧T 5=(V.mp 905 (u5+1) 0 0)∧T 16=(iV ((m.nx.length:Nat):Int))∧T 17=(iV (0:Int))∧(∀ j,j∉[902,904,905,922,938,1112,1113,9]→H j=Hi j)∧H 2=(bk 1 24 4 [[(iV (m.i)),(iV (m.s)),(aA m.nx),(aA m.ot)]])∧H 3=(bk 1 25 1 [[(aM tg)]])∧H 9=(bk 1 4 1 [[(V.bool (bgA m tg 0))]])∧H 902=(bk (u2+1) 24 4 [[(iV (m.i)),(iV (m.s)),(aA m.nx),(aA m.ot)]])∧H 904=(bk (u4+1) 24 4 [[(iV (0:Int)),(iV (0:Int)),V.nilsl,V.nilsl]])∧H 905=(bk (u5+1) 24 4 [[(iV (m.i)),(iV (m.s)),(V.ms 1112 (u12+1) 0 (0)),(V.ms 1113 (u13+1) 0 (0))]])∧((H 922).ver=u22∧(H 922).live=false)∧((H 938).ver=u38∧(H 938).live=false)∧H 1112=(bz (u12+1) 25 1 [])∧H 1113=(bz (u13+1) 25 1 [])∧True) ⟨t1,t2,t4,t5,t16,t17,(bB (bB hF (by decide)) (by decide)),((aD _ _ (by decide)).trans ((aD _ _ (by decide)).trans h2)),((aD _ _ (by decide)).trans ((aD _ _ (by decide)).trans h3)),((aD _ _ (by decide)).trans ((aD _ _ (by decide)).trans h9)),((aD _ _ (by decide)).trans ((aD _ _ (by decide)).trans h902)),((aD _ _ (by decide)).trans ((aD _ _ (by decide)).trans h904)),(by rw [aG,h905,h1113]; rfl),⟨(congrArg Blk.ver ((aD _ _ (by decide)).trans (aD _ _ (by decide)))).trans (h922).1,(congrArg Blk.live ((aD _ _ (by decide)).trans (aD _ _ (by decide)))).trans (h922).2⟩,⟨(congrArg Blk.ver ((aD _ _ (by decide)).trans (aD _ _ (by decide)))).trans (h938).1,(congrArg Blk.live ((aD _ _ (by decide)).trans (aD _ _ (by decide)))).trans (h938).2⟩,((aD _ _ (by decide)).trans ((aD _ _ (by decide)).trans h1112)),(by rw [aD _ _ (by decide),aG,h1113]),trivial⟩ ?_
 intro T H ⟨t1,t2,t4,t5,t16,t17,hF,h2,h3,h9,h902,h904,h905,h922,h938,h1112,h1113,_⟩
 refine aH fun Q1 n1 x1 y1 z1=>?_
 refine bW (fun mm T H=> ∃ (k:Nat) (v:Nat) (w:Nat) (v922:Nat) (v938:Nat),mm=m.nx.length - k∧T 1=(V.fn 31 [] [(V.mp 2 1 0 0),(V.mp 3 1 0 0),(V.mp 9 1 0 0)])∧T 2=(V.mp 902 (u2+1) 0 0)∧T 4=(V.mp 904 (u4+1) 0 0)∧T 5=(V.mp 905 (u5+1) 0 0)∧T 16=(iV ((m.nx.length:Nat):Int))∧T 17=(iV ((k:Nat):Int))∧(∀ j,j∉[902,904,905,922,938,1112,1113,9]→H j=Hi j)∧H 2=(bk 1 24 4 [[(iV (m.i)),(iV (m.s)),(aA m.nx),(aA m.ot)]])∧H 3=(bk 1 25 1 [[(aM tg)]])∧H 9=(bk 1 4 1 [[(V.bool (bgA m tg k))]])∧H 902=(bk (u2+1) 24 4 [[(iV (m.i)),(iV (m.s)),(aA m.nx),(aA m.ot)]])∧H 904=(bk (u4+1) 24 4 [[(iV (0:Int)),(iV (0:Int)),V.nilsl,V.nilsl]])∧H 905=(bk (u5+1) 24 4 [[(iV (m.i)),(iV (m.s)),(V.ms 1112 v 0 (k)),(V.ms 1113 w 0 (k))]])∧((H 922).ver=v922∧(H 922).live=false)∧((H 938).ver=v938∧(H 938).live=false)∧H 1112=(bz v 25 1 (List.map cL (tbl (nth m.nx) k)))∧H 1113=(bz w 25 1 (List.map cL (tbl (gX m tg) k)))∧(k≤m.nx.length)∧(v922≤u22+k∧v938≤u38+2*k∧v≤u12+1+k∧w≤u13+1+k)) ?_ ?_
 ·
  refine ⟨_,0,(u12+1),(u13+1),u22,u38,rfl,t1,t2,t4,t5,t16,(Eq.trans t17 rfl),hF,h2,h3,h9,h902,h904,(Eq.trans h905 (by first|rfl|(rw [← aS,List.map_replicate]; done)|(rw [← aS,List.map_replicate]; rfl)|(rw [← aY (f:=LfA m tg k) (z:=0) (n:=m.i.toNat) (j:=j) (by omega)]; first|done|rfl)|(rw [aB]; first|done|rfl)|(rw [aB,ej]; first|done|rfl)|(rw [lU]; done)|(rw [fL]; done)|(rw [eb]; done)|(rw [ek]; done)|(simp; done))),h922,h938,(Eq.trans h1112 (by first|rfl|(rw [← aS,List.map_replicate]; done)|(rw [← aS,List.map_replicate]; rfl)|(rw [← aY (f:=LfA m tg k) (z:=0) (n:=m.i.toNat) (j:=j) (by omega)]; first|done|rfl)|(rw [aB]; first|done|rfl)|(rw [aB,ej]; first|done|rfl)|(rw [lU]; done)|(rw [fL]; done)|(rw [eb]; done)|(rw [ek]; done)|(simp; done))),(Eq.trans h1113 (by first|rfl|(rw [← aS,List.map_replicate]; done)|(rw [← aS,List.map_replicate]; rfl)|(rw [← aY (f:=LfA m tg k) (z:=0) (n:=m.i.toNat) (j:=j) (by omega)]; first|done|rfl)|(rw [aB]; first|done|rfl)|(rw [aB,ej]; first|done|rfl)|(rw [lU]; done)|(rw [fL]; done)|(rw [eb]; done)|(rw [ek]; done)|(simp; done))),?_,?_⟩
  · exact Nat.zero_le _
  · omega
 intro mm T H ⟨k,v,w,v922,v938,hmm,t1,t2,t4,t5,t16,t17,hF,h2,h3,h9,h902,h904,h905,h922,h938,h1112,h1113,hk,hz⟩ Q2 p12 p22 p32
 unfold aFo
 refine W_r (bU t17 t16 (R_e ?_))
 refine aP rfl (fun c3=>?_) fun c3=>?_
 ·
  have rr:=mo.2.2.2.2.2.2.2 k (by omega)
  refine aJ (aH fun Q4 n4 x4 y4 z4=>(W_r (aC t17 (aC rfl (R_e (W_r (bD t2 h902 ?_)))))))
  refine aX rfl h902 rfl rfl ?_
  refine (aFv (i:=922) (n:=v922) (m:=((m.i).toNat)) (q:=((m.i).toNat)) (by rfl) (h922).1 (Eq.trans (@rfl V (iV (m.i))) (congrArg (V.int .i64) (by first|omega|(simp only [List.length_replicate]; omega)|(simp only [List.length_cons,List.length_nil]; omega)|(rw [aF]; omega)))) (Eq.trans (@rfl V (iV (m.i))) (congrArg (V.int .i64) (by first|omega|(simp only [List.length_replicate]; omega)|(simp only [List.length_cons,List.length_nil]; omega)|(rw [aF]; omega)))) (by first|omega|(simp only [List.length_replicate]; omega)|(simp only [List.length_cons,List.length_nil]; omega)|(rw [aF]; omega)) (by first|omega|(simp only [List.length_replicate]; omega)|(simp only [List.length_cons,List.length_nil]; omega)|(rw [aF]; omega)) (by first|omega|(simp only [List.length_replicate]; omega)|(simp only [List.length_cons,List.length_nil]; omega)|(rw [aF]; omega)) ?_)
  refine aC rfl (R_e (aE (W_r (aC rfl (dX rfl (@rfl Blk (bk (v922+1) 3 1 (List.replicate ((m.i).toNat) [(iV (0:Int))]))) (by first|rfl|simp) (aC rfl (R_e ?_)))))))
  refine aH fun Q5 n5 x5 y5 z5=>?_
  refine bW (fun mm T H=> ∃ (j:Nat) (u:Nat),mm=m.i.toNat - j∧T 1=(V.fn 31 [] [(V.mp 2 1 0 0),(V.mp 3 1 0 0),(V.mp 9 1 0 0)])∧T 2=(V.mp 902 (u2+1) 0 0)∧T 4=(V.mp 904 (u4+1) 0 0)∧T 5=(V.mp 905 (u5+1) 0 0)∧T 6=(iV ((k:Nat):Int))∧T 7=(V.ms 922 u 0 (m.i.toNat))∧T 16=(iV ((m.nx.length:Nat):Int))∧T 17=(iV ((k:Nat):Int))∧T 24=(iV ((m.i.toNat:Nat):Int))∧T 25=(iV ((j:Nat):Int))∧(∀ j,j∉[902,904,905,922,938,1112,1113,9]→H j=Hi j)∧H 2=(bk 1 24 4 [[(iV (m.i)),(iV (m.s)),(aA m.nx),(aA m.ot)]])∧H 3=(bk 1 25 1 [[(aM tg)]])∧H 9=(bk 1 4 1 [[(V.bool (bgJ m tg k j))]])∧H 902=(bk (u2+1) 24 4 [[(iV (m.i)),(iV (m.s)),(aA m.nx),(aA m.ot)]])∧H 904=(bk (u4+1) 24 4 [[(iV (0:Int)),(iV (0:Int)),V.nilsl,V.nilsl]])∧H 905=(bk (u5+1) 24 4 [[(iV (m.i)),(iV (m.s)),(V.ms 1112 v 0 (k)),(V.ms 1113 w 0 (k))]])∧H 922=(bk u 3 1 (List.map cI (cZ (LfA m tg k) 0 m.i.toNat j)))∧((H 938).ver=v938∧(H 938).live=false)∧H 1112=(bz v 25 1 (List.map cL (tbl (nth m.nx) k)))∧H 1113=(bz w 25 1 (List.map cL (tbl (gX m tg) k)))∧(j≤m.i.toNat)∧(u≤u22+k+1)) ?_ ?_
  ·
   refine ⟨_,0,(v922+1),rfl,t1,t2,t4,t5,rfl,(Eq.trans (@rfl V (V.ms 922 (v922+1) 0 ((m.i).toNat))) (by first|rfl|(rw [e9t,ek]; rfl)|simp)),t16,t17,(Eq.trans (@rfl V (iV (((m.i).toNat:Nat):Int))) (by first|rfl|(rw [e9t,ek]; rfl)|simp)),(Eq.trans (@rfl V (iV (0:Int))) rfl),(bB hF (by decide)),h2,h3,(Eq.trans h9 (by first|rfl|(rw [← aS,List.map_replicate]; done)|(rw [← aS,List.map_replicate]; rfl)|(rw [← aY (f:=LfA m tg k) (z:=0) (n:=m.i.toNat) (j:=j) (by omega)]; first|done|rfl)|(rw [aB]; first|done|rfl)|(rw [aB,ej]; first|done|rfl)|(rw [lU]; done)|(rw [fL]; done)|(rw [eb]; done)|(rw [ek]; done)|(simp; done))),h902,h904,h905,(Eq.trans (@rfl Blk (bk (v922+1) 3 1 (List.replicate ((m.i).toNat) [(iV (0:Int))]))) (by first|rfl|(rw [← aS,List.map_replicate]; done)|(rw [← aS,List.map_replicate]; rfl)|(rw [← aY (f:=LfA m tg k) (z:=0) (n:=m.i.toNat) (j:=j) (by omega)]; first|done|rfl)|(rw [aB]; first|done|rfl)|(rw [aB,ej]; first|done|rfl)|(rw [lU]; done)|(rw [fL]; done)|(rw [eb]; done)|(rw [ek]; done)|(simp; done))),h938,h1112,h1113,?_,?_⟩
   · exact Nat.zero_le _
   · omega
  intro mm T H ⟨j,u,hmm,t1,t2,t4,t5,t6,t7,t16,t17,t24,t25,hF,h2,h3,h9,h902,h904,h905,h922,h938,h1112,h1113,hj,hu⟩ Q6 p16 p26 p36
  unfold aG1
  refine W_r (bU t25 t24 (R_e ?_))
  refine aP rfl (fun c7=>?_) fun c7=>?_
  ·
   refine aJ (aH fun Q8 n8 x8 y8 z8=>(W_r (aC t25 (aC rfl (R_e (W_t (aC t7 ?_)))))))
   refine aC rfl (aC t1 (aC t6 (aC rfl (aBI (@rfl V (V.fn 31 [] [(V.mp 2 1 0 0),(V.mp 3 1 0 0),(V.mp 9 1 0 0)])) (cM (@rfl V (iV ((k:Nat):Int))) (cM (@rfl V (iV ((j:Nat):Int))) gN)) (aHa m tg k j (bgJ m tg k j) hm (by omega) (by omega) ht hr _ h2 h3 h9) (cV (i:=j) (@rfl V (V.ms 922 u 0 (m.i.toNat))) (@rfl V (iV ((j:Nat):Int))) h922 oB rfl (by first|omega|(simp only [List.length_replicate]; omega)|(simp only [List.length_cons,List.length_nil]; omega)|(rw [aF]; omega)) (bC (vs:=[(iV ((LfA m tg k j)))]) (B':=(bk u 3 1 (List.map cI ((cZ (LfA m tg k) 0 m.i.toNat j).set j (((LfA m tg k j))))))) rfl rfl rfl h922 (fY (x:=(((LfA m tg k j)))) (i:=j) (by first|omega|(simp only [List.length_replicate]; omega)|(simp only [List.length_cons,List.length_nil]; omega)|(rw [aF]; omega)) rfl rfl rfl rfl) (R_e ?_)))))))
   refine n8 _ _ (.done (W_t (bJ t25 (@rfl V (iV ((1:Nat):Int))) (by first|omega|(simp only [List.length_replicate]; omega)|(simp only [List.length_cons,List.length_nil]; omega)|(rw [aF]; omega)) (aC rfl (R_e ?_)))))
   refine p16 _ _ _ ?_ ⟨(j+1),u,rfl,t1,t2,t4,t5,t6,t7,t16,t17,t24,(Eq.trans (@rfl V (iV ((j+1:Nat):Int))) (by first|rfl|(rw [e9t,ek]; rfl)|simp)),(bB (bB hF (by decide)) (by decide)),h2,h3,(Eq.trans (@rfl Blk (bk 1 4 1 [[(V.bool (((bgJ m tg k j)||decide (1048576 < LfA m tg k j))))]])) (by first|rfl|(rw [← aS,List.map_replicate]; done)|(rw [← aS,List.map_replicate]; rfl)|(rw [← aY (f:=LfA m tg k) (z:=0) (n:=m.i.toNat) (j:=j) (by omega)]; first|done|rfl)|(rw [aB]; first|done|rfl)|(rw [aB,ej]; first|done|rfl)|(rw [lU]; done)|(rw [fL]; done)|(rw [eb]; done)|(rw [ek]; done)|(simp; done))),h902,h904,h905,(Eq.trans (@rfl Blk (bk u 3 1 (List.map cI ((cZ (LfA m tg k) 0 m.i.toNat j).set j (((LfA m tg k j))))))) (by first|rfl|(rw [← aS,List.map_replicate]; done)|(rw [← aS,List.map_replicate]; rfl)|(rw [← aY (f:=LfA m tg k) (z:=0) (n:=m.i.toNat) (j:=j) (by omega)]; first|done|rfl)|(rw [aB]; first|done|rfl)|(rw [aB,ej]; first|done|rfl)|(rw [lU]; done)|(rw [fL]; done)|(rw [eb]; done)|(rw [ek]; done)|(simp; done))),h938,h1112,h1113,?_,?_⟩
   · omega
   · omega
   · omega
  have ej:cZ (LfA m tg k) 0 m.i.toNat j=gX m tg k:=kO (by omega)
  have eb:bgJ m tg k j=bgA m tg (k+1):=by rw [show j=m.i.toNat by omega]; exact aHM
  refine aW (p36 _ _ _ (x5 _ _ (.done ?_)))
  refine aSc (fun T H=>T 1=(V.fn 31 [] [(V.mp 2 1 0 0),(V.mp 3 1 0 0),(V.mp 9 1 0 0)])∧T 2=(V.mp 902 (u2+1) 0 0)∧T 4=(V.mp 904 (u4+1) 0 0)∧T 5=(V.mp 905 (u5+1) 0 0)∧T 7=(V.ms 922 u 0 (m.i.toNat))∧T 16=(iV ((m.nx.length:Nat):Int))∧T 17=(iV ((k:Nat):Int))∧(∀ j,j∉[902,904,905,922,938,1112,1113,9]→H j=Hi j)∧H 2=(bk 1 24 4 [[(iV (m.i)),(iV (m.s)),(aA m.nx),(aA m.ot)]])∧H 3=(bk 1 25 1 [[(aM tg)]])∧H 9=(bk 1 4 1 [[(V.bool (bgJ m tg k j))]])∧H 902=(bk (u2+1) 24 4 [[(iV (m.i)),(iV (m.s)),(aA m.nx),(aA m.ot)]])∧H 904=(bk (u4+1) 24 4 [[(iV (0:Int)),(iV (0:Int)),V.nilsl,V.nilsl]])∧H 905=(bk (u5+1) 24 4 [[(iV (m.i)),(iV (m.s)),(V.ms 1112 (v+1) 0 (k+1)),(V.ms 1113 w 0 (k))]])∧H 922=(bk u 3 1 (List.map cI (cZ (LfA m tg k) 0 m.i.toNat j)))∧H 938=(bz (v938+2) 3 1 (List.map cI ([]++((nth (m.nx) (k))))))∧H 1112=(bz (v+1) 25 1 (List.map cL (tbl (nth m.nx) k)++[[(V.ms 938 (v938+2) 0 (0+((nth (m.nx) (k))).length))]]))∧H 1113=(bz w 25 1 (List.map cL (tbl (gX m tg) k)))∧True) ?_ ?_
  ·
   refine bD t5 h905 (aX rfl h905 rfl rfl (eS (i:=938) (n:=v938) (by rfl) (h938).1 (bD t2 h902 (aX rfl h902 rfl rfl (aC t6 (bO (i:=k) (@rfl V (aA m.nx)) (@rfl V (iV ((k:Nat):Int))) (by first|omega|(simp only [List.length_replicate]; omega)|(simp only [List.length_cons,List.length_nil]; omega)|(rw [aF]; omega)) rfl (aK rfl rfl ?_)))))))
   refine jH (l:=([])) (m:=((nth (m.nx) (k)))) (f:=cI) (@rfl V (V.ms 938 (v938+1) 0 (0))) (show _=(bz (v938+1) 3 1 (List.map cI ([]))) from (@rfl Blk (bz (v938+1) 3 1 []))) (by first|rfl|exact (aL _ _).symm|exact aF.symm|simp|omega) (@rfl V (aM ((nth (m.nx) (k))))) (fun _=>rfl) (fun _=>rfl) (by first|omega|(simp only [List.length_replicate]; omega)|(simp only [List.length_cons,List.length_nil]; omega)|(rw [aF]; omega)) (by first|omega|(simp only [List.length_replicate]; omega)|(simp only [List.length_cons,List.length_nil]; omega)|(rw [aF]; omega)) (bZ rfl rfl (rI (l:=(tbl (nth m.nx) k)) (f:=cL) (@rfl V (V.ms 1112 v 0 (k))) h1112 (by first|rfl|exact (aL _ _).symm|exact aF.symm|simp|omega) (@rfl V (V.sl [[(V.ms 938 (v938+2) 0 (0+((nth (m.nx) (k))).length))]])) (by simp [cP,V.one]) (by first|omega|(simp only [List.length_replicate]; omega)|(simp only [List.length_cons,List.length_nil]; omega)|(rw [aF]; omega)) (by first|omega|(simp only [List.length_replicate]; omega)|(simp only [List.length_cons,List.length_nil]; omega)|(rw [aF]; omega)) (bD t5 h905 (qV rfl rfl rfl h905 rfl rfl rfl rfl rfl ?_))))
   refine fM ⟨by simp [ddB,apV,iW,aB0,t1,t16,t17,t2,t24,t25,t4,t5,t6,t7],⟨t1,t2,t4,t5,t7,t16,t17,(bB (bB (bB (bB hF (by decide)) (by decide)) (by decide)) (by decide)),h2,h3,h9,h902,h904,rfl,h922,rfl,rfl,h1113,trivial⟩⟩
  intro T H ⟨t1,t2,t4,t5,t7,t16,t17,hF,h2,h3,h9,h902,h904,h905,h922,h938,h1112,h1113,_⟩
  refine .freeze 922 (bQ (R:=fun T H=>T 1=(V.fn 31 [] [(V.mp 2 1 0 0),(V.mp 3 1 0 0),(V.mp 9 1 0 0)])∧T 2=(V.mp 902 (u2+1) 0 0)∧T 4=(V.mp 904 (u4+1) 0 0)∧T 5=(V.mp 905 (u5+1) 0 0)∧T 7=(aM (cZ (LfA m tg k) 0 m.i.toNat j))∧T 16=(iV ((m.nx.length:Nat):Int))∧T 17=(iV ((k:Nat):Int))∧(∀ j,j∉[902,904,905,922,938,1112,1113,9]→H j=Hi j)∧H 2=(bk 1 24 4 [[(iV (m.i)),(iV (m.s)),(aA m.nx),(aA m.ot)]])∧H 3=(bk 1 25 1 [[(aM tg)]])∧H 9=(bk 1 4 1 [[(V.bool (bgJ m tg k j))]])∧H 902=(bk (u2+1) 24 4 [[(iV (m.i)),(iV (m.s)),(aA m.nx),(aA m.ot)]])∧H 904=(bk (u4+1) 24 4 [[(iV (0:Int)),(iV (0:Int)),V.nilsl,V.nilsl]])∧H 905=(bk (u5+1) 24 4 [[(iV (m.i)),(iV (m.s)),(V.ms 1112 (v+1) 0 (k+1)),(V.ms 1113 w 0 (k))]])∧((H 922).ver=u∧(H 922).live=false)∧H 938=(bz (v938+2) 3 1 (List.map cI ([]++((nth (m.nx) (k))))))∧H 1112=(bz (v+1) 25 1 (List.map cL (tbl (nth m.nx) k)++[[(V.ms 938 (v938+2) 0 (0+((nth (m.nx) (k))).length))]]))∧H 1113=(bz w 25 1 (List.map cL (tbl (gX m tg) k)))∧True) ⟨(aO t1 rfl),(aO t2 rfl),(aO t4 rfl),(aO t5 rfl),(aO t7 (gE h922 (by first|rfl|simp) (l:=(cZ (LfA m tg k) 0 m.i.toNat j)) rfl (by first|rfl|exact (aL _ _).symm|exact aF.symm|simp|omega))),(aO t16 rfl),(aO t17 rfl),(iO hF (by decide)),(aN h2 (by decide)),(aN h3 (by decide)),(aN h9 (by decide)),(aN h902 (by decide)),(aN h904 (by decide)),(aN h905 (by decide)),(bL (congrArg Blk.ver h922)),(aN h938 (by decide)),(aN h1112 (by decide)),(aN h1113 (by decide)),trivial⟩ ?_)
  intro T H ⟨t1,t2,t4,t5,t7,t16,t17,hF,h2,h3,h9,h902,h904,h905,h922,h938,h1112,h1113,_⟩
  refine aAy (id:=938) (id2:=1112) (rows0:=List.map cL (tbl (nth m.nx) k)) (off:=0) (r:=[(V.ms 938 (v938+2) 0 (0+((nth (m.nx) (k))).length))]) (m:=([]++((nth (m.nx) (k))))) (g:=cI) (by decide) h938 h1112 (by first|rfl|exact (aL _ _).symm|exact aF.symm|simp|omega) rfl (.done ?_)
  refine bQ (R:=fun T H=>T 1=(V.fn 31 [] [(V.mp 2 1 0 0),(V.mp 3 1 0 0),(V.mp 9 1 0 0)])∧T 2=(V.mp 902 (u2+1) 0 0)∧T 4=(V.mp 904 (u4+1) 0 0)∧T 5=(V.mp 905 (u5+1) 0 0)∧T 7=(aM (cZ (LfA m tg k) 0 m.i.toNat j))∧T 16=(iV ((m.nx.length:Nat):Int))∧T 17=(iV ((k:Nat):Int))∧(∀ j,j∉[902,904,905,922,938,1112,1113,9]→H j=Hi j)∧H 2=(bk 1 24 4 [[(iV (m.i)),(iV (m.s)),(aA m.nx),(aA m.ot)]])∧H 3=(bk 1 25 1 [[(aM tg)]])∧H 9=(bk 1 4 1 [[(V.bool (bgJ m tg k j))]])∧H 902=(bk (u2+1) 24 4 [[(iV (m.i)),(iV (m.s)),(aA m.nx),(aA m.ot)]])∧H 904=(bk (u4+1) 24 4 [[(iV (0:Int)),(iV (0:Int)),V.nilsl,V.nilsl]])∧H 905=(bk (u5+1) 24 4 [[(iV (m.i)),(iV (m.s)),(V.ms 1112 (v+1) 0 (k+1)),(V.ms 1113 w 0 (k))]])∧((H 922).ver=u∧(H 922).live=false)∧((H 938).ver=v938+2∧(H 938).live=false)∧H 1112=(bz (v+1) 25 1 (List.map cL (tbl (nth m.nx) k++[[]++((nth (m.nx) (k)))])))∧H 1113=(bz w 25 1 (List.map cL (tbl (gX m tg) k)))∧True) ⟨(aO t1 rfl),(aO t2 rfl),(aO t4 rfl),(aO t5 rfl),(aO t7 rfl),(aO t16 rfl),(aO t17 rfl),(bB (iO hF (by decide)) (by decide)),((aD _ _ (by decide)).trans (aN h2 (by decide))),((aD _ _ (by decide)).trans (aN h3 (by decide))),((aD _ _ (by decide)).trans (aN h9 (by decide))),((aD _ _ (by decide)).trans (aN h902 (by decide))),((aD _ _ (by decide)).trans (aN h904 (by decide))),((aD _ _ (by decide)).trans (aN h905 (by decide))),⟨(congrArg Blk.ver (aD _ _ (by decide))).trans (bK h922).1,(congrArg Blk.live (aD _ _ (by decide))).trans (bK h922).2⟩,⟨(congrArg Blk.ver (aD _ _ (by decide))).trans (bL (congrArg Blk.ver h938)).1,(congrArg Blk.live (aD _ _ (by decide))).trans (bL (congrArg Blk.ver h938)).2⟩,(Eq.trans (aG _ _ _) (zZ rfl)),((aD _ _ (by decide)).trans (aN h1113 (by decide))),trivial⟩ ?_
  intro T H ⟨t1,t2,t4,t5,t7,t16,t17,hF,h2,h3,h9,h902,h904,h905,h922,h938,h1112,h1113,_⟩
  refine W_t (bD t5 h905 (aX rfl h905 rfl rfl (aC t7 (bZ rfl rfl (cA (l:=(tbl (gX m tg) k)) (f:=cL) (x:=(cZ (LfA m tg k) 0 m.i.toNat j)) (@rfl V (V.ms 1113 w 0 (k))) h1113 (by first|rfl|exact (aL _ _).symm|exact aF.symm|simp|omega) (@rfl V (V.sl [[(aM (cZ (LfA m tg k) 0 m.i.toNat j))]])) rfl rfl (by first|omega|(simp only [List.length_replicate]; omega)|(simp only [List.length_cons,List.length_nil]; omega)|(rw [aF]; omega)) (by first|omega|(simp only [List.length_replicate]; omega)|(simp only [List.length_cons,List.length_nil]; omega)|(rw [aF]; omega)) (bD t5 h905 (qV rfl rfl rfl h905 rfl rfl rfl rfl rfl ?_)))))))
  refine R_e (n4 _ _ (.done (W_t (bJ t17 (@rfl V (iV ((1:Nat):Int))) (by first|omega|(simp only [List.length_replicate]; omega)|(simp only [List.length_cons,List.length_nil]; omega)|(rw [aF]; omega)) (aC rfl (R_e ?_))))))
  refine p12 _ _ _ ?_ ⟨(k+1),(v+1),(w+1),u,(v938+2),rfl,t1,t2,t4,t5,t16,(Eq.trans (@rfl V (iV ((k+1:Nat):Int))) (by first|rfl|(rw [e9t,ek]; rfl)|simp)),(bB (bB hF (by decide)) (by decide)),h2,h3,(Eq.trans h9 (by first|rfl|(rw [← aS,List.map_replicate]; done)|(rw [← aS,List.map_replicate]; rfl)|(rw [← aY (f:=LfA m tg k) (z:=0) (n:=m.i.toNat) (j:=j) (by omega)]; first|done|rfl)|(rw [aB]; first|done|rfl)|(rw [aB,ej]; first|done|rfl)|(rw [lU]; done)|(rw [fL]; done)|(rw [eb]; done)|(rw [ek]; done)|(simp; done))),h902,h904,(Eq.trans (@rfl Blk (bk (u5+1) 24 4 [[(iV (m.i)),(iV (m.s)),(V.ms 1112 (v+1) 0 (k+1)),(V.ms 1113 (w+1) 0 (k+1))]])) (by first|rfl|(rw [← aS,List.map_replicate]; done)|(rw [← aS,List.map_replicate]; rfl)|(rw [← aY (f:=LfA m tg k) (z:=0) (n:=m.i.toNat) (j:=j) (by omega)]; first|done|rfl)|(rw [aB]; first|done|rfl)|(rw [aB,ej]; first|done|rfl)|(rw [lU]; done)|(rw [fL]; done)|(rw [eb]; done)|(rw [ek]; done)|(simp; done))),h922,h938,(Eq.trans h1112 (by first|rfl|(rw [← aS,List.map_replicate]; done)|(rw [← aS,List.map_replicate]; rfl)|(rw [← aY (f:=LfA m tg k) (z:=0) (n:=m.i.toNat) (j:=j) (by omega)]; first|done|rfl)|(rw [aB]; first|done|rfl)|(rw [aB,ej]; first|done|rfl)|(rw [lU]; done)|(rw [fL]; done)|(rw [eb]; done)|(rw [ek]; done)|(simp; done))),(Eq.trans (@rfl Blk (bz (w+1) 25 1 (List.map cL (tbl (gX m tg) k++[cZ (LfA m tg k) 0 m.i.toNat j])))) (by first|rfl|(rw [← aS,List.map_replicate]; done)|(rw [← aS,List.map_replicate]; rfl)|(rw [← aY (f:=LfA m tg k) (z:=0) (n:=m.i.toNat) (j:=j) (by omega)]; first|done|rfl)|(rw [aB]; first|done|rfl)|(rw [aB,ej]; first|done|rfl)|(rw [lU]; done)|(rw [fL]; done)|(rw [eb]; done)|(rw [ek]; done)|(simp; done))),?_,?_⟩
  · omega
  · omega
  · omega
 have ek:k=m.nx.length:=by omega
 have e9t:=qB (l:=m.nx) ek.symm
 refine aW (p32 _ _ _ (x1 _ _ (bQ (R:=fun T H=>T 1=(V.fn 31 [] [(V.mp 2 1 0 0),(V.mp 3 1 0 0),(V.mp 9 1 0 0)])∧T 2=(V.mp 902 (u2+1) 0 0)∧T 4=(V.mp 904 (u4+1) 0 0)∧T 5=(V.mp 905 (u5+1) 0 0)∧T 16=(iV ((m.nx.length:Nat):Int))∧T 17=(iV ((k:Nat):Int))∧T 18=(V.bool (decide (((k:Nat):Int) < ((m.nx.length:Nat):Int))))∧(∀ j,j∉[902,904,905,922,938,1112,1113,9]→H j=Hi j)∧H 2=(bk 1 24 4 [[(iV (m.i)),(iV (m.s)),(aA m.nx),(aA m.ot)]])∧H 3=(bk 1 25 1 [[(aM tg)]])∧H 9=(bk 1 4 1 [[(V.bool (bgA m tg k))]])∧H 902=(bk (u2+1) 24 4 [[(iV (m.i)),(iV (m.s)),(aA m.nx),(aA m.ot)]])∧H 904=(bk (u4+1) 24 4 [[(iV (0:Int)),(iV (0:Int)),V.nilsl,V.nilsl]])∧H 905=(bk (u5+1) 24 4 [[(iV (m.i)),(iV (m.s)),(V.ms 1112 v 0 (k)),(V.ms 1113 w 0 (k))]])∧((H 922).ver=v922∧(H 922).live=false)∧((H 938).ver=v938∧(H 938).live=false)∧H 1112=(bz v 25 1 (List.map cL (tbl (nth m.nx) k)))∧H 1113=(bz w 25 1 (List.map cL (tbl (gX m tg) k)))∧True) ⟨t1,t2,t4,t5,t16,t17,(@rfl V (V.bool (decide (((k:Nat):Int) < ((m.nx.length:Nat):Int))))),hF,h2,h3,h9,h902,h904,h905,h922,h938,h1112,h1113,trivial⟩ ?_)))
 intro T H ⟨t1,t2,t4,t5,t16,t17,t18,hF,h2,h3,h9,h902,h904,h905,h922,h938,h1112,h1113,_⟩
 refine kM (id:=1112) (id2:=905) (rows:=[[(iV (m.i)),(iV (m.s)),(V.ms 1112 v 0 (k)),(V.ms 1113 w 0 (k))]]) (i:=0) (off:=2) (r:=[(iV (m.i)),(iV (m.s)),(V.ms 1112 v 0 (k)),(V.ms 1113 w 0 (k))]) (m:=(tbl (nth m.nx) k)) (g:=cL) (by decide) h1112 h905 (by first|omega|(simp only [List.length_replicate]; omega)|(simp only [List.length_cons,List.length_nil]; omega)|(rw [aF]; omega)) (by first|rfl|exact (aL _ _).symm|exact aF.symm|simp|omega) rfl (bQ (R:=fun T H=>T 1=(V.fn 31 [] [(V.mp 2 1 0 0),(V.mp 3 1 0 0),(V.mp 9 1 0 0)])∧T 2=(V.mp 902 (u2+1) 0 0)∧T 4=(V.mp 904 (u4+1) 0 0)∧T 5=(V.mp 905 (u5+1) 0 0)∧T 16=(iV ((m.nx.length:Nat):Int))∧T 17=(iV ((k:Nat):Int))∧T 18=(V.bool (decide (((k:Nat):Int) < ((m.nx.length:Nat):Int))))∧(∀ j,j∉[902,904,905,922,938,1112,1113,9]→H j=Hi j)∧H 2=(bk 1 24 4 [[(iV (m.i)),(iV (m.s)),(aA m.nx),(aA m.ot)]])∧H 3=(bk 1 25 1 [[(aM tg)]])∧H 9=(bk 1 4 1 [[(V.bool (bgA m tg k))]])∧H 902=(bk (u2+1) 24 4 [[(iV (m.i)),(iV (m.s)),(aA m.nx),(aA m.ot)]])∧H 904=(bk (u4+1) 24 4 [[(iV (0:Int)),(iV (0:Int)),V.nilsl,V.nilsl]])∧H 905=(bk (u5+1) 24 4 [[(iV (m.i)),(iV (m.s)),(aA (tbl (nth m.nx) k)),(V.ms 1113 w 0 (k))]])∧((H 922).ver=v922∧(H 922).live=false)∧((H 938).ver=v938∧(H 938).live=false)∧((H 1112).ver=v∧(H 1112).live=false)∧H 1113=(bz w 25 1 (List.map cL (tbl (gX m tg) k)))∧True) ⟨(aO t1 rfl),(aO t2 rfl),(aO t4 rfl),(aO t5 rfl),(aO t16 rfl),(aO t17 rfl),(aO t18 rfl),(bB (iO hF (by decide)) (by decide)),((aD _ _ (by decide)).trans (aN h2 (by decide))),((aD _ _ (by decide)).trans (aN h3 (by decide))),((aD _ _ (by decide)).trans (aN h9 (by decide))),((aD _ _ (by decide)).trans (aN h902 (by decide))),((aD _ _ (by decide)).trans (aN h904 (by decide))),(aG _ _ _),⟨(congrArg Blk.ver (aD _ _ (by decide))).trans (bK h922).1,(congrArg Blk.live (aD _ _ (by decide))).trans (bK h922).2⟩,⟨(congrArg Blk.ver (aD _ _ (by decide))).trans (bK h938).1,(congrArg Blk.live (aD _ _ (by decide))).trans (bK h938).2⟩,⟨(congrArg Blk.ver (aD _ _ (by decide))).trans (bL (congrArg Blk.ver h1112)).1,(congrArg Blk.live (aD _ _ (by decide))).trans (bL (congrArg Blk.ver h1112)).2⟩,((aD _ _ (by decide)).trans (aN h1113 (by decide))),trivial⟩ ?_)
 intro T H ⟨t1,t2,t4,t5,t16,t17,t18,hF,h2,h3,h9,h902,h904,h905,h922,h938,h1112,h1113,_⟩
 refine kM (id:=1113) (id2:=905) (rows:=[[(iV (m.i)),(iV (m.s)),(aA (tbl (nth m.nx) k)),(V.ms 1113 w 0 (k))]]) (i:=0) (off:=3) (r:=[(iV (m.i)),(iV (m.s)),(aA (tbl (nth m.nx) k)),(V.ms 1113 w 0 (k))]) (m:=(tbl (gX m tg) k)) (g:=cL) (by decide) h1113 h905 (by first|omega|(simp only [List.length_replicate]; omega)|(simp only [List.length_cons,List.length_nil]; omega)|(rw [aF]; omega)) (by first|rfl|exact (aL _ _).symm|exact aF.symm|simp|omega) rfl (.done ?_)
 refine bQ (R:=fun T H=>T 1=(V.fn 31 [] [(V.mp 2 1 0 0),(V.mp 3 1 0 0),(V.mp 9 1 0 0)])∧T 2=(V.mp 902 (u2+1) 0 0)∧T 4=(V.mp 904 (u4+1) 0 0)∧T 5=(V.mp 905 (u5+1) 0 0)∧T 16=(iV ((m.nx.length:Nat):Int))∧T 17=(iV ((k:Nat):Int))∧T 18=(V.bool (decide (((k:Nat):Int) < ((m.nx.length:Nat):Int))))∧(∀ j,j∉[902,904,905,922,938,1112,1113,9]→H j=Hi j)∧H 2=(bk 1 24 4 [[(iV (m.i)),(iV (m.s)),(aA m.nx),(aA m.ot)]])∧H 3=(bk 1 25 1 [[(aM tg)]])∧H 9=(bk 1 4 1 [[(V.bool (bgA m tg k))]])∧H 902=(bk (u2+1) 24 4 [[(iV (m.i)),(iV (m.s)),(aA m.nx),(aA m.ot)]])∧H 904=(bk (u4+1) 24 4 [[(iV (0:Int)),(iV (0:Int)),V.nilsl,V.nilsl]])∧H 905=(bk (u5+1) 24 4 [[(iV (m.i)),(iV (m.s)),(aA (tbl (nth m.nx) k)),(aA (tbl (gX m tg) k))]])∧((H 922).ver=v922∧(H 922).live=false)∧((H 938).ver=v938∧(H 938).live=false)∧((H 1112).ver=v∧(H 1112).live=false)∧((H 1113).ver=w∧(H 1113).live=false)∧True) ⟨(aO t1 rfl),(aO t2 rfl),(aO t4 rfl),(aO t5 rfl),(aO t16 rfl),(aO t17 rfl),(aO t18 rfl),(bB (iO hF (by decide)) (by decide)),((aD _ _ (by decide)).trans (aN h2 (by decide))),((aD _ _ (by decide)).trans (aN h3 (by decide))),((aD _ _ (by decide)).trans (aN h9 (by decide))),((aD _ _ (by decide)).trans (aN h902 (by decide))),((aD _ _ (by decide)).trans (aN h904 (by decide))),(aG _ _ _),⟨(congrArg Blk.ver (aD _ _ (by decide))).trans (bK h922).1,(congrArg Blk.live (aD _ _ (by decide))).trans (bK h922).2⟩,⟨(congrArg Blk.ver (aD _ _ (by decide))).trans (bK h938).1,(congrArg Blk.live (aD _ _ (by decide))).trans (bK h938).2⟩,⟨(congrArg Blk.ver (aD _ _ (by decide))).trans (bK h1112).1,(congrArg Blk.live (aD _ _ (by decide))).trans (bK h1112).2⟩,⟨(congrArg Blk.ver (aD _ _ (by decide))).trans (bL (congrArg Blk.ver h1113)).1,(congrArg Blk.live (aD _ _ (by decide))).trans (bL (congrArg Blk.ver h1113)).2⟩,trivial⟩ ?_
 intro T H ⟨t1,t2,t4,t5,t16,t17,t18,hF,h2,h3,h9,h902,h904,h905,h922,h938,h1112,h1113,_⟩
 refine W_r (aX t5 h905 rfl rfl (qV t4 rfl rfl h904 rfl rfl rfl rfl rfl (R_e (bS (bQ (R:=fun T H=>T 4=(V.mp 904 (u4+1) 0 0)∧(∀ j,j∉[902,904,905,922,938,1112,1113,9]→H j=Hi j)∧H 2=(bk 1 24 4 [[(iV (m.i)),(iV (m.s)),(aA m.nx),(aA m.ot)]])∧H 3=(bk 1 25 1 [[(aM tg)]])∧H 9=(bk 1 4 1 [[(V.bool (bgA m tg k))]])∧H 902=(bk (u2+1) 24 4 [[(iV (m.i)),(iV (m.s)),(aA m.nx),(aA m.ot)]])∧H 904=(bk (u4+1) 24 4 [[(iV (m.i)),(iV (m.s)),(aA (tbl (nth m.nx) k)),(aA (tbl (gX m tg) k))]])∧H 905=(bk (u5+1) 24 4 [[(iV (m.i)),(iV (m.s)),(aA (tbl (nth m.nx) k)),(aA (tbl (gX m tg) k))]])∧((H 922).ver=v922∧(H 922).live=false)∧((H 938).ver=v938∧(H 938).live=false)∧((H 1112).ver=v∧(H 1112).live=false)∧((H 1113).ver=w∧(H 1113).live=false)∧True) ⟨t4,(bB hF (by decide)),h2,h3,h9,h902,rfl,h905,h922,h938,h1112,h1113,trivial⟩ ?_)))))
 intro T H ⟨t4,hF,h2,h3,h9,h902,h904,h905,h922,h938,h1112,h1113,_⟩
 have fh:=cW.fin (cW.put (B:=(bk 1 4 1 [[(V.bool (bgA m tg m.nx.length))]])) (cW.putv (n:=w) (B:=(⟨u13+1+m.nx.length,false,false,0,0,[]⟩:Blk)) (cW.putv (n:=v) (B:=(⟨u12+1+m.nx.length,false,false,0,0,[]⟩:Blk)) (cW.putv (n:=v938) (B:=(⟨u38+2*m.nx.length,false,false,0,0,[]⟩:Blk)) (cW.putv (n:=v922) (B:=(⟨u22+m.nx.length,false,false,0,0,[]⟩:Blk)) (cW.putv (n:=(u5+1)) (B:=(⟨u5+1,false,false,0,0,[]⟩:Blk)) (cW.putv (n:=(u4+1)) (B:=(⟨u4+1,false,false,0,0,[]⟩:Blk)) (cW.putv (n:=(u2+1)) (B:=(⟨u2+1,false,false,0,0,[]⟩:Blk)) (cW.start hF) (congrArg Blk.ver h902) (by show _≤u2+1; omega) rfl) (congrArg Blk.ver h904) (by show _≤u4+1; omega) rfl) (congrArg Blk.ver h905) (by show _≤u5+1; omega) rfl) (h922).1 (by show _≤u22+m.nx.length; omega) rfl) (h938).1 (by show _≤u38+2*m.nx.length; omega) rfl) (h1112).1 (by show _≤u12+1+m.nx.length; omega) rfl) (h1113).1 (by show _≤u13+1+m.nx.length; omega) rfl) h9 (iU.eq (by first|rfl|(rw [← aS,List.map_replicate]; done)|(rw [← aS,List.map_replicate]; rfl)|(rw [← aY (f:=LfA m tg k) (z:=0) (n:=m.i.toNat) (j:=j) (by omega)]; first|done|rfl)|(rw [aB]; first|done|rfl)|(rw [aB,ej]; first|done|rfl)|(rw [lU]; done)|(rw [fL]; done)|(rw [eb]; done)|(rw [ek]; done)|(simp; done))))
 exact aC2 (eC (u:=(V.agg [(iV (m.i)),(iV (m.s)),(aA (tbl (nth m.nx) k)),(aA (tbl (gX m tg) k))])) t4 h904 (lB oB rfl rfl)) fh (eA.trans_eq (eA.same fh _) (by first|rfl|(rw [e9t,ek]; rfl)|simp))
theorem aL9 (m:M) (u2 u4 u5 u22 u38 u12 u13:Nat) (hm:aZ m=0) (Hi:aI) (q902:(Hi 902).ver=u2) (q904:(Hi 904).ver=u4) (q905:(Hi 905).ver=u5) (q922:(Hi 922).ver=u22∧(Hi 922).live=false) (q938:(Hi 938).ver=u38∧(Hi 938).live=false) (q1112:(Hi 1112).ver=u12) (q1113:(Hi 1113).ver=u13) (e1:Hi 1=(bk 1 24 4 [[(iV (m.i)),(iV (m.s)),(aA m.nx),(aA m.ot)]])):dC Tryz.prog 30 [(V.agg [(iV (m.i)),(iV (m.s)),(aA m.nx),(aA m.ot)]),(V.fn 33 [] [(V.mp 1 1 0 0)])] Hi (V.agg [(iV ((lwM m).i)),(iV ((lwM m).s)),(aA ((lwM m).nx)),(aA ((lwM m).ot))]) (upd (upd (upd (upd (upd (upd (upd Hi 902 (⟨u2+1,false,false,0,0,[]⟩:Blk)) 904 (⟨u4+1,false,false,0,0,[]⟩:Blk)) 905 (⟨u5+1,false,false,0,0,[]⟩:Blk)) 922 (⟨u22+m.nx.length,false,false,0,0,[]⟩:Blk)) 938 (⟨u38+2*m.nx.length,false,false,0,0,[]⟩:Blk)) 1112 (⟨u12+1+m.nx.length,false,false,0,0,[]⟩:Blk)) 1113 (⟨u13+1+m.nx.length,false,false,0,0,[]⟩:Blk)):=by
 refine eW (k0:=900) Tryz.func30 aB2 fun hB=>?_
 have mo:=cJ hm
 unfold s30
 dsimp only
 refine W_r (eR (i:=902) (n:=u2) (m:=4) (cs:=[(iV (m.i)),(iV (m.s)),(aA m.nx),(aA m.ot)]) (by rfl) q902 rfl rfl rfl (dB (i:=904) (n:=u4) (m:=4) (by rfl) q904 rfl (R_e (W_r (bD rfl rfl (aX rfl rfl rfl rfl (bD rfl rfl ?_)))))))
 refine aX rfl rfl rfl rfl (dO rfl rfl (dB (i:=905) (n:=u5) (m:=4) (by rfl) q905 rfl (qV rfl rfl rfl rfl rfl rfl rfl rfl rfl (R_e (aE ?_)))))
 refine gR (fun T H=>T 1=(V.fn 33 [] [(V.mp 1 1 0 0)])∧T 2=(V.mp 902 (u2+1) 0 0)∧T 4=(V.mp 904 (u4+1) 0 0)∧T 5=(V.mp 905 (u5+1) 0 0)∧T 16=(iV ((m.nx.length:Nat):Int))∧T 17=(iV (0:Int))∧(∀ j,j∉[902,904,905,922,938,1112,1113]→H j=Hi j)∧H 1=(bk 1 24 4 [[(iV (m.i)),(iV (m.s)),(aA m.nx),(aA m.ot)]])∧H 902=(bk (u2+1) 24 4 [[(iV (m.i)),(iV (m.s)),(aA m.nx),(aA m.ot)]])∧H 904=(bk (u4+1) 24 4 [[(iV (0:Int)),(iV (0:Int)),V.nilsl,V.nilsl]])∧H 905=(bk (u5+1) 24 4 [[(iV (m.i)),(iV (m.s)),V.nilsl,V.nilsl]])∧((H 922).ver=u22∧(H 922).live=false)∧((H 938).ver=u38∧(H 938).live=false)∧(H 1112).ver=u12∧(H 1113).ver=u13∧True) ?_ ?_
 ·
  refine bD rfl rfl (aX rfl rfl rfl rfl (bR rfl (aC rfl ?_)))
  exact fM ⟨rfl,rfl,rfl,rfl,rfl,rfl,(bB (bB (bB (bB (fun _ _=>rfl) (by decide)) (by decide)) (by decide)) (by decide)),e1,rfl,rfl,rfl,q922,q938,q1112,q1113,trivial⟩
 intro T H ⟨t1,t2,t4,t5,t16,t17,hF,h1,h902,h904,h905,h922,h938,h1112,h1113,_⟩
 refine .lazyCell 1112 25 1 905 0 2 [(iV (m.i)),(iV (m.s)),V.nilsl,V.nilsl] (by decide) (by rw [h905]; rfl) (by rw [h905]; rfl) rfl (bQ (R:=fun T H=>T 1=(V.fn 33 [] [(V.mp 1 1 0 0)])∧T 2=(V.mp 902 (u2+1) 0 0)∧T 4=(V.mp 904 (u4+1) 0 0)∧T 5=(V.mp 905 (u5+1) 0 0)∧T 16=(iV ((m.nx.length:Nat):Int))∧T 17=(iV (0:Int))∧(∀ j,j∉[902,904,905,922,938,1112,1113]→H j=Hi j)∧H 1=(bk 1 24 4 [[(iV (m.i)),(iV (m.s)),(aA m.nx),(aA m.ot)]])∧H 902=(bk (u2+1) 24 4 [[(iV (m.i)),(iV (m.s)),(aA m.nx),(aA m.ot)]])∧H 904=(bk (u4+1) 24 4 [[(iV (0:Int)),(iV (0:Int)),V.nilsl,V.nilsl]])∧H 905=(bk (u5+1) 24 4 [[(iV (m.i)),(iV (m.s)),(V.ms 1112 (u12+1) 0 (0)),V.nilsl]])∧((H 922).ver=u22∧(H 922).live=false)∧((H 938).ver=u38∧(H 938).live=false)∧H 1112=(bz (u12+1) 25 1 [])∧(H 1113).ver=u13∧True) ⟨t1,t2,t4,t5,t16,t17,(bB (bB hF (by decide)) (by decide)),((aD _ _ (by decide)).trans ((aD _ _ (by decide)).trans h1)),((aD _ _ (by decide)).trans ((aD _ _ (by decide)).trans h902)),((aD _ _ (by decide)).trans ((aD _ _ (by decide)).trans h904)),(by rw [aG,h905,h1112]; rfl),⟨(congrArg Blk.ver ((aD _ _ (by decide)).trans (aD _ _ (by decide)))).trans (h922).1,(congrArg Blk.live ((aD _ _ (by decide)).trans (aD _ _ (by decide)))).trans (h922).2⟩,⟨(congrArg Blk.ver ((aD _ _ (by decide)).trans (aD _ _ (by decide)))).trans (h938).1,(congrArg Blk.live ((aD _ _ (by decide)).trans (aD _ _ (by decide)))).trans (h938).2⟩,(by rw [aD _ _ (by decide),aG,h1112]),((congrArg Blk.ver ((aD _ _ (by decide)).trans (aD _ _ (by decide)))).trans h1113),trivial⟩ ?_)
 intro T H ⟨t1,t2,t4,t5,t16,t17,hF,h1,h902,h904,h905,h922,h938,h1112,h1113,_⟩
 refine .lazyCell 1113 25 1 905 0 3 [(iV (m.i)),(iV (m.s)),(V.ms 1112 (u12+1) 0 (0)),V.nilsl] (by decide) (by rw [h905]; rfl) (by rw [h905]; rfl) rfl (.done ?_)
 refine bQ (R:=fun T H=>T 1=(V.fn 33 [] [(V.mp 1 1 0 0)])∧T 2=(V.mp 902 (u2+1) 0 0)∧T 4=(V.mp 904 (u4+1) 0 0)∧T 5=(V.mp 905 (u5+1) 0 0)∧T 16=(iV ((m.nx.length:Nat):Int))∧T 17=(iV (0:Int))∧(∀ j,j∉[902,904,905,922,938,1112,1113]→H j=Hi j)∧H 1=(bk 1 24 4 [[(iV (m.i)),(iV (m.s)),(aA m.nx),(aA m.ot)]])∧H 902=(bk (u2+1) 24 4 [[(iV (m.i)),(iV (m.s)),(aA m.nx),(aA m.ot)]])∧H 904=(bk (u4+1) 24 4 [[(iV (0:Int)),(iV (0:Int)),V.nilsl,V.nilsl]])∧H 905=(bk (u5+1) 24 4 [[(iV (m.i)),(iV (m.s)),(V.ms 1112 (u12+1) 0 (0)),(V.ms 1113 (u13+1) 0 (0))]])∧((H 922).ver=u22∧(H 922).live=false)∧((H 938).ver=u38∧(H 938).live=false)∧H 1112=(bz (u12+1) 25 1 [])∧H 1113=(bz (u13+1) 25 1 [])∧True) ⟨t1,t2,t4,t5,t16,t17,(bB (bB hF (by decide)) (by decide)),((aD _ _ (by decide)).trans ((aD _ _ (by decide)).trans h1)),((aD _ _ (by decide)).trans ((aD _ _ (by decide)).trans h902)),((aD _ _ (by decide)).trans ((aD _ _ (by decide)).trans h904)),(by rw [aG,h905,h1113]; rfl),⟨(congrArg Blk.ver ((aD _ _ (by decide)).trans (aD _ _ (by decide)))).trans (h922).1,(congrArg Blk.live ((aD _ _ (by decide)).trans (aD _ _ (by decide)))).trans (h922).2⟩,⟨(congrArg Blk.ver ((aD _ _ (by decide)).trans (aD _ _ (by decide)))).trans (h938).1,(congrArg Blk.live ((aD _ _ (by decide)).trans (aD _ _ (by decide)))).trans (h938).2⟩,((aD _ _ (by decide)).trans ((aD _ _ (by decide)).trans h1112)),(by rw [aD _ _ (by decide),aG,h1113]),trivial⟩ ?_
 intro T H ⟨t1,t2,t4,t5,t16,t17,hF,h1,h902,h904,h905,h922,h938,h1112,h1113,_⟩
 refine aH fun Q1 n1 x1 y1 z1=>?_
 refine bW (fun mm T H=> ∃ (k:Nat) (v:Nat) (w:Nat) (v922:Nat) (v938:Nat),mm=m.nx.length - k∧T 1=(V.fn 33 [] [(V.mp 1 1 0 0)])∧T 2=(V.mp 902 (u2+1) 0 0)∧T 4=(V.mp 904 (u4+1) 0 0)∧T 5=(V.mp 905 (u5+1) 0 0)∧T 16=(iV ((m.nx.length:Nat):Int))∧T 17=(iV ((k:Nat):Int))∧(∀ j,j∉[902,904,905,922,938,1112,1113]→H j=Hi j)∧H 1=(bk 1 24 4 [[(iV (m.i)),(iV (m.s)),(aA m.nx),(aA m.ot)]])∧H 902=(bk (u2+1) 24 4 [[(iV (m.i)),(iV (m.s)),(aA m.nx),(aA m.ot)]])∧H 904=(bk (u4+1) 24 4 [[(iV (0:Int)),(iV (0:Int)),V.nilsl,V.nilsl]])∧H 905=(bk (u5+1) 24 4 [[(iV (m.i)),(iV (m.s)),(V.ms 1112 v 0 (k)),(V.ms 1113 w 0 (k))]])∧((H 922).ver=v922∧(H 922).live=false)∧((H 938).ver=v938∧(H 938).live=false)∧H 1112=(bz v 25 1 (List.map cL (tbl (nth m.nx) k)))∧H 1113=(bz w 25 1 (List.map cL (tbl (dU m) k)))∧(k≤m.nx.length)∧(v922≤u22+k∧v938≤u38+2*k∧v≤u12+1+k∧w≤u13+1+k)) ?_ ?_
 ·
  refine ⟨_,0,(u12+1),(u13+1),u22,u38,rfl,t1,t2,t4,t5,t16,(Eq.trans t17 rfl),hF,h1,h902,h904,(Eq.trans h905 (by first|rfl|(rw [← aS,List.map_replicate]; done)|(rw [← aS,List.map_replicate]; rfl)|(rw [← aY (f:=LwA m k) (z:=0) (n:=m.i.toNat) (j:=j) (by omega)]; first|done|rfl)|(rw [aB]; first|done|rfl)|(rw [aB,ej]; first|done|rfl)|(simp; done))),h922,h938,(Eq.trans h1112 (by first|rfl|(rw [← aS,List.map_replicate]; done)|(rw [← aS,List.map_replicate]; rfl)|(rw [← aY (f:=LwA m k) (z:=0) (n:=m.i.toNat) (j:=j) (by omega)]; first|done|rfl)|(rw [aB]; first|done|rfl)|(rw [aB,ej]; first|done|rfl)|(simp; done))),(Eq.trans h1113 (by first|rfl|(rw [← aS,List.map_replicate]; done)|(rw [← aS,List.map_replicate]; rfl)|(rw [← aY (f:=LwA m k) (z:=0) (n:=m.i.toNat) (j:=j) (by omega)]; first|done|rfl)|(rw [aB]; first|done|rfl)|(rw [aB,ej]; first|done|rfl)|(simp; done))),?_,?_⟩
  · exact Nat.zero_le _
  · omega
 intro mm T H ⟨k,v,w,v922,v938,hmm,t1,t2,t4,t5,t16,t17,hF,h1,h902,h904,h905,h922,h938,h1112,h1113,hk,hz⟩ Q2 p12 p22 p32
 unfold aFo
 refine W_r (bU t17 t16 (R_e ?_))
 refine aP rfl (fun c3=>?_) fun c3=>?_
 ·
  have rr:=mo.2.2.2.2.2.2.2 k (by omega)
  refine aJ (aH fun Q4 n4 x4 y4 z4=>(W_r (aC t17 (aC rfl (R_e (W_r (bD t2 h902 ?_)))))))
  refine aX rfl h902 rfl rfl ?_
  refine (aFv (i:=922) (n:=v922) (m:=((m.i).toNat)) (q:=((m.i).toNat)) (by rfl) (h922).1 (Eq.trans (@rfl V (iV (m.i))) (congrArg (V.int .i64) (by first|omega|(simp only [List.length_replicate]; omega)|(simp only [List.length_cons,List.length_nil]; omega)|(rw [aF]; omega)))) (Eq.trans (@rfl V (iV (m.i))) (congrArg (V.int .i64) (by first|omega|(simp only [List.length_replicate]; omega)|(simp only [List.length_cons,List.length_nil]; omega)|(rw [aF]; omega)))) (by first|omega|(simp only [List.length_replicate]; omega)|(simp only [List.length_cons,List.length_nil]; omega)|(rw [aF]; omega)) (by first|omega|(simp only [List.length_replicate]; omega)|(simp only [List.length_cons,List.length_nil]; omega)|(rw [aF]; omega)) (by first|omega|(simp only [List.length_replicate]; omega)|(simp only [List.length_cons,List.length_nil]; omega)|(rw [aF]; omega)) ?_)
  refine aC rfl (R_e (aE (W_r (aC rfl (dX rfl (@rfl Blk (bk (v922+1) 3 1 (List.replicate ((m.i).toNat) [(iV (0:Int))]))) (by first|rfl|simp) (aC rfl (R_e ?_)))))))
  refine aH fun Q5 n5 x5 y5 z5=>?_
  refine bW (fun mm T H=> ∃ (j:Nat) (u:Nat),mm=m.i.toNat - j∧T 1=(V.fn 33 [] [(V.mp 1 1 0 0)])∧T 2=(V.mp 902 (u2+1) 0 0)∧T 4=(V.mp 904 (u4+1) 0 0)∧T 5=(V.mp 905 (u5+1) 0 0)∧T 6=(iV ((k:Nat):Int))∧T 7=(V.ms 922 u 0 (m.i.toNat))∧T 16=(iV ((m.nx.length:Nat):Int))∧T 17=(iV ((k:Nat):Int))∧T 24=(iV ((m.i.toNat:Nat):Int))∧T 25=(iV ((j:Nat):Int))∧(∀ j,j∉[902,904,905,922,938,1112,1113]→H j=Hi j)∧H 1=(bk 1 24 4 [[(iV (m.i)),(iV (m.s)),(aA m.nx),(aA m.ot)]])∧H 902=(bk (u2+1) 24 4 [[(iV (m.i)),(iV (m.s)),(aA m.nx),(aA m.ot)]])∧H 904=(bk (u4+1) 24 4 [[(iV (0:Int)),(iV (0:Int)),V.nilsl,V.nilsl]])∧H 905=(bk (u5+1) 24 4 [[(iV (m.i)),(iV (m.s)),(V.ms 1112 v 0 (k)),(V.ms 1113 w 0 (k))]])∧H 922=(bk u 3 1 (List.map cI (cZ (LwA m k) 0 m.i.toNat j)))∧((H 938).ver=v938∧(H 938).live=false)∧H 1112=(bz v 25 1 (List.map cL (tbl (nth m.nx) k)))∧H 1113=(bz w 25 1 (List.map cL (tbl (dU m) k)))∧(j≤m.i.toNat)∧(u≤u22+k+1)) ?_ ?_
  ·
   refine ⟨_,0,(v922+1),rfl,t1,t2,t4,t5,rfl,(Eq.trans (@rfl V (V.ms 922 (v922+1) 0 ((m.i).toNat))) (by first|rfl|(rw [e9t,ek]; rfl)|simp)),t16,t17,(Eq.trans (@rfl V (iV (((m.i).toNat:Nat):Int))) (by first|rfl|(rw [e9t,ek]; rfl)|simp)),(Eq.trans (@rfl V (iV (0:Int))) rfl),(bB hF (by decide)),h1,h902,h904,h905,(Eq.trans (@rfl Blk (bk (v922+1) 3 1 (List.replicate ((m.i).toNat) [(iV (0:Int))]))) (by first|rfl|(rw [← aS,List.map_replicate]; done)|(rw [← aS,List.map_replicate]; rfl)|(rw [← aY (f:=LwA m k) (z:=0) (n:=m.i.toNat) (j:=j) (by omega)]; first|done|rfl)|(rw [aB]; first|done|rfl)|(rw [aB,ej]; first|done|rfl)|(simp; done))),h938,h1112,h1113,?_,?_⟩
   · exact Nat.zero_le _
   · omega
  intro mm T H ⟨j,u,hmm,t1,t2,t4,t5,t6,t7,t16,t17,t24,t25,hF,h1,h902,h904,h905,h922,h938,h1112,h1113,hj,hu⟩ Q6 p16 p26 p36
  unfold aG1
  refine W_r (bU t25 t24 (R_e ?_))
  refine aP rfl (fun c7=>?_) fun c7=>?_
  ·
   refine aJ (aH fun Q8 n8 x8 y8 z8=>(W_r (aC t25 (aC rfl (R_e (W_t (aC t7 ?_)))))))
   refine aC rfl (aC t1 (aC t6 (aC rfl (aBI (@rfl V (V.fn 33 [] [(V.mp 1 1 0 0)])) (cM (@rfl V (iV ((k:Nat):Int))) (cM (@rfl V (iV ((j:Nat):Int))) gN)) (aFl m k j hm (by omega) (by omega) _ h1) (cV (i:=j) (@rfl V (V.ms 922 u 0 (m.i.toNat))) (@rfl V (iV ((j:Nat):Int))) h922 oB rfl (by first|omega|(simp only [List.length_replicate]; omega)|(simp only [List.length_cons,List.length_nil]; omega)|(rw [aF]; omega)) (bC (vs:=[(iV ((LwA m k j)))]) (B':=(bk u 3 1 (List.map cI ((cZ (LwA m k) 0 m.i.toNat j).set j (((LwA m k j))))))) rfl rfl rfl h922 (fY (x:=(((LwA m k j)))) (i:=j) (by first|omega|(simp only [List.length_replicate]; omega)|(simp only [List.length_cons,List.length_nil]; omega)|(rw [aF]; omega)) rfl rfl rfl rfl) (R_e ?_)))))))
   refine n8 _ _ (.done (W_t (bJ t25 (@rfl V (iV ((1:Nat):Int))) (by first|omega|(simp only [List.length_replicate]; omega)|(simp only [List.length_cons,List.length_nil]; omega)|(rw [aF]; omega)) (aC rfl (R_e ?_)))))
   refine p16 _ _ _ ?_ ⟨(j+1),u,rfl,t1,t2,t4,t5,t6,t7,t16,t17,t24,(Eq.trans (@rfl V (iV ((j+1:Nat):Int))) (by first|rfl|(rw [e9t,ek]; rfl)|simp)),(bB hF (by decide)),h1,h902,h904,h905,(Eq.trans (@rfl Blk (bk u 3 1 (List.map cI ((cZ (LwA m k) 0 m.i.toNat j).set j (((LwA m k j))))))) (by first|rfl|(rw [← aS,List.map_replicate]; done)|(rw [← aS,List.map_replicate]; rfl)|(rw [← aY (f:=LwA m k) (z:=0) (n:=m.i.toNat) (j:=j) (by omega)]; first|done|rfl)|(rw [aB]; first|done|rfl)|(rw [aB,ej]; first|done|rfl)|(simp; done))),h938,h1112,h1113,?_,?_⟩
   · omega
   · omega
   · omega
  have ej:cZ (LwA m k) 0 m.i.toNat j=dU m k:=kO (by omega)
  refine aW (p36 _ _ _ (x5 _ _ (.done ?_)))
  refine aSc (fun T H=>T 1=(V.fn 33 [] [(V.mp 1 1 0 0)])∧T 2=(V.mp 902 (u2+1) 0 0)∧T 4=(V.mp 904 (u4+1) 0 0)∧T 5=(V.mp 905 (u5+1) 0 0)∧T 7=(V.ms 922 u 0 (m.i.toNat))∧T 16=(iV ((m.nx.length:Nat):Int))∧T 17=(iV ((k:Nat):Int))∧(∀ j,j∉[902,904,905,922,938,1112,1113]→H j=Hi j)∧H 1=(bk 1 24 4 [[(iV (m.i)),(iV (m.s)),(aA m.nx),(aA m.ot)]])∧H 902=(bk (u2+1) 24 4 [[(iV (m.i)),(iV (m.s)),(aA m.nx),(aA m.ot)]])∧H 904=(bk (u4+1) 24 4 [[(iV (0:Int)),(iV (0:Int)),V.nilsl,V.nilsl]])∧H 905=(bk (u5+1) 24 4 [[(iV (m.i)),(iV (m.s)),(V.ms 1112 (v+1) 0 (k+1)),(V.ms 1113 w 0 (k))]])∧H 922=(bk u 3 1 (List.map cI (cZ (LwA m k) 0 m.i.toNat j)))∧H 938=(bz (v938+2) 3 1 (List.map cI ([]++((nth (m.nx) (k))))))∧H 1112=(bz (v+1) 25 1 (List.map cL (tbl (nth m.nx) k)++[[(V.ms 938 (v938+2) 0 (0+((nth (m.nx) (k))).length))]]))∧H 1113=(bz w 25 1 (List.map cL (tbl (dU m) k)))∧True) ?_ ?_
  ·
   refine bD t5 h905 (aX rfl h905 rfl rfl (eS (i:=938) (n:=v938) (by rfl) (h938).1 (bD t2 h902 (aX rfl h902 rfl rfl (aC t6 (bO (i:=k) (@rfl V (aA m.nx)) (@rfl V (iV ((k:Nat):Int))) (by first|omega|(simp only [List.length_replicate]; omega)|(simp only [List.length_cons,List.length_nil]; omega)|(rw [aF]; omega)) rfl (aK rfl rfl ?_)))))))
   refine jH (l:=([])) (m:=((nth (m.nx) (k)))) (f:=cI) (@rfl V (V.ms 938 (v938+1) 0 (0))) (show _=(bz (v938+1) 3 1 (List.map cI ([]))) from (@rfl Blk (bz (v938+1) 3 1 []))) (by first|rfl|exact (aL _ _).symm|exact aF.symm|simp|omega) (@rfl V (aM ((nth (m.nx) (k))))) (fun _=>rfl) (fun _=>rfl) (by first|omega|(simp only [List.length_replicate]; omega)|(simp only [List.length_cons,List.length_nil]; omega)|(rw [aF]; omega)) (by first|omega|(simp only [List.length_replicate]; omega)|(simp only [List.length_cons,List.length_nil]; omega)|(rw [aF]; omega)) (bZ rfl rfl (rI (l:=(tbl (nth m.nx) k)) (f:=cL) (@rfl V (V.ms 1112 v 0 (k))) h1112 (by first|rfl|exact (aL _ _).symm|exact aF.symm|simp|omega) (@rfl V (V.sl [[(V.ms 938 (v938+2) 0 (0+((nth (m.nx) (k))).length))]])) (by simp [cP,V.one]) (by first|omega|(simp only [List.length_replicate]; omega)|(simp only [List.length_cons,List.length_nil]; omega)|(rw [aF]; omega)) (by first|omega|(simp only [List.length_replicate]; omega)|(simp only [List.length_cons,List.length_nil]; omega)|(rw [aF]; omega)) (bD t5 h905 (qV rfl rfl rfl h905 rfl rfl rfl rfl rfl ?_))))
   refine fM ⟨by simp [ddB,apV,iW,aB0,t1,t16,t17,t2,t24,t25,t4,t5,t6,t7],⟨t1,t2,t4,t5,t7,t16,t17,(bB (bB (bB (bB hF (by decide)) (by decide)) (by decide)) (by decide)),h1,h902,h904,rfl,h922,rfl,rfl,h1113,trivial⟩⟩
  intro T H ⟨t1,t2,t4,t5,t7,t16,t17,hF,h1,h902,h904,h905,h922,h938,h1112,h1113,_⟩
  refine .freeze 922 (bQ (R:=fun T H=>T 1=(V.fn 33 [] [(V.mp 1 1 0 0)])∧T 2=(V.mp 902 (u2+1) 0 0)∧T 4=(V.mp 904 (u4+1) 0 0)∧T 5=(V.mp 905 (u5+1) 0 0)∧T 7=(aM (cZ (LwA m k) 0 m.i.toNat j))∧T 16=(iV ((m.nx.length:Nat):Int))∧T 17=(iV ((k:Nat):Int))∧(∀ j,j∉[902,904,905,922,938,1112,1113]→H j=Hi j)∧H 1=(bk 1 24 4 [[(iV (m.i)),(iV (m.s)),(aA m.nx),(aA m.ot)]])∧H 902=(bk (u2+1) 24 4 [[(iV (m.i)),(iV (m.s)),(aA m.nx),(aA m.ot)]])∧H 904=(bk (u4+1) 24 4 [[(iV (0:Int)),(iV (0:Int)),V.nilsl,V.nilsl]])∧H 905=(bk (u5+1) 24 4 [[(iV (m.i)),(iV (m.s)),(V.ms 1112 (v+1) 0 (k+1)),(V.ms 1113 w 0 (k))]])∧((H 922).ver=u∧(H 922).live=false)∧H 938=(bz (v938+2) 3 1 (List.map cI ([]++((nth (m.nx) (k))))))∧H 1112=(bz (v+1) 25 1 (List.map cL (tbl (nth m.nx) k)++[[(V.ms 938 (v938+2) 0 (0+((nth (m.nx) (k))).length))]]))∧H 1113=(bz w 25 1 (List.map cL (tbl (dU m) k)))∧True) ⟨(aO t1 rfl),(aO t2 rfl),(aO t4 rfl),(aO t5 rfl),(aO t7 (gE h922 (by first|rfl|simp) (l:=(cZ (LwA m k) 0 m.i.toNat j)) rfl (by first|rfl|exact (aL _ _).symm|exact aF.symm|simp|omega))),(aO t16 rfl),(aO t17 rfl),(iO hF (by decide)),(aN h1 (by decide)),(aN h902 (by decide)),(aN h904 (by decide)),(aN h905 (by decide)),(bL (congrArg Blk.ver h922)),(aN h938 (by decide)),(aN h1112 (by decide)),(aN h1113 (by decide)),trivial⟩ ?_)
  intro T H ⟨t1,t2,t4,t5,t7,t16,t17,hF,h1,h902,h904,h905,h922,h938,h1112,h1113,_⟩
  refine aAy (id:=938) (id2:=1112) (rows0:=List.map cL (tbl (nth m.nx) k)) (off:=0) (r:=[(V.ms 938 (v938+2) 0 (0+((nth (m.nx) (k))).length))]) (m:=([]++((nth (m.nx) (k))))) (g:=cI) (by decide) h938 h1112 (by first|rfl|exact (aL _ _).symm|exact aF.symm|simp|omega) rfl (.done ?_)
  refine bQ (R:=fun T H=>T 1=(V.fn 33 [] [(V.mp 1 1 0 0)])∧T 2=(V.mp 902 (u2+1) 0 0)∧T 4=(V.mp 904 (u4+1) 0 0)∧T 5=(V.mp 905 (u5+1) 0 0)∧T 7=(aM (cZ (LwA m k) 0 m.i.toNat j))∧T 16=(iV ((m.nx.length:Nat):Int))∧T 17=(iV ((k:Nat):Int))∧(∀ j,j∉[902,904,905,922,938,1112,1113]→H j=Hi j)∧H 1=(bk 1 24 4 [[(iV (m.i)),(iV (m.s)),(aA m.nx),(aA m.ot)]])∧H 902=(bk (u2+1) 24 4 [[(iV (m.i)),(iV (m.s)),(aA m.nx),(aA m.ot)]])∧H 904=(bk (u4+1) 24 4 [[(iV (0:Int)),(iV (0:Int)),V.nilsl,V.nilsl]])∧H 905=(bk (u5+1) 24 4 [[(iV (m.i)),(iV (m.s)),(V.ms 1112 (v+1) 0 (k+1)),(V.ms 1113 w 0 (k))]])∧((H 922).ver=u∧(H 922).live=false)∧((H 938).ver=v938+2∧(H 938).live=false)∧H 1112=(bz (v+1) 25 1 (List.map cL (tbl (nth m.nx) k++[[]++((nth (m.nx) (k)))])))∧H 1113=(bz w 25 1 (List.map cL (tbl (dU m) k)))∧True) ⟨(aO t1 rfl),(aO t2 rfl),(aO t4 rfl),(aO t5 rfl),(aO t7 rfl),(aO t16 rfl),(aO t17 rfl),(bB (iO hF (by decide)) (by decide)),((aD _ _ (by decide)).trans (aN h1 (by decide))),((aD _ _ (by decide)).trans (aN h902 (by decide))),((aD _ _ (by decide)).trans (aN h904 (by decide))),((aD _ _ (by decide)).trans (aN h905 (by decide))),⟨(congrArg Blk.ver (aD _ _ (by decide))).trans (bK h922).1,(congrArg Blk.live (aD _ _ (by decide))).trans (bK h922).2⟩,⟨(congrArg Blk.ver (aD _ _ (by decide))).trans (bL (congrArg Blk.ver h938)).1,(congrArg Blk.live (aD _ _ (by decide))).trans (bL (congrArg Blk.ver h938)).2⟩,(Eq.trans (aG _ _ _) (zZ rfl)),((aD _ _ (by decide)).trans (aN h1113 (by decide))),trivial⟩ ?_
  intro T H ⟨t1,t2,t4,t5,t7,t16,t17,hF,h1,h902,h904,h905,h922,h938,h1112,h1113,_⟩
  refine W_t (bD t5 h905 (aX rfl h905 rfl rfl (aC t7 (bZ rfl rfl (cA (l:=(tbl (dU m) k)) (f:=cL) (x:=(cZ (LwA m k) 0 m.i.toNat j)) (@rfl V (V.ms 1113 w 0 (k))) h1113 (by first|rfl|exact (aL _ _).symm|exact aF.symm|simp|omega) (@rfl V (V.sl [[(aM (cZ (LwA m k) 0 m.i.toNat j))]])) rfl rfl (by first|omega|(simp only [List.length_replicate]; omega)|(simp only [List.length_cons,List.length_nil]; omega)|(rw [aF]; omega)) (by first|omega|(simp only [List.length_replicate]; omega)|(simp only [List.length_cons,List.length_nil]; omega)|(rw [aF]; omega)) (bD t5 h905 (qV rfl rfl rfl h905 rfl rfl rfl rfl rfl ?_)))))))
  refine R_e (n4 _ _ (.done (W_t (bJ t17 (@rfl V (iV ((1:Nat):Int))) (by first|omega|(simp only [List.length_replicate]; omega)|(simp only [List.length_cons,List.length_nil]; omega)|(rw [aF]; omega)) (aC rfl (R_e ?_))))))
  refine p12 _ _ _ ?_ ⟨(k+1),(v+1),(w+1),u,(v938+2),rfl,t1,t2,t4,t5,t16,(Eq.trans (@rfl V (iV ((k+1:Nat):Int))) (by first|rfl|(rw [e9t,ek]; rfl)|simp)),(bB (bB hF (by decide)) (by decide)),h1,h902,h904,(Eq.trans (@rfl Blk (bk (u5+1) 24 4 [[(iV (m.i)),(iV (m.s)),(V.ms 1112 (v+1) 0 (k+1)),(V.ms 1113 (w+1) 0 (k+1))]])) (by first|rfl|(rw [← aS,List.map_replicate]; done)|(rw [← aS,List.map_replicate]; rfl)|(rw [← aY (f:=LwA m k) (z:=0) (n:=m.i.toNat) (j:=j) (by omega)]; first|done|rfl)|(rw [aB]; first|done|rfl)|(rw [aB,ej]; first|done|rfl)|(simp; done))),h922,h938,(Eq.trans h1112 (by first|rfl|(rw [← aS,List.map_replicate]; done)|(rw [← aS,List.map_replicate]; rfl)|(rw [← aY (f:=LwA m k) (z:=0) (n:=m.i.toNat) (j:=j) (by omega)]; first|done|rfl)|(rw [aB]; first|done|rfl)|(rw [aB,ej]; first|done|rfl)|(simp; done))),(Eq.trans (@rfl Blk (bz (w+1) 25 1 (List.map cL (tbl (dU m) k++[cZ (LwA m k) 0 m.i.toNat j])))) (by first|rfl|(rw [← aS,List.map_replicate]; done)|(rw [← aS,List.map_replicate]; rfl)|(rw [← aY (f:=LwA m k) (z:=0) (n:=m.i.toNat) (j:=j) (by omega)]; first|done|rfl)|(rw [aB]; first|done|rfl)|(rw [aB,ej]; first|done|rfl)|(simp; done))),?_,?_⟩
  · omega
  · omega
  · omega
 have ek:k=m.nx.length:=by omega
 have e9t:=qB (l:=m.nx) ek.symm
 refine aW (p32 _ _ _ (x1 _ _ (bQ (R:=fun T H=>T 1=(V.fn 33 [] [(V.mp 1 1 0 0)])∧T 2=(V.mp 902 (u2+1) 0 0)∧T 4=(V.mp 904 (u4+1) 0 0)∧T 5=(V.mp 905 (u5+1) 0 0)∧T 16=(iV ((m.nx.length:Nat):Int))∧T 17=(iV ((k:Nat):Int))∧T 18=(V.bool (decide (((k:Nat):Int) < ((m.nx.length:Nat):Int))))∧(∀ j,j∉[902,904,905,922,938,1112,1113]→H j=Hi j)∧H 1=(bk 1 24 4 [[(iV (m.i)),(iV (m.s)),(aA m.nx),(aA m.ot)]])∧H 902=(bk (u2+1) 24 4 [[(iV (m.i)),(iV (m.s)),(aA m.nx),(aA m.ot)]])∧H 904=(bk (u4+1) 24 4 [[(iV (0:Int)),(iV (0:Int)),V.nilsl,V.nilsl]])∧H 905=(bk (u5+1) 24 4 [[(iV (m.i)),(iV (m.s)),(V.ms 1112 v 0 (k)),(V.ms 1113 w 0 (k))]])∧((H 922).ver=v922∧(H 922).live=false)∧((H 938).ver=v938∧(H 938).live=false)∧H 1112=(bz v 25 1 (List.map cL (tbl (nth m.nx) k)))∧H 1113=(bz w 25 1 (List.map cL (tbl (dU m) k)))∧True) ⟨t1,t2,t4,t5,t16,t17,(@rfl V (V.bool (decide (((k:Nat):Int) < ((m.nx.length:Nat):Int))))),hF,h1,h902,h904,h905,h922,h938,h1112,h1113,trivial⟩ ?_)))
 intro T H ⟨t1,t2,t4,t5,t16,t17,t18,hF,h1,h902,h904,h905,h922,h938,h1112,h1113,_⟩
 refine kM (id:=1112) (id2:=905) (rows:=[[(iV (m.i)),(iV (m.s)),(V.ms 1112 v 0 (k)),(V.ms 1113 w 0 (k))]]) (i:=0) (off:=2) (r:=[(iV (m.i)),(iV (m.s)),(V.ms 1112 v 0 (k)),(V.ms 1113 w 0 (k))]) (m:=(tbl (nth m.nx) k)) (g:=cL) (by decide) h1112 h905 (by first|omega|(simp only [List.length_replicate]; omega)|(simp only [List.length_cons,List.length_nil]; omega)|(rw [aF]; omega)) (by first|rfl|exact (aL _ _).symm|exact aF.symm|simp|omega) rfl (bQ (R:=fun T H=>T 1=(V.fn 33 [] [(V.mp 1 1 0 0)])∧T 2=(V.mp 902 (u2+1) 0 0)∧T 4=(V.mp 904 (u4+1) 0 0)∧T 5=(V.mp 905 (u5+1) 0 0)∧T 16=(iV ((m.nx.length:Nat):Int))∧T 17=(iV ((k:Nat):Int))∧T 18=(V.bool (decide (((k:Nat):Int) < ((m.nx.length:Nat):Int))))∧(∀ j,j∉[902,904,905,922,938,1112,1113]→H j=Hi j)∧H 1=(bk 1 24 4 [[(iV (m.i)),(iV (m.s)),(aA m.nx),(aA m.ot)]])∧H 902=(bk (u2+1) 24 4 [[(iV (m.i)),(iV (m.s)),(aA m.nx),(aA m.ot)]])∧H 904=(bk (u4+1) 24 4 [[(iV (0:Int)),(iV (0:Int)),V.nilsl,V.nilsl]])∧H 905=(bk (u5+1) 24 4 [[(iV (m.i)),(iV (m.s)),(aA (tbl (nth m.nx) k)),(V.ms 1113 w 0 (k))]])∧((H 922).ver=v922∧(H 922).live=false)∧((H 938).ver=v938∧(H 938).live=false)∧((H 1112).ver=v∧(H 1112).live=false)∧H 1113=(bz w 25 1 (List.map cL (tbl (dU m) k)))∧True) ⟨(aO t1 rfl),(aO t2 rfl),(aO t4 rfl),(aO t5 rfl),(aO t16 rfl),(aO t17 rfl),(aO t18 rfl),(bB (iO hF (by decide)) (by decide)),((aD _ _ (by decide)).trans (aN h1 (by decide))),((aD _ _ (by decide)).trans (aN h902 (by decide))),((aD _ _ (by decide)).trans (aN h904 (by decide))),(aG _ _ _),⟨(congrArg Blk.ver (aD _ _ (by decide))).trans (bK h922).1,(congrArg Blk.live (aD _ _ (by decide))).trans (bK h922).2⟩,⟨(congrArg Blk.ver (aD _ _ (by decide))).trans (bK h938).1,(congrArg Blk.live (aD _ _ (by decide))).trans (bK h938).2⟩,⟨(congrArg Blk.ver (aD _ _ (by decide))).trans (bL (congrArg Blk.ver h1112)).1,(congrArg Blk.live (aD _ _ (by decide))).trans (bL (congrArg Blk.ver h1112)).2⟩,((aD _ _ (by decide)).trans (aN h1113 (by decide))),trivial⟩ ?_)
 intro T H ⟨t1,t2,t4,t5,t16,t17,t18,hF,h1,h902,h904,h905,h922,h938,h1112,h1113,_⟩
 refine kM (id:=1113) (id2:=905) (rows:=[[(iV (m.i)),(iV (m.s)),(aA (tbl (nth m.nx) k)),(V.ms 1113 w 0 (k))]]) (i:=0) (off:=3) (r:=[(iV (m.i)),(iV (m.s)),(aA (tbl (nth m.nx) k)),(V.ms 1113 w 0 (k))]) (m:=(tbl (dU m) k)) (g:=cL) (by decide) h1113 h905 (by first|omega|(simp only [List.length_replicate]; omega)|(simp only [List.length_cons,List.length_nil]; omega)|(rw [aF]; omega)) (by first|rfl|exact (aL _ _).symm|exact aF.symm|simp|omega) rfl (.done ?_)
 refine bQ (R:=fun T H=>T 1=(V.fn 33 [] [(V.mp 1 1 0 0)])∧T 2=(V.mp 902 (u2+1) 0 0)∧T 4=(V.mp 904 (u4+1) 0 0)∧T 5=(V.mp 905 (u5+1) 0 0)∧T 16=(iV ((m.nx.length:Nat):Int))∧T 17=(iV ((k:Nat):Int))∧T 18=(V.bool (decide (((k:Nat):Int) < ((m.nx.length:Nat):Int))))∧(∀ j,j∉[902,904,905,922,938,1112,1113]→H j=Hi j)∧H 1=(bk 1 24 4 [[(iV (m.i)),(iV (m.s)),(aA m.nx),(aA m.ot)]])∧H 902=(bk (u2+1) 24 4 [[(iV (m.i)),(iV (m.s)),(aA m.nx),(aA m.ot)]])∧H 904=(bk (u4+1) 24 4 [[(iV (0:Int)),(iV (0:Int)),V.nilsl,V.nilsl]])∧H 905=(bk (u5+1) 24 4 [[(iV (m.i)),(iV (m.s)),(aA (tbl (nth m.nx) k)),(aA (tbl (dU m) k))]])∧((H 922).ver=v922∧(H 922).live=false)∧((H 938).ver=v938∧(H 938).live=false)∧((H 1112).ver=v∧(H 1112).live=false)∧((H 1113).ver=w∧(H 1113).live=false)∧True) ⟨(aO t1 rfl),(aO t2 rfl),(aO t4 rfl),(aO t5 rfl),(aO t16 rfl),(aO t17 rfl),(aO t18 rfl),(bB (iO hF (by decide)) (by decide)),((aD _ _ (by decide)).trans (aN h1 (by decide))),((aD _ _ (by decide)).trans (aN h902 (by decide))),((aD _ _ (by decide)).trans (aN h904 (by decide))),(aG _ _ _),⟨(congrArg Blk.ver (aD _ _ (by decide))).trans (bK h922).1,(congrArg Blk.live (aD _ _ (by decide))).trans (bK h922).2⟩,⟨(congrArg Blk.ver (aD _ _ (by decide))).trans (bK h938).1,(congrArg Blk.live (aD _ _ (by decide))).trans (bK h938).2⟩,⟨(congrArg Blk.ver (aD _ _ (by decide))).trans (bK h1112).1,(congrArg Blk.live (aD _ _ (by decide))).trans (bK h1112).2⟩,⟨(congrArg Blk.ver (aD _ _ (by decide))).trans (bL (congrArg Blk.ver h1113)).1,(congrArg Blk.live (aD _ _ (by decide))).trans (bL (congrArg Blk.ver h1113)).2⟩,trivial⟩ ?_
 intro T H ⟨t1,t2,t4,t5,t16,t17,t18,hF,h1,h902,h904,h905,h922,h938,h1112,h1113,_⟩
 refine W_r (aX t5 h905 rfl rfl (qV t4 rfl rfl h904 rfl rfl rfl rfl rfl (R_e (bS (bQ (R:=fun T H=>T 4=(V.mp 904 (u4+1) 0 0)∧(∀ j,j∉[902,904,905,922,938,1112,1113]→H j=Hi j)∧H 1=(bk 1 24 4 [[(iV (m.i)),(iV (m.s)),(aA m.nx),(aA m.ot)]])∧H 902=(bk (u2+1) 24 4 [[(iV (m.i)),(iV (m.s)),(aA m.nx),(aA m.ot)]])∧H 904=(bk (u4+1) 24 4 [[(iV (m.i)),(iV (m.s)),(aA (tbl (nth m.nx) k)),(aA (tbl (dU m) k))]])∧H 905=(bk (u5+1) 24 4 [[(iV (m.i)),(iV (m.s)),(aA (tbl (nth m.nx) k)),(aA (tbl (dU m) k))]])∧((H 922).ver=v922∧(H 922).live=false)∧((H 938).ver=v938∧(H 938).live=false)∧((H 1112).ver=v∧(H 1112).live=false)∧((H 1113).ver=w∧(H 1113).live=false)∧True) ⟨t4,(bB hF (by decide)),h1,h902,rfl,h905,h922,h938,h1112,h1113,trivial⟩ ?_)))))
 intro T H ⟨t4,hF,h1,h902,h904,h905,h922,h938,h1112,h1113,_⟩
 have fh:=cW.fin (cW.putv (n:=w) (B:=(⟨u13+1+m.nx.length,false,false,0,0,[]⟩:Blk)) (cW.putv (n:=v) (B:=(⟨u12+1+m.nx.length,false,false,0,0,[]⟩:Blk)) (cW.putv (n:=v938) (B:=(⟨u38+2*m.nx.length,false,false,0,0,[]⟩:Blk)) (cW.putv (n:=v922) (B:=(⟨u22+m.nx.length,false,false,0,0,[]⟩:Blk)) (cW.putv (n:=(u5+1)) (B:=(⟨u5+1,false,false,0,0,[]⟩:Blk)) (cW.putv (n:=(u4+1)) (B:=(⟨u4+1,false,false,0,0,[]⟩:Blk)) (cW.putv (n:=(u2+1)) (B:=(⟨u2+1,false,false,0,0,[]⟩:Blk)) (cW.start hF) (congrArg Blk.ver h902) (by show _≤u2+1; omega) rfl) (congrArg Blk.ver h904) (by show _≤u4+1; omega) rfl) (congrArg Blk.ver h905) (by show _≤u5+1; omega) rfl) (h922).1 (by show _≤u22+m.nx.length; omega) rfl) (h938).1 (by show _≤u38+2*m.nx.length; omega) rfl) (h1112).1 (by show _≤u12+1+m.nx.length; omega) rfl) (h1113).1 (by show _≤u13+1+m.nx.length; omega) rfl)
 exact aC2 (eC (u:=(V.agg [(iV (m.i)),(iV (m.s)),(aA (tbl (nth m.nx) k)),(aA (tbl (dU m) k))])) t4 h904 (lB oB rfl rfl)) fh (eA.trans_eq (eA.same fh _) (by first|rfl|(rw [e9t,ek]; rfl)|simp))
end Go.Proofs.YtmnnhjhkaepbaaaGreat
namespace Go.Proofs.YtmnnhjhkaepbaaaGreat
open Go Go.Proofs
theorem aEs (m:M) (tg:List Int):bE Tryz.prog 10 [(V.agg [(iV (m.i)),(iV (m.s)),(aA m.nx),(aA m.ot)]),(aM tg)] (V.tup [(V.agg [(iV ((lfR m tg).i)),(iV ((lfR m tg).s)),(aA ((lfR m tg).nx)),(aA ((lfR m tg).ot))]),(iV ((cO m tg)))]):=by
 refine pW Tryz.func10 aFd fun hB=>?_
 unfold s10
 dsimp only
 refine W_r (eR (i:=2) (n:=0) (m:=4) (cs:=[(iV (m.i)),(iV (m.s)),(aA m.nx),(aA m.ot)]) rfl (congrArg Blk.ver rfl) rfl rfl rfl (eR (i:=3) (n:=0) (m:=1) (cs:=[(aM tg)]) rfl (congrArg Blk.ver rfl) rfl rfl rfl (dB (i:=4) (n:=0) (m:=4) rfl (congrArg Blk.ver rfl) rfl (aC rfl (R_e (aE (W_r ?_)))))))
 refine aX rfl rfl rfl rfl (bH (iL m) rfl (aC rfl (R_e (aE (W_r (aC rfl (eV rfl rfl ?_)))))))
 refine R_e ?_
 refine aP rfl (fun c1=>?_) fun c1=>?_
 ·
  have d0:=c1
  have e1:cO m tg=aZ m:=by unfold cO; rw [if_pos d0]
  have e2: ¬cO m tg=0:=by rw [e1]; exact d0
  refine aE (W_r (dO rfl rfl (aC rfl (bC (vs:=[(iV (0:Int)),(iV (0:Int)),V.nilsl,V.nilsl]) (B':=(bk 1 24 4 [[(iV (0:Int)),(iV (0:Int)),V.nilsl,V.nilsl]])) rfl rfl rfl rfl (sB oB rfl rfl rfl rfl rfl) (aC rfl (R_e (bF ?_)))))))
  refine fF (eC (u:=(V.agg [(iV (0:Int)),(iV (0:Int)),V.nilsl,V.nilsl])) rfl (@rfl Blk (bk 1 24 4 [[(iV (0:Int)),(iV (0:Int)),V.nilsl,V.nilsl]])) (lB oB rfl rfl)) (fD (@rfl V (iV (aZ m)))) (dQ (bA (aV ?_) (bA (aV ?_) (bA (dA ?_) (bA (dA ?_) rfl))))) (aV ?_)
  · rw [lfR,if_neg e2]; try rfl
  · rw [lfR,if_neg e2]; try rfl
  · rw [lfR,if_neg e2]; try rfl
  · rw [lfR,if_neg e2]; try rfl
  · exact e1.symm
 have hm:aZ m=0:=by omega
 have mo:=cJ hm
 refine aJ (aE (W_r (aX rfl rfl rfl rfl (bR rfl (bD rfl rfl (aX rfl rfl rfl rfl (bR rfl ?_)))))))
 refine eV rfl rfl (R_e ?_)
 refine aP rfl (fun c2=>?_) fun c2=>?_
 ·
  have d1:tg.length≠m.nx.length:=by have z:=c2; omega
  have e1:cO m tg=1:=by unfold cO; rw [if_neg (by omega),if_pos d1]
  have e2: ¬cO m tg=0:=by rw [e1]; decide
  refine aE (W_r (dO rfl rfl (bC (vs:=[(iV (0:Int)),(iV (0:Int)),V.nilsl,V.nilsl]) (B':=(bk 1 24 4 [[(iV (0:Int)),(iV (0:Int)),V.nilsl,V.nilsl]])) rfl rfl rfl rfl (sB oB rfl rfl rfl rfl rfl) (aC rfl (R_e (bF ?_))))))
  refine fF (eC (u:=(V.agg [(iV (0:Int)),(iV (0:Int)),V.nilsl,V.nilsl])) rfl (@rfl Blk (bk 1 24 4 [[(iV (0:Int)),(iV (0:Int)),V.nilsl,V.nilsl]])) (lB oB rfl rfl)) (fD (@rfl V (iV (1:Int)))) (dQ (bA (aV ?_) (bA (aV ?_) (bA (dA ?_) (bA (dA ?_) rfl))))) (aV ?_)
  · rw [lfR,if_neg e2]; try rfl
  · rw [lfR,if_neg e2]; try rfl
  · rw [lfR,if_neg e2]; try rfl
  · rw [lfR,if_neg e2]; try rfl
  · exact e1.symm
 have ht:tg.length=m.nx.length:=by have z:=c2; omega
 refine aJ (aE (W_r (aX rfl rfl rfl rfl (bR rfl (aC rfl (R_e (aH fun Q3 n3 x3 y3 z3=>?_)))))))
 refine bW (fun mm T H=> ∃ (k:Nat),mm=tg.length - k∧T 2=(V.mp 2 1 0 0)∧T 3=(V.mp 3 1 0 0)∧T 4=(V.mp 4 1 0 0)∧T 24=(aM tg)∧T 25=(iV ((tg.length:Nat):Int))∧T 26=(iV ((k:Nat):Int))∧H 2=(bk 1 24 4 [[(iV (m.i)),(iV (m.s)),(aA m.nx),(aA m.ot)]])∧H 3=(bk 1 25 1 [[(aM tg)]])∧H 4=(bk 1 24 4 [[(iV (0:Int)),(iV (0:Int)),V.nilsl,V.nilsl]])∧H 9=(⟨0,false,false,0,0,[]⟩:Blk)∧H 10=(⟨0,false,false,0,0,[]⟩:Blk)∧H 902=(⟨0,false,false,0,0,[]⟩:Blk)∧H 904=(⟨0,false,false,0,0,[]⟩:Blk)∧H 905=(⟨0,false,false,0,0,[]⟩:Blk)∧H 922=(⟨0,false,false,0,0,[]⟩:Blk)∧H 938=(⟨0,false,false,0,0,[]⟩:Blk)∧H 1112=(⟨0,false,false,0,0,[]⟩:Blk)∧H 1113=(⟨0,false,false,0,0,[]⟩:Blk)∧(k≤tg.length)∧(∀ j,j < k→0≤nth tg j∧nth tg j≤255)) ?_ ?_
 ·
  refine ⟨_,0,rfl,rfl,rfl,rfl,rfl,rfl,(Eq.trans (@rfl V (iV (0:Int))) rfl),rfl,rfl,rfl,rfl,rfl,rfl,rfl,rfl,rfl,rfl,rfl,rfl,?_,?_⟩
  · exact Nat.zero_le _
  · intro j hj; omega
 intro mm T H ⟨k,hmm,t2,t3,t4,t24,t25,t26,h2,h3,h4,h9,h10,h902,h904,h905,h922,h938,h1112,h1113,hk,hc⟩ Q4 p14 p24 p34
 unfold aKP
 refine W_r (bU t26 t25 (R_e ?_))
 refine aP rfl (fun c5=>?_) fun c5=>?_
 ·
  refine aJ (aH fun Q6 n6 x6 y6 z6=>(W_r (bO (i:=k) t24 t26 (by omega) rfl (aK rfl rfl (aC rfl (R_e (W_r ?_)))))))
  refine aC rfl (bU rfl rfl (aC rfl ?_))
  refine cF 3 (fun T H=>T 2=(V.mp 2 1 0 0)∧T 3=(V.mp 3 1 0 0)∧T 4=(V.mp 4 1 0 0)∧T 24=(aM tg)∧T 25=(iV ((tg.length:Nat):Int))∧T 26=(iV ((k:Nat):Int))∧T 35=(V.bool (decide ((((nth (tg) (k))) < (0:Int))∨((255:Int) < ((nth (tg) (k)))))))∧H 2=(bk 1 24 4 [[(iV (m.i)),(iV (m.s)),(aA m.nx),(aA m.ot)]])∧H 3=(bk 1 25 1 [[(aM tg)]])∧H 4=(bk 1 24 4 [[(iV (0:Int)),(iV (0:Int)),V.nilsl,V.nilsl]])∧H 9=(⟨0,false,false,0,0,[]⟩:Blk)∧H 10=(⟨0,false,false,0,0,[]⟩:Blk)∧H 902=(⟨0,false,false,0,0,[]⟩:Blk)∧H 904=(⟨0,false,false,0,0,[]⟩:Blk)∧H 905=(⟨0,false,false,0,0,[]⟩:Blk)∧H 922=(⟨0,false,false,0,0,[]⟩:Blk)∧H 938=(⟨0,false,false,0,0,[]⟩:Blk)∧H 1112=(⟨0,false,false,0,0,[]⟩:Blk)∧H 1113=(⟨0,false,false,0,0,[]⟩:Blk)∧True) ?_ ?_
  ·
   by_cases g7:((nth (tg) (k))) < (0:Int)
   ·
    refine G_n (edT g7 rfl) (G_n (edT g7 rfl) (cK (edT g7 rfl) rfl ?_))
    exact ⟨t2,t3,t4,t24,t25,t26,(eL g7),h2,h3,h4,h9,h10,h902,h904,h905,h922,h938,h1112,h1113,trivial⟩
   ·
    refine aQ (edF g7 rfl) (aC rfl (aQ (edF g7 rfl) (jO rfl rfl (cG (edF g7 rfl) rfl ?_))))
    exact ⟨t2,t3,t4,t24,t25,t26,(eQ g7),h2,h3,h4,h9,h10,h902,h904,h905,h922,h938,h1112,h1113,trivial⟩
  intro T H ⟨t2,t3,t4,t24,t25,t26,t35,h2,h3,h4,h9,h10,h902,h904,h905,h922,h938,h1112,h1113,_⟩
  refine R_e ?_
  refine lD t35 (fun c8=>?_) fun c8=>?_
  ·
   have d5:nth tg k < 0∨255 < nth tg k:=by have z:=c8; first|omega|(simp at z; omega)
   have e1:cO m tg=2:=by unfold cO; rw [if_neg (by omega),if_neg (by omega),if_pos (aJY (k:=k) (by omega) d5)]
   have e2: ¬cO m tg=0:=by rw [e1]; decide
   refine W_r (dO rfl rfl (bC (vs:=[(iV (0:Int)),(iV (0:Int)),V.nilsl,V.nilsl]) (B':=(bk 1 24 4 [[(iV (0:Int)),(iV (0:Int)),V.nilsl,V.nilsl]])) t4 rfl rfl h4 (sB oB rfl rfl rfl rfl rfl) (aC rfl (R_e (bS (y6 _ _ (p24 _ _ ?_)))))))
   refine y3 _ _ ?_
   refine fF (eC (u:=(V.agg [(iV (0:Int)),(iV (0:Int)),V.nilsl,V.nilsl])) t4 (@rfl Blk (bk 1 24 4 [[(iV (0:Int)),(iV (0:Int)),V.nilsl,V.nilsl]])) (lB oB rfl rfl)) (fD (@rfl V (iV (2:Int)))) (dQ (bA (aV ?_) (bA (aV ?_) (bA (dA ?_) (bA (dA ?_) rfl))))) (aV ?_)
   · rw [lfR,if_neg e2]; try rfl
   · rw [lfR,if_neg e2]; try rfl
   · rw [lfR,if_neg e2]; try rfl
   · rw [lfR,if_neg e2]; try rfl
   · exact e1.symm
  have d5:0≤nth tg k∧nth tg k≤255:=by have z:=c8; first|omega|(simp at z; omega)
  refine fQ (n6 _ _ (.done (W_t (bJ t26 (@rfl V (iV ((1:Nat):Int))) (by omega) (aC rfl (R_e ?_))))))
  refine p14 _ _ _ ?_ ⟨(k+1),rfl,t2,t3,t4,t24,t25,(Eq.trans (@rfl V (iV ((k+1:Nat):Int))) (by first|rfl|simp)),h2,h3,h4,h9,h10,h902,h904,h905,h922,h938,h1112,h1113,?_,?_⟩
  · omega
  · omega
  · intro j hj
    by_cases e:j=k
    · subst e; exact d5
    · exact hc j (by omega)
 have hr: ∀ k,k < tg.length→0≤nth tg k∧nth tg k≤255:=fun j hj=>hc j (by omega)
 have e0:=aDO hm ht (aKa hr)
 refine aW (p34 _ _ _ (x3 _ _ (.done (W_r (dB (i:=9) (n:=0) (m:=1) rfl (congrArg Blk.ver h9) rfl (bC (vs:=[(V.bool false)]) (B':=(bk 1 4 1 [[(V.bool false)]])) rfl rfl rfl rfl (sB oB rfl rfl rfl rfl rfl) (R_e ?_)))))))
 refine W_r (aX t2 h2 rfl rfl (aDe (cM t2 (cM t3 (cM rfl gN))) (jR (cM rfl (cM rfl gN)) (aNP m tg 0 0 0 0 0 0 0 hm ht hr _ (congrArg Blk.ver h902) (congrArg Blk.ver h904) (congrArg Blk.ver h905) ⟨(congrArg Blk.ver h922),congrArg Blk.live h922⟩ ⟨(congrArg Blk.ver h938),congrArg Blk.live h938⟩ (congrArg Blk.ver h1112) (congrArg Blk.ver h1113) h2 h3 (@rfl Blk (bk 1 4 1 [[(V.bool false)]]))) (dB (i:=10) (n:=0) (m:=4) rfl (congrArg Blk.ver h10) rfl (bC (vs:=[(iV ((lfM m tg).i)),(iV ((lfM m tg).s)),(aA ((lfM m tg).nx)),(aA ((lfM m tg).ot))]) (B':=(bk 1 24 4 [[(iV ((lfM m tg).i)),(iV ((lfM m tg).s)),(aA ((lfM m tg).nx)),(aA ((lfM m tg).ot))]])) rfl rfl rfl rfl (sB oB rfl rfl rfl rfl rfl) (R_e (aE ?_)))))))
 refine W_r (aX rfl rfl rfl rfl (R_e ?_))
 refine fA rfl (fun c9=>?_) (fun c9=>?_)
 ·
  have e1:cO m tg=11:=by rw [e0,if_pos c9]
  have e2: ¬cO m tg=0:=by rw [e1]; decide
  refine aE (W_r (dO rfl rfl (bC (vs:=[(iV (0:Int)),(iV (0:Int)),V.nilsl,V.nilsl]) (B':=(bk 1 24 4 [[(iV (0:Int)),(iV (0:Int)),V.nilsl,V.nilsl]])) t4 rfl rfl h4 (sB oB rfl rfl rfl rfl rfl) (aC rfl (R_e (bF ?_))))))
  refine fF (eC (u:=(V.agg [(iV (0:Int)),(iV (0:Int)),V.nilsl,V.nilsl])) t4 (@rfl Blk (bk 1 24 4 [[(iV (0:Int)),(iV (0:Int)),V.nilsl,V.nilsl]])) (lB oB rfl rfl)) (fD (@rfl V (iV (11:Int)))) (dQ (bA (aV ?_) (bA (aV ?_) (bA (dA ?_) (bA (dA ?_) rfl))))) (aV ?_)
  · rw [lfR,if_neg e2]; try rfl
  · rw [lfR,if_neg e2]; try rfl
  · rw [lfR,if_neg e2]; try rfl
  · rw [lfR,if_neg e2]; try rfl
  · exact e1.symm
 have e3:cO m tg=0:=by rw [e0,if_neg (by rw [c9]; decide)]
 refine aJ (W_r (aX rfl rfl rfl rfl (bC (vs:=[(iV ((lfM m tg).i)),(iV ((lfM m tg).s)),(aA ((lfM m tg).nx)),(aA ((lfM m tg).ot))]) (B':=(bk 1 24 4 [[(iV ((lfM m tg).i)),(iV ((lfM m tg).s)),(aA ((lfM m tg).nx)),(aA ((lfM m tg).ot))]])) t4 rfl rfl h4 (sB oB rfl rfl rfl rfl rfl) (aC rfl (R_e (bS ?_))))))
 refine fF (eC (u:=(V.agg [(iV ((lfM m tg).i)),(iV ((lfM m tg).s)),(aA ((lfM m tg).nx)),(aA ((lfM m tg).ot))])) t4 (@rfl Blk (bk 1 24 4 [[(iV ((lfM m tg).i)),(iV ((lfM m tg).s)),(aA ((lfM m tg).nx)),(aA ((lfM m tg).ot))]])) (lB oB rfl rfl)) (fD (@rfl V (iV (0:Int)))) (dQ (bA (aV ?_) (bA (aV ?_) (bA (lQ ?_ (fun _=>by simp)) (bA (lQ ?_ (fun _=>by simp)) rfl))))) (aV ?_)
 · rw [lfR,if_pos e3]; try rfl
 · rw [lfR,if_pos e3]; try rfl
 · rw [lfR,if_pos e3]; try rfl
 · rw [lfR,if_pos e3]; try rfl
 · exact e3.symm
def aRM:List SO:=[
 qM 33 1,
 qM 34 7,
 qA 35 1 33 34,
 ql 36 35,
 qC 37 .lss 36 0,
 qM 38 37,
 ⟨some (38,false),some 39,.mv (.t 1)⟩,
 ⟨some (38,false),some 40,.mv (.t 7)⟩,
 ⟨some (38,false),some 41,.idx 1 (.t 39) (.t 40)⟩,
 ⟨some (38,false),some 42,.load false 1 (.t 41)⟩,
 ⟨some (38,false),some 43,.bin .gtr (.t 42) (.c (.int .i64 255))⟩,
 sO 44 (.pick (.t 38) (.c (.bool true)) (.t 43))]
def aKj:SC:=.seq (.seq (.reg [qM 27 7,qM 28 1,qN 29 28,qP 30 .lss 27 29]) (.cond (.t 30) (.skip) (.exit 0))) (.seq (.block 1 (.seq (.reg aRM) (.cond (.t 44) (.seq (.reg [sO 45 (.build [.int .i64 0,.int .i64 0,.nilsl,.nilsl] []),sN (.store 4 (.t 4) (.t 45)),qI 5 2]) (.ret)) (.skip)))) (.reg [qM 31 7,qC 32 .add 31 1,qM 7 32]))
def aNZ:List SO:=[
 qF 46 0 2,
 ql 47 46,
 qF 48 1 2,
 ql 49 48,
 sO 50 (.build [.int .i64 0,.int .i64 0,.nilsl,.nilsl] [(0,1,.t 47),(1,1,.t 49)]),
 sO 8 (.alloc 24 [.int .i64 0,.int .i64 0,.nilsl,.nilsl]),
 sN (.store 4 (.t 8) (.t 50))]
def aLp:List SO:=[
 qF 64 3 2,
 ql 65 64,
 qM 66 9,
 qA 67 1 65 66,
 ql 68 67,
 qM 69 12,
 qA 70 1 68 69,
 ql 71 70,
 sO 72 (.bin .mul (.c (.int .i64 256)) (.t 71)),
 qM 73 1,
 qF 74 2 2,
 ql 75 74,
 qM 76 9,
 qA 77 1 75 76,
 ql 78 77,
 qM 79 12,
 qA 80 1 78 79,
 ql 81 80,
 qA 82 1 73 81,
 ql 83 82,
 qP 84 .add 72 83,
 qM 13 84]
def aOf:List SO:=[
 qM 88 10,
 qF 89 2 2,
 ql 90 89,
 qM 91 9,
 qA 92 1 90 91,
 ql 93 92,
 qM 94 12,
 qA 95 1 93 94,
 ql 96 95,
 sO 97 (.bslice 3 1 false [.int .i64 0] 1 [(0,.t 96)]),
 sO 98 (.append 3 1 8 (.t 88) (.t 97)),
 qM 10 98]
def aJX:SC:=.seq (.seq (.reg [qM 58 12,qF 59 0 2,ql 60 59,qP 61 .lss 58 60]) (.cond (.t 61) (.skip) (.exit 4))) (.seq (.block 5 (.seq (.reg aLp) (.seq (.seq (.reg [qM 85 13,qC 86 .gtr 85 1048576]) (.cond (.t 86) (.seq (.reg [sO 87 (.build [.int .i64 0,.int .i64 0,.nilsl,.nilsl] []),sN (.store 4 (.t 4) (.t 87)),qI 5 11]) (.ret)) (.skip))) (.seq (.reg aOf) (.reg [qM 99 11,qM 100 13,sO 101 (.bslice 3 1 false [.int .i64 0] 1 [(0,.t 100)]),sO 102 (.append 3 1 8 (.t 99) (.t 101)),qM 11 102]))))) (.reg [qM 62 12,qC 63 .add 62 1,qM 12 63]))
def aMU:List SO:=[
 qF 103 2 8,
 ql 104 103,
 qM 105 10,
 sO 106 (.bslice 25 1 false [.nilsl] 1 [(0,.t 105)]),
 sO 107 (.append 25 1 24 (.t 104) (.t 106)),
 qF 108 2 8,
 sN (.store 1 (.t 108) (.t 107))]
def aMR:List SO:=[
 qF 109 3 8,
 ql 110 109,
 qM 111 11,
 sO 112 (.bslice 25 1 false [.nilsl] 1 [(0,.t 111)]),
 sO 113 (.append 25 1 24 (.t 110) (.t 112)),
 qF 114 3 8,
 sN (.store 1 (.t 114) (.t 113))]
def aKw:SC:=.seq (.seq (.reg [qM 51 9,qF 52 2 2,ql 53 52,qN 54 53,qP 55 .lss 51 54]) (.cond (.t 55) (.skip) (.exit 2))) (.seq (.block 3 (.seq (.reg [sO 10 (.lazy 3 1),sO 11 (.lazy 3 1)]) (.seq (.seq (.reg [qI 12 0]) (.block 4 (.loop aJX))) (.seq (.reg aMU) (.reg aMR))))) (.reg [qM 56 9,qC 57 .add 56 1,qM 9 57]))
def s11:SF:=⟨116,[.cell 4 true 4,.tmp 5],.seq (.reg [sO 2 (.box 24 4 (.t 0)),sO 4 (.alloc 24 [.int .i64 0,.int .i64 0,.nilsl,.nilsl]),qI 5 0]) (.seq (.seq (.reg [qL 14 4 2,sO 15 (.call false 32 [.t 14]),qM 6 15]) (.seq (.reg [qM 16 6,qC 17 .neq 16 0]) (.cond (.t 17) (.seq (.reg [sO 18 (.build [.int .i64 0,.int .i64 0,.nilsl,.nilsl] []),qM 19 6,sN (.store 4 (.t 4) (.t 18)),qM 5 19]) (.ret)) (.skip)))) (.seq (.seq (.reg [qM 20 1,qN 21 20,qF 22 2 2,ql 23 22,qN 24 23,qP 25 .neq 21 24]) (.cond (.t 25) (.seq (.reg [sO 26 (.build [.int .i64 0,.int .i64 0,.nilsl,.nilsl] []),sN (.store 4 (.t 4) (.t 26)),qI 5 1]) (.ret)) (.skip))) (.seq (.seq (.reg [qI 7 0]) (.block 0 (.loop aKj))) (.seq (.reg aNZ) (.seq (.seq (.reg [qI 9 0]) (.block 2 (.loop aKw))) (.seq (.reg [qL 115 4 8,sN (.store 4 (.t 4) (.t 115)),qI 5 0]) (.ret)))))))⟩
theorem aNd:aR Tryz.prog ⟨[39,75,135,136,137,155,161,186,188,194,195,196,211,212,213,226,230,233,238],[10,11],[],[]⟩ Tryz.f11=some s11:=by kernel_rfl
def aRI:List SO:=[
 qF 5 0 1,
 ql 6 5,
 qC 7 .lss 6 1,
 qM 8 7,
 ⟨some (8,false),some 9,.fld 0 (.t 1)⟩,
 ⟨some (8,false),some 10,.load false 1 (.t 9)⟩,
 ⟨some (8,false),some 11,.bin .gtr (.t 10) (.c (.int .i64 64))⟩,
 sO 12 (.pick (.t 8) (.c (.bool true)) (.t 11))]
def aRt:List SO:=[
 qF 21 1 1,
 ql 22 21,
 qC 23 .lss 22 0,
 qM 24 23,
 ⟨some (24,false),some 25,.fld 1 (.t 1)⟩,
 ⟨some (24,false),some 26,.load false 1 (.t 25)⟩,
 ⟨some (24,false),some 27,.fld 2 (.t 1)⟩,
 ⟨some (24,false),some 28,.load false 1 (.t 27)⟩,
 ⟨some (24,false),some 29,.len (.t 28)⟩,
 ⟨some (24,false),some 30,.bin .geq (.t 26) (.t 29)⟩,
 sO 31 (.pick (.t 24) (.c (.bool true)) (.t 30))]
def aRa:List SO:=[
 qF 32 3 1,
 ql 33 32,
 qN 34 33,
 qF 35 2 1,
 ql 36 35,
 qN 37 36,
 qP 38 .neq 34 37]
def aKi:SC:=.seq (.seq (.reg [qM 39 3,qF 40 2 1,ql 41 40,qN 42 41,qP 43 .lss 39 42]) (.cond (.t 43) (.skip) (.exit 0))) (.seq (.block 1 (.seq (.reg [qL 46 4 1,qM 47 3,sO 48 (.call false 51 [.t 46,.t 47]),qM 4 48]) (.seq (.reg [qM 49 4,qC 50 .neq 49 0]) (.cond (.t 50) (.seq (.reg [qM 51 4,qM 2 51]) (.ret)) (.skip))))) (.reg [qM 44 3,qC 45 .add 44 1,qM 3 45]))
def s32:SF:=⟨52,[.tmp 2],.seq (.reg [sO 1 (.box 24 4 (.t 0)),qI 2 0]) (.seq (.seq (.reg aRI) (.cond (.t 12) (.seq (.reg [qI 2 2]) (.ret)) (.skip))) (.seq (.seq (.reg [qF 13 2 1,ql 14 13,qN 15 14,qC 16 .eql 15 0]) (.cond (.t 16) (.seq (.reg [qI 2 19]) (.ret)) (.skip))) (.seq (.seq (.reg [qF 17 2 1,ql 18 17,qN 19 18,qC 20 .gtr 19 128]) (.cond (.t 20) (.seq (.reg [qI 2 11]) (.ret)) (.skip))) (.seq (.seq (.reg aRt) (.cond (.t 31) (.seq (.reg [qI 2 2]) (.ret)) (.skip))) (.seq (.seq (.reg aRa) (.cond (.t 38) (.seq (.reg [qI 2 1]) (.ret)) (.skip))) (.seq (.seq (.reg [qI 3 0]) (.block 0 (.loop aKi))) (.seq (.reg [qI 2 0]) (.ret))))))))⟩
theorem aKT:aR Tryz.prog ⟨[39,75,135,136,137,155,161,186,188,194,195,196,211,212,213,226,230,233,238],[],[],[]⟩ Tryz.f32=some s32:=by kernel_rfl
def aRK:List SO:=[
 qF 6 2 2,
 ql 7 6,
 qM 8 1,
 qA 9 1 7 8,
 ql 10 9,
 qN 11 10,
 qF 12 0 2,
 ql 13 12,
 qP 14 .neq 11 13,
 qM 15 14,
 ⟨some (15,false),some 16,.fld 3 (.t 2)⟩,
 ⟨some (15,false),some 17,.load false 1 (.t 16)⟩,
 ⟨some (15,false),some 18,.mv (.t 1)⟩,
 ⟨some (15,false),some 19,.idx 1 (.t 17) (.t 18)⟩,
 ⟨some (15,false),some 20,.load false 1 (.t 19)⟩,
 ⟨some (15,false),some 21,.len (.t 20)⟩,
 ⟨some (15,false),some 22,.fld 0 (.t 2)⟩,
 ⟨some (15,false),some 23,.load false 1 (.t 22)⟩,
 ⟨some (15,false),some 24,.bin .neq (.t 21) (.t 23)⟩,
 sO 25 (.pick (.t 15) (.c (.bool true)) (.t 24))]
def aRk:List SO:=[
 qF 32 2 2,
 ql 33 32,
 qM 34 1,
 qA 35 1 33 34,
 ql 36 35,
 qM 37 5,
 qA 38 1 36 37,
 ql 39 38,
 qC 40 .lss 39 0,
 qM 41 40,
 ⟨some (41,false),some 42,.fld 2 (.t 2)⟩,
 ⟨some (41,false),some 43,.load false 1 (.t 42)⟩,
 ⟨some (41,false),some 44,.mv (.t 1)⟩,
 ⟨some (41,false),some 45,.idx 1 (.t 43) (.t 44)⟩,
 ⟨some (41,false),some 46,.load false 1 (.t 45)⟩,
 ⟨some (41,false),some 47,.mv (.t 5)⟩,
 ⟨some (41,false),some 48,.idx 1 (.t 46) (.t 47)⟩,
 ⟨some (41,false),some 49,.load false 1 (.t 48)⟩,
 ⟨some (41,false),some 50,.fld 2 (.t 2)⟩,
 ⟨some (41,false),some 51,.load false 1 (.t 50)⟩,
 ⟨some (41,false),some 52,.len (.t 51)⟩,
 ⟨some (41,false),some 53,.bin .geq (.t 49) (.t 52)⟩,
 sO 54 (.pick (.t 41) (.c (.bool true)) (.t 53)),
 qM 55 54,
 ⟨some (55,false),some 56,.fld 3 (.t 2)⟩,
 ⟨some (55,false),some 57,.load false 1 (.t 56)⟩,
 ⟨some (55,false),some 58,.mv (.t 1)⟩,
 ⟨some (55,false),some 59,.idx 1 (.t 57) (.t 58)⟩,
 ⟨some (55,false),some 60,.load false 1 (.t 59)⟩,
 ⟨some (55,false),some 61,.mv (.t 5)⟩,
 ⟨some (55,false),some 62,.idx 1 (.t 60) (.t 61)⟩,
 ⟨some (55,false),some 63,.load false 1 (.t 62)⟩,
 ⟨some (55,false),some 64,.bin .lss (.t 63) (.c (.int .i64 0))⟩,
 sO 65 (.pick (.t 55) (.c (.bool true)) (.t 64)),
 qM 66 65,
 ⟨some (66,false),some 67,.fld 3 (.t 2)⟩,
 ⟨some (66,false),some 68,.load false 1 (.t 67)⟩,
 ⟨some (66,false),some 69,.mv (.t 1)⟩,
 ⟨some (66,false),some 70,.idx 1 (.t 68) (.t 69)⟩,
 ⟨some (66,false),some 71,.load false 1 (.t 70)⟩,
 ⟨some (66,false),some 72,.mv (.t 5)⟩,
 ⟨some (66,false),some 73,.idx 1 (.t 71) (.t 72)⟩,
 ⟨some (66,false),some 74,.load false 1 (.t 73)⟩,
 ⟨some (66,false),some 75,.bin .gtr (.t 74) (.c (.int .i64 1048576))⟩,
 sO 76 (.pick (.t 66) (.c (.bool true)) (.t 75))]
def aKC:SC:=.seq (.seq (.reg [qM 26 5,qF 27 0 2,ql 28 27,qP 29 .lss 26 28]) (.cond (.t 29) (.skip) (.exit 0))) (.seq (.block 1 (.seq (.reg aRk) (.cond (.t 76) (.seq (.reg [qI 4 2]) (.ret)) (.skip)))) (.reg [qM 30 5,qC 31 .add 30 1,qM 5 31]))
def s51:SF:=⟨77,[.tmp 4],.seq (.reg [sO 2 (.box 24 4 (.t 0)),qI 4 0]) (.seq (.seq (.reg aRK) (.cond (.t 25) (.seq (.reg [qI 4 1]) (.ret)) (.skip))) (.seq (.seq (.reg [qI 5 0]) (.block 0 (.loop aKC))) (.seq (.reg [qI 4 0]) (.ret))))⟩
theorem aM4:aR Tryz.prog ⟨[39,75,135,136,137,155,161,186,188,194,195,196,211,212,213,226,230,233,238],[],[],[]⟩ Tryz.f51=some s51:=by kernel_rfl
theorem aFX (m:M) (s:Nat) (h1:s < m.nx.length) (h2:s < m.ot.length) (hi:1≤m.i∧m.i≤64):bE Tryz.prog 51 [(V.agg [(iV (m.i)),(iV (m.s)),(aA m.nx),(aA m.ot)]),(iV ((s:Nat):Int))] (iV (nJ m s)):=by
 refine pW Tryz.func51 aM4 fun hB=>?_
 unfold s51
 dsimp only
 refine W_r (eR (i:=2) (n:=0) (m:=4) (cs:=[(iV (m.i)),(iV (m.s)),(aA m.nx),(aA m.ot)]) rfl (congrArg Blk.ver rfl) rfl rfl rfl (aC rfl (R_e (aE (W_r (bD rfl rfl (aX rfl rfl rfl rfl ?_)))))))
 refine aC rfl (bO (i:=s) (@rfl V (aA m.nx)) (@rfl V (iV ((s:Nat):Int))) (by omega) rfl (aK rfl rfl (bR rfl (bD rfl rfl (aX rfl rfl rfl rfl (eV rfl rfl (aC rfl ?_)))))))
 refine cF 10 (fun T H=>T 1=(iV ((s:Nat):Int))∧T 2=(V.mp 2 1 0 0)∧T 25=(V.bool (decide ((((((nth (m.nx) (s))).length:Nat):Int)≠(m.i))∨(((((nth (m.ot) (s))).length:Nat):Int)≠(m.i)))))∧H 2=(bk 1 24 4 [[(iV (m.i)),(iV (m.s)),(aA m.nx),(aA m.ot)]])∧True) ?_ ?_
 ·
  by_cases g1:((((nth (m.nx) (s))).length:Nat):Int)≠(m.i)
  ·
   refine G_n (edT g1 rfl) (G_n (edT g1 rfl) (G_n (edT g1 rfl) (G_n (edT g1 rfl) (G_n (edT g1 rfl) (G_n (edT g1 rfl) (G_n (edT g1 rfl) (G_n (edT g1 rfl) ?_)))))))
   refine G_n (edT g1 rfl) (cK (edT g1 rfl) rfl ?_)
   exact ⟨rfl,rfl,(eL g1),rfl,trivial⟩
  ·
   refine aQ (edF g1 rfl) (bD rfl rfl (aQ (edF g1 rfl) (aX rfl rfl rfl rfl (aQ (edF g1 rfl) (aC rfl (aQ (edF g1 rfl) (bO (i:=s) (@rfl V (aA m.ot)) (@rfl V (iV ((s:Nat):Int))) (by omega) rfl ?_)))))))
   refine aQ (edF g1 rfl) (aK rfl rfl (aQ (edF g1 rfl) (bR rfl (aQ (edF g1 rfl) (bD rfl rfl (aQ (edF g1 rfl) (aX rfl rfl rfl rfl ?_)))))))
   refine aQ (edF g1 rfl) (eV rfl rfl (cG (edF g1 rfl) rfl ?_))
   exact ⟨rfl,rfl,(eQ g1),rfl,trivial⟩
 intro T H ⟨t1,t2,t25,h2,_⟩
 refine R_e ?_
 refine aP t25 (fun c2=>?_) fun c2=>?_
 ·
  refine aE (W_r (aC rfl (R_e (bF ?_))))
  refine cC (@rfl V (iV (1:Int))) (aV ?_)
  · rw [nJ,if_pos (by omega)]
 refine aJ (aE (W_r (aC rfl (R_e (aH fun Q3 n3 x3 y3 z3=>?_)))))
 refine bW (fun mm T H=> ∃ (k:Nat),mm=((m.i).toNat) - k∧T 1=(iV ((s:Nat):Int))∧T 2=(V.mp 2 1 0 0)∧T 5=(iV ((k:Nat):Int))∧H 2=(bk 1 24 4 [[(iV (m.i)),(iV (m.s)),(aA m.nx),(aA m.ot)]])∧(k≤(m.i).toNat)∧(((nth m.nx s).length:Int)=m.i∧((nth m.ot s).length:Int)=m.i)∧(nJ m s=fe (sY m s) k (m.i.toNat - k))) ?_ ?_
 ·
  refine ⟨_,0,rfl,t1,t2,(Eq.trans (@rfl V (iV (0:Int))) rfl),h2,?_,?_,?_⟩
  · omega
  · omega
  · rw [nJ,if_neg (by omega)]; rfl
 intro mm T H ⟨k,hmm,t1,t2,t5,h2,hk,hl,hc⟩ Q4 p14 p24 p34
 unfold aKC
 refine aE (W_r (aC t5 (bD t2 h2 (aX rfl h2 rfl rfl (bU rfl rfl (R_e ?_))))))
 refine aP rfl (fun c5=>?_) fun c5=>?_
 ·
  refine aJ (aH fun Q6 n6 x6 y6 z6=>?_)
  refine oH (fun T H=>T 1=(iV ((s:Nat):Int))∧T 2=(V.mp 2 1 0 0)∧T 5=(iV ((k:Nat):Int))∧T 76=(V.bool (decide ((((((nth ((nth (m.nx) (s))) (k))) < (0:Int))∨(((m.nx.length:Nat):Int)≤((nth ((nth (m.nx) (s))) (k)))))∨(((nth ((nth (m.ot) (s))) (k))) < (0:Int)))∨((1048576:Int) < ((nth ((nth (m.ot) (s))) (k)))))))∧H 2=(bk 1 24 4 [[(iV (m.i)),(iV (m.s)),(aA m.nx),(aA m.ot)]])∧True) ?_ ?_
  ·
   refine bD t2 h2 (aX rfl h2 rfl rfl (aC t1 (bO (i:=s) (@rfl V (aA m.nx)) (@rfl V (iV ((s:Nat):Int))) (by omega) rfl (aK rfl rfl (aC t5 (bO (i:=k) (@rfl V (aM ((nth (m.nx) (s))))) (@rfl V (iV ((k:Nat):Int))) (by omega) rfl (aK rfl rfl ?_)))))))
   refine bU rfl rfl (aC rfl ?_)
   refine cF 13 (fun T H=>T 1=(iV ((s:Nat):Int))∧T 2=(V.mp 2 1 0 0)∧T 5=(iV ((k:Nat):Int))∧T 54=(V.bool (decide ((((nth ((nth (m.nx) (s))) (k))) < (0:Int))∨(((m.nx.length:Nat):Int)≤((nth ((nth (m.nx) (s))) (k)))))))∧H 2=(bk 1 24 4 [[(iV (m.i)),(iV (m.s)),(aA m.nx),(aA m.ot)]])∧True) ?_ ?_
   ·
    by_cases g7:((nth ((nth (m.nx) (s))) (k))) < (0:Int)
    ·
     refine G_n (edT g7 rfl) (G_n (edT g7 rfl) (G_n (edT g7 rfl) (G_n (edT g7 rfl) (G_n (edT g7 rfl) (G_n (edT g7 rfl) (G_n (edT g7 rfl) (G_n (edT g7 rfl) ?_)))))))
     refine G_n (edT g7 rfl) (G_n (edT g7 rfl) (G_n (edT g7 rfl) (G_n (edT g7 rfl) (cK (edT g7 rfl) rfl ?_))))
     exact ⟨t1,t2,t5,(eL g7),h2,trivial⟩
    ·
     refine aQ (edF g7 rfl) (bD t2 h2 (aQ (edF g7 rfl) (aX rfl h2 rfl rfl (aQ (edF g7 rfl) (aC t1 (aQ (edF g7 rfl) (bO (i:=s) (@rfl V (aA m.nx)) (@rfl V (iV ((s:Nat):Int))) (by omega) rfl ?_)))))))
     refine aQ (edF g7 rfl) (aK rfl rfl (aQ (edF g7 rfl) (aC t5 (aQ (edF g7 rfl) (bO (i:=k) (@rfl V (aM ((nth (m.nx) (s))))) (@rfl V (iV ((k:Nat):Int))) (by omega) rfl (aQ (edF g7 rfl) (aK rfl rfl ?_)))))))
     refine aQ (edF g7 rfl) (bD t2 h2 (aQ (edF g7 rfl) (aX rfl h2 rfl rfl (aQ (edF g7 rfl) (bR rfl (aQ (edF g7 rfl) (xR rfl rfl ?_)))))))
     refine cG (edF g7 rfl) rfl ?_
     exact ⟨t1,t2,t5,(eQ g7),h2,trivial⟩
   intro T H ⟨t1,t2,t5,t54,h2,_⟩
   refine aC t54 ?_
   refine cF 10 (fun T H=>T 1=(iV ((s:Nat):Int))∧T 2=(V.mp 2 1 0 0)∧T 5=(iV ((k:Nat):Int))∧T 65=(V.bool (decide (((((nth ((nth (m.nx) (s))) (k))) < (0:Int))∨(((m.nx.length:Nat):Int)≤((nth ((nth (m.nx) (s))) (k)))))∨(((nth ((nth (m.ot) (s))) (k))) < (0:Int)))))∧H 2=(bk 1 24 4 [[(iV (m.i)),(iV (m.s)),(aA m.nx),(aA m.ot)]])∧True) ?_ ?_
   ·
    by_cases g8:(((nth ((nth (m.nx) (s))) (k))) < (0:Int))∨(((m.nx.length:Nat):Int)≤((nth ((nth (m.nx) (s))) (k))))
    ·
     refine G_n (edT g8 rfl) (G_n (edT g8 rfl) (G_n (edT g8 rfl) (G_n (edT g8 rfl) (G_n (edT g8 rfl) (G_n (edT g8 rfl) (G_n (edT g8 rfl) (G_n (edT g8 rfl) ?_)))))))
     refine G_n (edT g8 rfl) (cK (edT g8 rfl) rfl ?_)
     exact ⟨t1,t2,t5,(eL g8),h2,trivial⟩
    ·
     refine aQ (edF g8 rfl) (bD t2 h2 (aQ (edF g8 rfl) (aX rfl h2 rfl rfl (aQ (edF g8 rfl) (aC t1 (aQ (edF g8 rfl) (bO (i:=s) (@rfl V (aA m.ot)) (@rfl V (iV ((s:Nat):Int))) (by omega) rfl ?_)))))))
     refine aQ (edF g8 rfl) (aK rfl rfl (aQ (edF g8 rfl) (aC t5 (aQ (edF g8 rfl) (bO (i:=k) (@rfl V (aM ((nth (m.ot) (s))))) (@rfl V (iV ((k:Nat):Int))) (by omega) rfl (aQ (edF g8 rfl) (aK rfl rfl ?_)))))))
     refine aQ (edF g8 rfl) (bU rfl rfl (cG (edF g8 rfl) rfl ?_))
     exact ⟨t1,t2,t5,(eQ g8),h2,trivial⟩
   intro T H ⟨t1,t2,t5,t65,h2,_⟩
   refine aC t65 ?_
   refine cF 10 (fun T H=>T 1=(iV ((s:Nat):Int))∧T 2=(V.mp 2 1 0 0)∧T 5=(iV ((k:Nat):Int))∧T 76=(V.bool (decide ((((((nth ((nth (m.nx) (s))) (k))) < (0:Int))∨(((m.nx.length:Nat):Int)≤((nth ((nth (m.nx) (s))) (k)))))∨(((nth ((nth (m.ot) (s))) (k))) < (0:Int)))∨((1048576:Int) < ((nth ((nth (m.ot) (s))) (k)))))))∧H 2=(bk 1 24 4 [[(iV (m.i)),(iV (m.s)),(aA m.nx),(aA m.ot)]])∧True) ?_ ?_
   ·
    by_cases g9:((((nth ((nth (m.nx) (s))) (k))) < (0:Int))∨(((m.nx.length:Nat):Int)≤((nth ((nth (m.nx) (s))) (k)))))∨(((nth ((nth (m.ot) (s))) (k))) < (0:Int))
    ·
     refine G_n (edT g9 rfl) (G_n (edT g9 rfl) (G_n (edT g9 rfl) (G_n (edT g9 rfl) (G_n (edT g9 rfl) (G_n (edT g9 rfl) (G_n (edT g9 rfl) (G_n (edT g9 rfl) ?_)))))))
     refine G_n (edT g9 rfl) (cK (edT g9 rfl) rfl ?_)
     exact ⟨t1,t2,t5,(eL g9),h2,trivial⟩
    ·
     refine aQ (edF g9 rfl) (bD t2 h2 (aQ (edF g9 rfl) (aX rfl h2 rfl rfl (aQ (edF g9 rfl) (aC t1 (aQ (edF g9 rfl) (bO (i:=s) (@rfl V (aA m.ot)) (@rfl V (iV ((s:Nat):Int))) (by omega) rfl ?_)))))))
     refine aQ (edF g9 rfl) (aK rfl rfl (aQ (edF g9 rfl) (aC t5 (aQ (edF g9 rfl) (bO (i:=k) (@rfl V (aM ((nth (m.ot) (s))))) (@rfl V (iV ((k:Nat):Int))) (by omega) rfl (aQ (edF g9 rfl) (aK rfl rfl ?_)))))))
     refine aQ (edF g9 rfl) (jO rfl rfl (cG (edF g9 rfl) rfl ?_))
     exact ⟨t1,t2,t5,(eQ g9),h2,trivial⟩
   intro T H ⟨t1,t2,t5,t76,h2,_⟩
   exact fM ⟨t1,t2,t5,t76,h2,trivial⟩
  intro T H ⟨t1,t2,t5,t76,h2,_⟩
  refine lD t76 (fun c10=>?_) fun c10=>?_
  ·
   refine W_r (aC rfl (R_e (bS (y6 _ _ (p24 _ _ (y3 _ _ ?_))))))
   refine cC (@rfl V (iV (2:Int))) (aV ?_)
   · rw [hc,uR (by unfold sY; split <;> omega) (by omega)]; unfold sY; split <;> omega
  refine fQ (n6 _ _ (.done (W_t (aC t5 (bJ rfl (@rfl V (iV ((1:Nat):Int))) (by omega) (aC rfl (R_e ?_)))))))
  refine p14 _ _ _ ?_ ⟨(k+1),rfl,t1,t2,(Eq.trans (@rfl V (iV ((k+1:Nat):Int))) (by first|rfl|simp)),h2,?_,?_,?_⟩
  · omega
  · omega
  · omega
  · rw [hc,tC (by unfold sY; split <;> omega) (by omega)]
 refine aW (p34 _ _ _ (x3 _ _ (.done (W_r (aC rfl (R_e (bS ?_)))))))
 refine cC (@rfl V (iV (0:Int))) (aV ?_)
 · rw [hc,zY (by omega)]
theorem mH (m:M):bE Tryz.prog 32 [(V.agg [(iV (m.i)),(iV (m.s)),(aA m.nx),(aA m.ot)])] (iV (aZ m)):=by
 refine pW Tryz.func32 aKT fun hB=>?_
 unfold s32
 dsimp only
 refine W_r (eR (i:=1) (n:=0) (m:=4) (cs:=[(iV (m.i)),(iV (m.s)),(aA m.nx),(aA m.ot)]) rfl (congrArg Blk.ver rfl) rfl rfl rfl (aC rfl (R_e (aE (W_r (bD rfl rfl (aX rfl rfl rfl rfl ?_)))))))
 refine bU rfl rfl (aC rfl ?_)
 refine cF 4 (fun T H=>T 1=(V.mp 1 1 0 0)∧T 12=(V.bool (decide (((m.i) < (1:Int))∨((64:Int) < (m.i)))))∧H 1=(bk 1 24 4 [[(iV (m.i)),(iV (m.s)),(aA m.nx),(aA m.ot)]])∧True) ?_ ?_
 ·
  by_cases g1:(m.i) < (1:Int)
  ·
   refine G_n (edT g1 rfl) (G_n (edT g1 rfl) (G_n (edT g1 rfl) (cK (edT g1 rfl) rfl ?_)))
   exact ⟨rfl,(eL g1),rfl,trivial⟩
  ·
   refine aQ (edF g1 rfl) (bD rfl rfl (aQ (edF g1 rfl) (aX rfl rfl rfl rfl (aQ (edF g1 rfl) (jO rfl rfl (cG (edF g1 rfl) rfl ?_))))))
   exact ⟨rfl,(eQ g1),rfl,trivial⟩
 intro T H ⟨t1,t12,h1,_⟩
 refine R_e ?_
 refine aP t12 (fun c2=>?_) fun c2=>?_
 ·
  refine aE (W_r (aC rfl (R_e (bF ?_))))
  refine cC (@rfl V (iV (2:Int))) (aV ?_)
  · rw [aZ,if_pos (by omega)]
 refine aJ (aE (W_r (bD t1 h1 (aX rfl h1 rfl rfl (bR rfl (jY rfl rfl (R_e ?_)))))))
 refine aP rfl (fun c3=>?_) fun c3=>?_
 ·
  refine aE (W_r (aC rfl (R_e (bF ?_))))
  refine cC (@rfl V (iV (19:Int))) (aV ?_)
  · rw [aZ,if_neg (by omega),if_pos (by omega)]
 refine aJ (aE (W_r (bD t1 h1 (aX rfl h1 rfl rfl (bR rfl (jO rfl rfl (R_e ?_)))))))
 refine aP rfl (fun c4=>?_) fun c4=>?_
 ·
  refine aE (W_r (aC rfl (R_e (bF ?_))))
  refine cC (@rfl V (iV (11:Int))) (aV ?_)
  · rw [aZ,if_neg (by omega),if_neg (by omega),if_pos (by omega)]
 refine aJ (aE (W_r (bD t1 h1 (aX rfl h1 rfl rfl (bU rfl rfl (aC rfl ?_))))))
 refine cF 7 (fun T H=>T 1=(V.mp 1 1 0 0)∧T 31=(V.bool (decide (((m.s) < (0:Int))∨(((m.nx.length:Nat):Int)≤(m.s)))))∧H 1=(bk 1 24 4 [[(iV (m.i)),(iV (m.s)),(aA m.nx),(aA m.ot)]])∧True) ?_ ?_
 ·
  by_cases g5:(m.s) < (0:Int)
  ·
   refine G_n (edT g5 rfl) (G_n (edT g5 rfl) (G_n (edT g5 rfl) (G_n (edT g5 rfl) (G_n (edT g5 rfl) (G_n (edT g5 rfl) (cK (edT g5 rfl) rfl ?_))))))
   exact ⟨t1,(eL g5),h1,trivial⟩
  ·
   refine aQ (edF g5 rfl) (bD t1 h1 (aQ (edF g5 rfl) (aX rfl h1 rfl rfl (aQ (edF g5 rfl) (bD t1 h1 (aQ (edF g5 rfl) (aX rfl h1 rfl rfl ?_)))))))
   refine aQ (edF g5 rfl) (bR rfl (aQ (edF g5 rfl) (xR rfl rfl (cG (edF g5 rfl) rfl ?_))))
   exact ⟨t1,(eQ g5),h1,trivial⟩
 intro T H ⟨t1,t31,h1,_⟩
 refine R_e ?_
 refine aP t31 (fun c6=>?_) fun c6=>?_
 ·
  refine aE (W_r (aC rfl (R_e (bF ?_))))
  refine cC (@rfl V (iV (2:Int))) (aV ?_)
  · rw [aZ,if_neg (by omega),if_neg (by omega),if_neg (by omega),if_pos (by omega)]
 refine aJ (aE (W_r (bD t1 h1 (aX rfl h1 rfl rfl (bR rfl (bD t1 h1 (aX rfl h1 rfl rfl ?_)))))))
 refine bR rfl (eV rfl rfl (R_e ?_))
 refine aP rfl (fun c7=>?_) fun c7=>?_
 ·
  refine aE (W_r (aC rfl (R_e (bF ?_))))
  refine cC (@rfl V (iV (1:Int))) (aV ?_)
  · rw [aZ,if_neg (by omega),if_neg (by omega),if_neg (by omega),if_neg (by omega),if_pos (by omega)]
 refine aJ (aE (W_r (aC rfl (R_e (aH fun Q8 n8 x8 y8 z8=>?_)))))
 refine bW (fun mm T H=> ∃ (k:Nat),mm=m.nx.length - k∧T 1=(V.mp 1 1 0 0)∧T 3=(iV ((k:Nat):Int))∧H 1=(bk 1 24 4 [[(iV (m.i)),(iV (m.s)),(aA m.nx),(aA m.ot)]])∧(k≤m.nx.length)∧(1≤m.i∧m.i≤64∧0 < m.nx.length∧m.nx.length≤128∧m.ot.length=m.nx.length)∧(aZ m=fe (nJ m) k (m.nx.length - k))) ?_ ?_
 ·
  refine ⟨_,0,rfl,t1,(Eq.trans (@rfl V (iV (0:Int))) rfl),h1,?_,?_,?_⟩
  · omega
  · omega
  · rw [aZ,if_neg (by omega),if_neg (by omega),if_neg (by omega),if_neg (by omega),if_neg (by omega)]; rfl
 intro mm T H ⟨k,hmm,t1,t3,h1,hk,hv,hc⟩ Q9 p19 p29 p39
 unfold aKi
 refine aE (W_r (aC t3 (bD t1 h1 (aX rfl h1 rfl rfl (bR rfl (bU rfl rfl (R_e ?_)))))))
 refine aP rfl (fun c10=>?_) fun c10=>?_
 ·
  refine aJ (aH fun Q11 n11 x11 y11 z11=>(W_r (aX t1 h1 rfl rfl (aC t3 (bH (aFX m k (by first|omega|assumption) (by first|omega|assumption) (by first|omega|assumption)) rfl (aC rfl (R_e ?_)))))))
  refine W_r (aC rfl (eV rfl rfl (R_e ?_)))
  refine lD rfl (fun c12=>?_) fun c12=>?_
  ·
   refine W_r (aC rfl (aC rfl (R_e (bS (y11 _ _ (p29 _ _ (y8 _ _ ?_)))))))
   refine cC (@rfl V (iV (nJ m k))) (aV ?_)
   · rw [hc,uR (by omega) (by omega)]
  refine fQ (n11 _ _ (.done (W_t (aC t3 (bJ rfl (@rfl V (iV ((1:Nat):Int))) (by omega) (aC rfl (R_e ?_)))))))
  refine p19 _ _ _ ?_ ⟨(k+1),rfl,t1,(Eq.trans (@rfl V (iV ((k+1:Nat):Int))) (by first|rfl|simp)),h1,?_,?_,?_⟩
  · omega
  · omega
  · omega
  · rw [hc,tC (by omega) (by omega)]
 refine aW (p39 _ _ _ (x8 _ _ (.done (W_r (aC rfl (R_e (bS ?_)))))))
 refine cC (@rfl V (iV (0:Int))) (aV ?_)
 · rw [hc,zY (by omega)]
theorem aCw (m:M) (tg:List Int):bE Tryz.prog 11 [(V.agg [(iV (m.i)),(iV (m.s)),(aA m.nx),(aA m.ot)]),(aM tg)] (V.tup [(V.agg [(iV ((lfR m tg).i)),(iV ((lfR m tg).s)),(aA ((lfR m tg).nx)),(aA ((lfR m tg).ot))]),(iV ((cO m tg)))]):=by
 refine pW Tryz.func11 aNd fun hB=>?_
 unfold s11
 dsimp only
 refine W_r (eR (i:=2) (n:=0) (m:=4) (cs:=[(iV (m.i)),(iV (m.s)),(aA m.nx),(aA m.ot)]) rfl (congrArg Blk.ver rfl) rfl rfl rfl (dB (i:=4) (n:=0) (m:=4) rfl (congrArg Blk.ver rfl) rfl (aC rfl (R_e (aE (W_r (aX rfl rfl rfl rfl ?_)))))))
 refine bH (mH m) rfl (aC rfl (R_e (aE (W_r (aC rfl (eV rfl rfl (R_e ?_)))))))
 refine aP rfl (fun c1=>?_) fun c1=>?_
 ·
  have d0:=c1
  have e1:cO m tg=aZ m:=by unfold cO; rw [if_pos d0]
  have e2: ¬cO m tg=0:=by rw [e1]; exact d0
  refine aE (W_r (dO rfl rfl (aC rfl (bC (vs:=[(iV (0:Int)),(iV (0:Int)),V.nilsl,V.nilsl]) (B':=(bk 1 24 4 [[(iV (0:Int)),(iV (0:Int)),V.nilsl,V.nilsl]])) rfl rfl rfl rfl (sB oB rfl rfl rfl rfl rfl) (aC rfl (R_e (bF ?_)))))))
  refine fF (eC (u:=(V.agg [(iV (0:Int)),(iV (0:Int)),V.nilsl,V.nilsl])) rfl (@rfl Blk (bk 1 24 4 [[(iV (0:Int)),(iV (0:Int)),V.nilsl,V.nilsl]])) (lB oB rfl rfl)) (fD (@rfl V (iV (aZ m)))) (dQ (bA (aV ?_) (bA (aV ?_) (bA (dA ?_) (bA (dA ?_) rfl))))) (aV ?_)
  · rw [lfR,if_neg e2]; try rfl
  · rw [lfR,if_neg e2]; try rfl
  · rw [lfR,if_neg e2]; try rfl
  · rw [lfR,if_neg e2]; try rfl
  · exact e1.symm
 have hm:aZ m=0:=by omega
 have mo:=cJ hm
 refine aJ (aE (W_r (aC rfl (bR rfl (bD rfl rfl (aX rfl rfl rfl rfl (bR rfl ?_)))))))
 refine eV rfl rfl (R_e ?_)
 refine aP rfl (fun c2=>?_) fun c2=>?_
 ·
  have d1:tg.length≠m.nx.length:=by have z:=c2; omega
  have e1:cO m tg=1:=by unfold cO; rw [if_neg (by omega),if_pos d1]
  have e2: ¬cO m tg=0:=by rw [e1]; decide
  refine aE (W_r (dO rfl rfl (bC (vs:=[(iV (0:Int)),(iV (0:Int)),V.nilsl,V.nilsl]) (B':=(bk 1 24 4 [[(iV (0:Int)),(iV (0:Int)),V.nilsl,V.nilsl]])) rfl rfl rfl rfl (sB oB rfl rfl rfl rfl rfl) (aC rfl (R_e (bF ?_))))))
  refine fF (eC (u:=(V.agg [(iV (0:Int)),(iV (0:Int)),V.nilsl,V.nilsl])) rfl (@rfl Blk (bk 1 24 4 [[(iV (0:Int)),(iV (0:Int)),V.nilsl,V.nilsl]])) (lB oB rfl rfl)) (fD (@rfl V (iV (1:Int)))) (dQ (bA (aV ?_) (bA (aV ?_) (bA (dA ?_) (bA (dA ?_) rfl))))) (aV ?_)
  · rw [lfR,if_neg e2]; try rfl
  · rw [lfR,if_neg e2]; try rfl
  · rw [lfR,if_neg e2]; try rfl
  · rw [lfR,if_neg e2]; try rfl
  · exact e1.symm
 have ht:tg.length=m.nx.length:=by have z:=c2; omega
 refine aJ (aE (W_r (aC rfl (R_e (aH fun Q3 n3 x3 y3 z3=>?_)))))
 refine bW (fun mm T H=> ∃ (k:Nat),mm=tg.length - k∧T 1=(aM tg)∧T 2=(V.mp 2 1 0 0)∧T 4=(V.mp 4 1 0 0)∧T 7=(iV ((k:Nat):Int))∧H 2=(bk 1 24 4 [[(iV (m.i)),(iV (m.s)),(aA m.nx),(aA m.ot)]])∧H 4=(bk 1 24 4 [[(iV (0:Int)),(iV (0:Int)),V.nilsl,V.nilsl]])∧H 8=(⟨0,false,false,0,0,[]⟩:Blk)∧H 10=(⟨0,false,false,0,0,[]⟩:Blk)∧H 11=(⟨0,false,false,0,0,[]⟩:Blk)∧H 812=(⟨0,false,false,0,0,[]⟩:Blk)∧H 813=(⟨0,false,false,0,0,[]⟩:Blk)∧(k≤tg.length)∧(∀ j,j < k→0≤nth tg j∧nth tg j≤255)) ?_ ?_
 ·
  refine ⟨_,0,rfl,rfl,rfl,rfl,(Eq.trans (@rfl V (iV (0:Int))) rfl),rfl,rfl,rfl,rfl,rfl,rfl,rfl,?_,?_⟩
  · exact Nat.zero_le _
  · intro j hj; omega
 intro mm T H ⟨k,hmm,t1,t2,t4,t7,h2,h4,h8,h10,h11,h812,h813,hk,hc⟩ Q4 p14 p24 p34
 unfold aKj
 refine aE (W_r (aC t7 (aC t1 (bR rfl (bU rfl rfl (R_e ?_))))))
 refine aP rfl (fun c5=>?_) fun c5=>?_
 ·
  refine aJ (aH fun Q6 n6 x6 y6 z6=>(W_r (aC t1 (aC t7 (bO (i:=k) (@rfl V (aM tg)) (@rfl V (iV ((k:Nat):Int))) (by omega) rfl (aK rfl rfl (bU rfl rfl ?_)))))))
  refine aC rfl ?_
  refine cF 6 (fun T H=>T 1=(aM tg)∧T 2=(V.mp 2 1 0 0)∧T 4=(V.mp 4 1 0 0)∧T 7=(iV ((k:Nat):Int))∧T 44=(V.bool (decide ((((nth (tg) (k))) < (0:Int))∨((255:Int) < ((nth (tg) (k)))))))∧H 2=(bk 1 24 4 [[(iV (m.i)),(iV (m.s)),(aA m.nx),(aA m.ot)]])∧H 4=(bk 1 24 4 [[(iV (0:Int)),(iV (0:Int)),V.nilsl,V.nilsl]])∧H 8=(⟨0,false,false,0,0,[]⟩:Blk)∧H 10=(⟨0,false,false,0,0,[]⟩:Blk)∧H 11=(⟨0,false,false,0,0,[]⟩:Blk)∧H 812=(⟨0,false,false,0,0,[]⟩:Blk)∧H 813=(⟨0,false,false,0,0,[]⟩:Blk)∧True) ?_ ?_
  ·
   by_cases g7:((nth (tg) (k))) < (0:Int)
   ·
    refine G_n (edT g7 rfl) (G_n (edT g7 rfl) (G_n (edT g7 rfl) (G_n (edT g7 rfl) (G_n (edT g7 rfl) (cK (edT g7 rfl) rfl ?_)))))
    exact ⟨t1,t2,t4,t7,(eL g7),h2,h4,h8,h10,h11,h812,h813,trivial⟩
   ·
    refine aQ (edF g7 rfl) (aC t1 (aQ (edF g7 rfl) (aC t7 (aQ (edF g7 rfl) (bO (i:=k) (@rfl V (aM tg)) (@rfl V (iV ((k:Nat):Int))) (by omega) rfl (aQ (edF g7 rfl) (aK rfl rfl ?_)))))))
    refine aQ (edF g7 rfl) (jO rfl rfl (cG (edF g7 rfl) rfl ?_))
    exact ⟨t1,t2,t4,t7,(eQ g7),h2,h4,h8,h10,h11,h812,h813,trivial⟩
  intro T H ⟨t1,t2,t4,t7,t44,h2,h4,h8,h10,h11,h812,h813,_⟩
  refine R_e ?_
  refine lD t44 (fun c8=>?_) fun c8=>?_
  ·
   have d5:nth tg k < 0∨255 < nth tg k:=by have z:=c8; first|omega|(simp at z; omega)
   have e1:cO m tg=2:=by unfold cO; rw [if_neg (by omega),if_neg (by omega),if_pos (aJY (k:=k) (by omega) d5)]
   have e2: ¬cO m tg=0:=by rw [e1]; decide
   refine W_r (dO rfl rfl (bC (vs:=[(iV (0:Int)),(iV (0:Int)),V.nilsl,V.nilsl]) (B':=(bk 1 24 4 [[(iV (0:Int)),(iV (0:Int)),V.nilsl,V.nilsl]])) t4 rfl rfl h4 (sB oB rfl rfl rfl rfl rfl) (aC rfl (R_e (bS (y6 _ _ (p24 _ _ ?_)))))))
   refine y3 _ _ ?_
   refine fF (eC (u:=(V.agg [(iV (0:Int)),(iV (0:Int)),V.nilsl,V.nilsl])) t4 (@rfl Blk (bk 1 24 4 [[(iV (0:Int)),(iV (0:Int)),V.nilsl,V.nilsl]])) (lB oB rfl rfl)) (fD (@rfl V (iV (2:Int)))) (dQ (bA (aV ?_) (bA (aV ?_) (bA (dA ?_) (bA (dA ?_) rfl))))) (aV ?_)
   · rw [lfR,if_neg e2]; try rfl
   · rw [lfR,if_neg e2]; try rfl
   · rw [lfR,if_neg e2]; try rfl
   · rw [lfR,if_neg e2]; try rfl
   · exact e1.symm
  have d5:0≤nth tg k∧nth tg k≤255:=by have z:=c8; first|omega|(simp at z; omega)
  refine fQ (n6 _ _ (.done (W_t (aC t7 (bJ rfl (@rfl V (iV ((1:Nat):Int))) (by omega) (aC rfl (R_e ?_)))))))
  refine p14 _ _ _ ?_ ⟨(k+1),rfl,t1,t2,t4,(Eq.trans (@rfl V (iV ((k+1:Nat):Int))) (by first|rfl|simp)),h2,h4,h8,h10,h11,h812,h813,?_,?_⟩
  · omega
  · omega
  · intro j hj
    by_cases e:j=k
    · subst e; exact d5
    · exact hc j (by omega)
 have hr: ∀ k,k < tg.length→0≤nth tg k∧nth tg k≤255:=fun j hj=>hc j (by omega)
 have e0:=aDO hm ht (aKa hr)
 refine aW (p34 _ _ _ (x3 _ _ (.done (W_r (bD t2 h2 (aX rfl h2 rfl rfl (bD t2 h2 ?_)))))))
 refine aX rfl h2 rfl rfl (dO rfl rfl (dB (i:=8) (n:=0) (m:=4) rfl (congrArg Blk.ver h8) rfl (bC (vs:=[(iV (m.i)),(iV (m.s)),V.nilsl,V.nilsl]) (B':=(bk 1 24 4 [[(iV (m.i)),(iV (m.s)),V.nilsl,V.nilsl]])) rfl rfl rfl rfl (sB oB rfl rfl rfl rfl rfl) (R_e (aE ?_)))))
 refine gR (fun T H=>T 1=(aM tg)∧T 2=(V.mp 2 1 0 0)∧T 4=(V.mp 4 1 0 0)∧T 8=(V.mp 8 1 0 0)∧T 9=(iV (0:Int))∧H 2=(bk 1 24 4 [[(iV (m.i)),(iV (m.s)),(aA m.nx),(aA m.ot)]])∧H 4=(bk 1 24 4 [[(iV (0:Int)),(iV (0:Int)),V.nilsl,V.nilsl]])∧H 8=(bk 1 24 4 [[(iV (m.i)),(iV (m.s)),V.nilsl,V.nilsl]])∧H 10=(⟨0,false,false,0,0,[]⟩:Blk)∧H 11=(⟨0,false,false,0,0,[]⟩:Blk)∧H 812=(⟨0,false,false,0,0,[]⟩:Blk)∧H 813=(⟨0,false,false,0,0,[]⟩:Blk)∧True) ?_ ?_
 ·
  refine aC rfl ?_
  exact fM ⟨t1,t2,t4,rfl,rfl,h2,h4,rfl,h10,h11,h812,h813,trivial⟩
 intro T H ⟨t1,t2,t4,t8,t9,h2,h4,h8,h10,h11,h812,h813,_⟩
 refine .lazyCell 812 25 1 8 0 2 [(iV (m.i)),(iV (m.s)),V.nilsl,V.nilsl] (by decide) (by rw [h8]; rfl) (by rw [h8]; rfl) rfl (bQ (R:=fun T H=>T 1=(aM tg)∧T 2=(V.mp 2 1 0 0)∧T 4=(V.mp 4 1 0 0)∧T 8=(V.mp 8 1 0 0)∧T 9=(iV (0:Int))∧H 2=(bk 1 24 4 [[(iV (m.i)),(iV (m.s)),(aA m.nx),(aA m.ot)]])∧H 4=(bk 1 24 4 [[(iV (0:Int)),(iV (0:Int)),V.nilsl,V.nilsl]])∧H 8=(bk 1 24 4 [[(iV (m.i)),(iV (m.s)),(V.ms 812 1 0 (0)),V.nilsl]])∧H 10=(⟨0,false,false,0,0,[]⟩:Blk)∧H 11=(⟨0,false,false,0,0,[]⟩:Blk)∧H 812=(bz 1 25 1 [])∧H 813=(⟨0,false,false,0,0,[]⟩:Blk)∧True) ⟨t1,t2,t4,t8,t9,((aD _ _ (by decide)).trans ((aD _ _ (by decide)).trans h2)),((aD _ _ (by decide)).trans ((aD _ _ (by decide)).trans h4)),(by rw [aG,h8,(congrArg Blk.ver h812)]; rfl),((aD _ _ (by decide)).trans ((aD _ _ (by decide)).trans h10)),((aD _ _ (by decide)).trans ((aD _ _ (by decide)).trans h11)),(by rw [aD _ _ (by decide),aG,(congrArg Blk.ver h812)]),((aD _ _ (by decide)).trans ((aD _ _ (by decide)).trans h813)),trivial⟩ ?_)
 intro T H ⟨t1,t2,t4,t8,t9,h2,h4,h8,h10,h11,h812,h813,_⟩
 refine .lazyCell 813 25 1 8 0 3 [(iV (m.i)),(iV (m.s)),(V.ms 812 1 0 (0)),V.nilsl] (by decide) (by rw [h8]; rfl) (by rw [h8]; rfl) rfl (.done ?_)
 refine bQ (R:=fun T H=>T 1=(aM tg)∧T 2=(V.mp 2 1 0 0)∧T 4=(V.mp 4 1 0 0)∧T 8=(V.mp 8 1 0 0)∧T 9=(iV (0:Int))∧H 2=(bk 1 24 4 [[(iV (m.i)),(iV (m.s)),(aA m.nx),(aA m.ot)]])∧H 4=(bk 1 24 4 [[(iV (0:Int)),(iV (0:Int)),V.nilsl,V.nilsl]])∧H 8=(bk 1 24 4 [[(iV (m.i)),(iV (m.s)),(V.ms 812 1 0 (0)),(V.ms 813 1 0 (0))]])∧H 10=(⟨0,false,false,0,0,[]⟩:Blk)∧H 11=(⟨0,false,false,0,0,[]⟩:Blk)∧H 812=(bz 1 25 1 [])∧H 813=(bz 1 25 1 [])∧True) ⟨t1,t2,t4,t8,t9,((aD _ _ (by decide)).trans ((aD _ _ (by decide)).trans h2)),((aD _ _ (by decide)).trans ((aD _ _ (by decide)).trans h4)),(by rw [aG,h8,(congrArg Blk.ver h813)]; rfl),((aD _ _ (by decide)).trans ((aD _ _ (by decide)).trans h10)),((aD _ _ (by decide)).trans ((aD _ _ (by decide)).trans h11)),((aD _ _ (by decide)).trans ((aD _ _ (by decide)).trans h812)),(by rw [aD _ _ (by decide),aG,(congrArg Blk.ver h813)]),trivial⟩ ?_
 intro T H ⟨t1,t2,t4,t8,t9,h2,h4,h8,h10,h11,h812,h813,_⟩
 refine aH fun Q9 n9 x9 y9 z9=>?_
 refine bW (fun mm T H=> ∃ (k:Nat) (v:Nat) (w:Nat) (v10:Nat) (v11:Nat),mm=m.nx.length - k∧T 1=(aM tg)∧T 2=(V.mp 2 1 0 0)∧T 4=(V.mp 4 1 0 0)∧T 8=(V.mp 8 1 0 0)∧T 9=(iV ((k:Nat):Int))∧H 2=(bk 1 24 4 [[(iV (m.i)),(iV (m.s)),(aA m.nx),(aA m.ot)]])∧H 4=(bk 1 24 4 [[(iV (0:Int)),(iV (0:Int)),V.nilsl,V.nilsl]])∧H 8=(bk 1 24 4 [[(iV (m.i)),(iV (m.s)),(V.ms 812 v 0 (k)),(V.ms 813 w 0 (k))]])∧((H 10).ver=v10∧(H 10).live=false)∧((H 11).ver=v11∧(H 11).live=false)∧H 812=(bz v 25 1 (List.map cL (tbl (nth m.nx) k)))∧H 813=(bz w 25 1 (List.map cL (tbl (gX m tg) k)))∧(k≤m.nx.length)∧(∀ s,s < k→ ∀ a,a < m.i.toNat→ ¬1048576 < LfA m tg s a)) ?_ ?_
 ·
  refine ⟨_,0,1,1,0,0,rfl,t1,t2,t4,t8,(Eq.trans t9 rfl),h2,h4,h8,⟨(congrArg Blk.ver h10),congrArg Blk.live h10⟩,⟨(congrArg Blk.ver h11),congrArg Blk.live h11⟩,(Eq.trans h812 (by first|rfl|(rw [aB]; first|done|rfl)|(rw [aB,List.map_append]; first|done|rfl)|(rw [aB,ej]; first|done|rfl)|(rw [aB,eo]; first|done|rfl)|(rw [aB,List.map_append,ej]; first|done|rfl)|(rw [aB,List.map_append,eo]; first|done|rfl)|(simp; done))),(Eq.trans h813 (by first|rfl|(rw [aB]; first|done|rfl)|(rw [aB,List.map_append]; first|done|rfl)|(rw [aB,ej]; first|done|rfl)|(rw [aB,eo]; first|done|rfl)|(rw [aB,List.map_append,ej]; first|done|rfl)|(rw [aB,List.map_append,eo]; first|done|rfl)|(simp; done))),?_,?_⟩
  · exact Nat.zero_le _
  · intro s hs; omega
 intro mm T H ⟨k,v,w,v10,v11,hmm,t1,t2,t4,t8,t9,h2,h4,h8,h10,h11,h812,h813,hk,hb⟩ Q10 p110 p210 p310
 unfold aKw
 refine aE (W_r (aC t9 (bD t2 h2 (aX rfl h2 rfl rfl (bR rfl (bU rfl rfl (R_e ?_)))))))
 refine aP rfl (fun c11=>?_) fun c11=>?_
 ·
  have rr:=mo.2.2.2.2.2.2.2 k (by omega)
  refine aJ (aH fun Q12 n12 x12 y12 z12=>(W_r (eS (i:=10) (n:=v10) rfl (h10).1 (eS (i:=11) (n:=v11) rfl (h11).1 (R_e (aE (W_r ?_)))))))
  refine aC rfl (R_e (aH fun Q13 n13 x13 y13 z13=>?_))
  refine bW (fun mm T H=> ∃ (j:Nat) (v2:Nat) (w2:Nat),mm=m.i.toNat - j∧T 1=(aM tg)∧T 2=(V.mp 2 1 0 0)∧T 4=(V.mp 4 1 0 0)∧T 8=(V.mp 8 1 0 0)∧T 9=(iV ((k:Nat):Int))∧T 10=(V.ms 10 v2 0 (j))∧T 11=(V.ms 11 w2 0 (j))∧T 12=(iV ((j:Nat):Int))∧H 2=(bk 1 24 4 [[(iV (m.i)),(iV (m.s)),(aA m.nx),(aA m.ot)]])∧H 4=(bk 1 24 4 [[(iV (0:Int)),(iV (0:Int)),V.nilsl,V.nilsl]])∧H 8=(bk 1 24 4 [[(iV (m.i)),(iV (m.s)),(V.ms 812 v 0 (k)),(V.ms 813 w 0 (k))]])∧H 10=(bz v2 3 1 (List.map cI (tbl (nth (nth m.nx k)) j)))∧H 11=(bz w2 3 1 (List.map cI (tbl (LfA m tg k) j)))∧H 812=(bz v 25 1 (List.map cL (tbl (nth m.nx) k)))∧H 813=(bz w 25 1 (List.map cL (tbl (gX m tg) k)))∧(j≤m.i.toNat)∧(∀ a,a < j→ ¬1048576 < LfA m tg k a)) ?_ ?_
  ·
   refine ⟨_,0,(v10+1),(v11+1),rfl,t1,t2,t4,t8,t9,(Eq.trans (@rfl V (V.ms 10 (v10+1) 0 (0))) (by first|rfl|simp)),(Eq.trans (@rfl V (V.ms 11 (v11+1) 0 (0))) (by first|rfl|simp)),(Eq.trans (@rfl V (iV (0:Int))) rfl),h2,h4,h8,(Eq.trans (@rfl Blk (bz (v10+1) 3 1 [])) (by first|rfl|(rw [aB]; first|done|rfl)|(rw [aB,List.map_append]; first|done|rfl)|(rw [aB,ej]; first|done|rfl)|(rw [aB,eo]; first|done|rfl)|(rw [aB,List.map_append,ej]; first|done|rfl)|(rw [aB,List.map_append,eo]; first|done|rfl)|(simp; done))),(Eq.trans (@rfl Blk (bz (v11+1) 3 1 [])) (by first|rfl|(rw [aB]; first|done|rfl)|(rw [aB,List.map_append]; first|done|rfl)|(rw [aB,ej]; first|done|rfl)|(rw [aB,eo]; first|done|rfl)|(rw [aB,List.map_append,ej]; first|done|rfl)|(rw [aB,List.map_append,eo]; first|done|rfl)|(simp; done))),h812,h813,?_,?_⟩
   · exact Nat.zero_le _
   · intro a ha; omega
  intro mm T H ⟨j,v2,w2,hmm,t1,t2,t4,t8,t9,t10,t11,t12,h2,h4,h8,h10,h11,h812,h813,hj,hb2⟩ Q14 p114 p214 p314
  unfold aJX
  refine aE (W_r (aC t12 (bD t2 h2 (aX rfl h2 rfl rfl (bU rfl rfl (R_e ?_))))))
  refine aP rfl (fun c15=>?_) fun c15=>?_
  ·
   have rj:=rr.2.2 j (by omega)
   have tj:=hr (nth (nth m.nx k) j).toNat (by omega)
   refine aJ (aH fun Q16 n16 x16 y16 z16=>(W_r (bD t2 h2 (aX rfl h2 rfl rfl (aC t9 (bO (i:=k) (@rfl V (aA m.ot)) (@rfl V (iV ((k:Nat):Int))) (by omega) rfl (aK rfl rfl ?_)))))))
   refine aC t12 (bO (i:=j) (@rfl V (aM ((nth (m.ot) (k))))) (@rfl V (iV ((j:Nat):Int))) (by omega) rfl (aK rfl rfl (aKI rfl rfl (by omega) (by omega) (aC t1 (bD t2 h2 (aX rfl h2 rfl rfl (aC t9 ?_)))))))
   refine bO (i:=k) (@rfl V (aA m.nx)) (@rfl V (iV ((k:Nat):Int))) (by omega) rfl (aK rfl rfl (aC t12 (bO (i:=j) (@rfl V (aM ((nth (m.nx) (k))))) (@rfl V (iV ((j:Nat):Int))) (by omega) rfl (aK rfl rfl (eT (i:=((nth ((nth (m.nx) (k))) (j)))) (@rfl V (aM tg)) (@rfl V (iV ((nth ((nth (m.nx) (k))) (j))))) (by omega) (by omega) rfl (aK rfl rfl (aDT rfl rfl (by omega) (by omega) ?_)))))))
   refine aC rfl (R_e (aE (W_r (aC rfl (jO rfl rfl (R_e ?_))))))
   refine aP rfl (fun c17=>?_) fun c17=>?_
   ·
    have d9:1048576 < LfA m tg k j:=c17
    have e1:cO m tg=11:=by rw [e0,if_pos (aOW (s:=k) (a:=j) (by omega) (by omega) d9)]
    have e2: ¬cO m tg=0:=by rw [e1]; decide
    refine aE (W_r (dO rfl rfl (bC (vs:=[(iV (0:Int)),(iV (0:Int)),V.nilsl,V.nilsl]) (B':=(bk 1 24 4 [[(iV (0:Int)),(iV (0:Int)),V.nilsl,V.nilsl]])) t4 rfl rfl h4 (sB oB rfl rfl rfl rfl rfl) (aC rfl (R_e (bF (y16 _ _ ?_)))))))
    refine p214 _ _ (y13 _ _ (y12 _ _ (p210 _ _ (y9 _ _ ?_))))
    refine fF (eC (u:=(V.agg [(iV (0:Int)),(iV (0:Int)),V.nilsl,V.nilsl])) t4 (@rfl Blk (bk 1 24 4 [[(iV (0:Int)),(iV (0:Int)),V.nilsl,V.nilsl]])) (lB oB rfl rfl)) (fD (@rfl V (iV (11:Int)))) (dQ (bA (aV ?_) (bA (aV ?_) (bA (dA ?_) (bA (dA ?_) rfl))))) (aV ?_)
    · rw [lfR,if_neg e2]; try rfl
    · rw [lfR,if_neg e2]; try rfl
    · rw [lfR,if_neg e2]; try rfl
    · rw [lfR,if_neg e2]; try rfl
    · exact e1.symm
   have d9: ¬1048576 < LfA m tg k j:=c17
   refine aJ (W_r (aC t10 (bD t2 h2 (aX rfl h2 rfl rfl (aC t9 (bO (i:=k) (@rfl V (aA m.nx)) (@rfl V (iV ((k:Nat):Int))) (by omega) rfl (aK rfl rfl ?_)))))))
   refine aC t12 (bO (i:=j) (@rfl V (aM ((nth (m.nx) (k))))) (@rfl V (iV ((j:Nat):Int))) (by omega) rfl (aK rfl rfl (bZ rfl rfl (cA (l:=(tbl (nth (nth m.nx k)) j)) (f:=cI) (x:=(((nth ((nth (m.nx) (k))) (j))))) (@rfl V (V.ms 10 v2 0 (j))) h10 (by first|rfl|exact (aL _ _).symm|simp|omega) (@rfl V (V.sl [[(iV ((nth ((nth (m.nx) (k))) (j))))]])) rfl rfl (by omega) (by omega) (aC rfl (R_e ?_))))))
   refine aCL (fun T H=>T 1=(aM tg)∧T 2=(V.mp 2 1 0 0)∧T 4=(V.mp 4 1 0 0)∧T 8=(V.mp 8 1 0 0)∧T 9=(iV ((k:Nat):Int))∧T 10=(V.ms 10 (v2+1) 0 (j+1))∧T 11=(V.ms 11 (w2+1) 0 (j+1))∧T 12=(iV ((j:Nat):Int))∧H 2=(bk 1 24 4 [[(iV (m.i)),(iV (m.s)),(aA m.nx),(aA m.ot)]])∧H 4=(bk 1 24 4 [[(iV (0:Int)),(iV (0:Int)),V.nilsl,V.nilsl]])∧H 8=(bk 1 24 4 [[(iV (m.i)),(iV (m.s)),(V.ms 812 v 0 (k)),(V.ms 813 w 0 (k))]])∧H 10=(bz (v2+1) 3 1 (List.map cI (tbl (nth (nth m.nx k)) j++[((nth ((nth (m.nx) (k))) (j)))])))∧H 11=(bz (w2+1) 3 1 (List.map cI (tbl (LfA m tg k) j++[(((256:Int)*((nth ((nth (m.ot) (k))) (j))))+((nth (tg) ((nth ((nth (m.nx) (k))) (j))).toNat)))])))∧H 812=(bz v 25 1 (List.map cL (tbl (nth m.nx) k)))∧H 813=(bz w 25 1 (List.map cL (tbl (gX m tg) k)))∧True) ?_ ?_
   ·
    refine aC t11 (aC rfl (bZ rfl rfl (cA (l:=(tbl (LfA m tg k) j)) (f:=cI) (x:=((((256:Int)*((nth ((nth (m.ot) (k))) (j))))+((nth (tg) ((nth ((nth (m.nx) (k))) (j))).toNat))))) (@rfl V (V.ms 11 w2 0 (j))) h11 (by first|rfl|exact (aL _ _).symm|simp|omega) (@rfl V (V.sl [[(iV (((256:Int)*((nth ((nth (m.ot) (k))) (j))))+((nth (tg) ((nth ((nth (m.nx) (k))) (j))).toNat))))]])) rfl rfl (by omega) (by omega) (aC rfl ?_))))
    exact fM ⟨t1,t2,t4,t8,t9,rfl,rfl,t12,h2,h4,h8,rfl,rfl,h812,h813,trivial⟩
   intro T H ⟨t1,t2,t4,t8,t9,t10,t11,t12,h2,h4,h8,h10,h11,h812,h813,_⟩
   refine n16 _ _ (.done (W_t (aC t12 (bJ rfl (@rfl V (iV ((1:Nat):Int))) (by omega) (aC rfl (R_e ?_))))))
   refine p114 _ _ _ ?_ ⟨(j+1),(v2+1),(w2+1),rfl,t1,t2,t4,t8,t9,(Eq.trans t10 (by first|rfl|simp)),(Eq.trans t11 (by first|rfl|simp)),(Eq.trans (@rfl V (iV ((j+1:Nat):Int))) (by first|rfl|simp)),h2,h4,h8,(Eq.trans h10 (by first|rfl|(rw [aB]; first|done|rfl)|(rw [aB,List.map_append]; first|done|rfl)|(rw [aB,ej]; first|done|rfl)|(rw [aB,eo]; first|done|rfl)|(rw [aB,List.map_append,ej]; first|done|rfl)|(rw [aB,List.map_append,eo]; first|done|rfl)|(simp; done))),(Eq.trans h11 (by first|rfl|(rw [aB]; first|done|rfl)|(rw [aB,List.map_append]; first|done|rfl)|(rw [aB,ej]; first|done|rfl)|(rw [aB,eo]; first|done|rfl)|(rw [aB,List.map_append,ej]; first|done|rfl)|(rw [aB,List.map_append,eo]; first|done|rfl)|(simp; done))),h812,h813,?_,?_⟩
   · omega
   · omega
   · intro a ha
     by_cases e:a=j
     · subst e; exact d9
     · exact hb2 a (by omega)
  have ej:tbl (nth (nth m.nx k)) j=nth m.nx k:=qB (by omega)
  have eo:gX m tg k=tbl (LfA m tg k) j:=by unfold gX; rw [show m.i.toNat=j by omega]
  refine aW (p314 _ _ _ (x13 _ _ (bQ (R:=fun T H=>T 1=(aM tg)∧T 2=(V.mp 2 1 0 0)∧T 4=(V.mp 4 1 0 0)∧T 8=(V.mp 8 1 0 0)∧T 9=(iV ((k:Nat):Int))∧T 10=(V.ms 10 v2 0 (j))∧T 11=(V.ms 11 w2 0 (j))∧T 12=(iV ((j:Nat):Int))∧T 61=(V.bool (decide (((j:Nat):Int) < (m.i))))∧H 2=(bk 1 24 4 [[(iV (m.i)),(iV (m.s)),(aA m.nx),(aA m.ot)]])∧H 4=(bk 1 24 4 [[(iV (0:Int)),(iV (0:Int)),V.nilsl,V.nilsl]])∧H 8=(bk 1 24 4 [[(iV (m.i)),(iV (m.s)),(V.ms 812 v 0 (k)),(V.ms 813 w 0 (k))]])∧H 10=(bz v2 3 1 (List.map cI (tbl (nth (nth m.nx k)) j)))∧H 11=(bz w2 3 1 (List.map cI (tbl (LfA m tg k) j)))∧H 812=(bz v 25 1 (List.map cL (tbl (nth m.nx) k)))∧H 813=(bz w 25 1 (List.map cL (tbl (gX m tg) k)))∧True) ⟨t1,t2,t4,t8,t9,t10,t11,t12,(@rfl V (V.bool (decide (((j:Nat):Int) < (m.i))))),h2,h4,h8,h10,h11,h812,h813,trivial⟩ ?_)))
  intro T H ⟨t1,t2,t4,t8,t9,t10,t11,t12,t61,h2,h4,h8,h10,h11,h812,h813,_⟩
  refine .freeze 10 (.done ?_)
  refine bQ (R:=fun T H=>T 1=(aM tg)∧T 2=(V.mp 2 1 0 0)∧T 4=(V.mp 4 1 0 0)∧T 8=(V.mp 8 1 0 0)∧T 9=(iV ((k:Nat):Int))∧T 10=(aM (tbl (nth (nth m.nx k)) j))∧T 11=(V.ms 11 w2 0 (j))∧T 12=(iV ((j:Nat):Int))∧T 61=(V.bool (decide (((j:Nat):Int) < (m.i))))∧H 2=(bk 1 24 4 [[(iV (m.i)),(iV (m.s)),(aA m.nx),(aA m.ot)]])∧H 4=(bk 1 24 4 [[(iV (0:Int)),(iV (0:Int)),V.nilsl,V.nilsl]])∧H 8=(bk 1 24 4 [[(iV (m.i)),(iV (m.s)),(V.ms 812 v 0 (k)),(V.ms 813 w 0 (k))]])∧((H 10).ver=v2∧(H 10).live=false)∧H 11=(bz w2 3 1 (List.map cI (tbl (LfA m tg k) j)))∧H 812=(bz v 25 1 (List.map cL (tbl (nth m.nx) k)))∧H 813=(bz w 25 1 (List.map cL (tbl (gX m tg) k)))∧True) ⟨(aO t1 rfl),(aO t2 rfl),(aO t4 rfl),(aO t8 rfl),(aO t9 rfl),(aO t10 (gE h10 (by first|rfl|simp) (l:=(tbl (nth (nth m.nx k)) j)) rfl (by first|rfl|exact (aL _ _).symm|simp|omega))),(aO t11 (fW (by decide))),(aO t12 rfl),(aO t61 rfl),(aN h2 (by decide)),(aN h4 (by decide)),(aN h8 (by decide)),(bL (congrArg Blk.ver h10)),(aN h11 (by decide)),(aN h812 (by decide)),(aN h813 (by decide)),trivial⟩ ?_
  intro T H ⟨t1,t2,t4,t8,t9,t10,t11,t12,t61,h2,h4,h8,h10,h11,h812,h813,_⟩
  refine gR (fun T H=>T 1=(aM tg)∧T 2=(V.mp 2 1 0 0)∧T 4=(V.mp 4 1 0 0)∧T 8=(V.mp 8 1 0 0)∧T 9=(iV ((k:Nat):Int))∧T 11=(V.ms 11 w2 0 (j))∧H 2=(bk 1 24 4 [[(iV (m.i)),(iV (m.s)),(aA m.nx),(aA m.ot)]])∧H 4=(bk 1 24 4 [[(iV (0:Int)),(iV (0:Int)),V.nilsl,V.nilsl]])∧H 8=(bk 1 24 4 [[(iV (m.i)),(iV (m.s)),(V.ms 812 (v+1) 0 (k+1)),(V.ms 813 w 0 (k))]])∧((H 10).ver=v2∧(H 10).live=false)∧H 11=(bz w2 3 1 (List.map cI (tbl (LfA m tg k) j)))∧H 812=(bz (v+1) 25 1 (List.map cL (tbl (nth m.nx) k++[tbl (nth (nth m.nx k)) j])))∧H 813=(bz w 25 1 (List.map cL (tbl (gX m tg) k)))∧True) ?_ ?_
  ·
   refine bD t8 h8 (aX rfl h8 rfl rfl (aC t10 (bZ rfl rfl (cA (l:=(tbl (nth m.nx) k)) (f:=cL) (x:=(tbl (nth (nth m.nx k)) j)) (@rfl V (V.ms 812 v 0 (k))) h812 (by first|rfl|exact (aL _ _).symm|simp|omega) (@rfl V (V.sl [[(aM (tbl (nth (nth m.nx k)) j))]])) rfl rfl (by omega) (by omega) (bD t8 h8 (bC (vs:=[(V.ms 812 (v+1) 0 (k+1))]) (B':=(bk 1 24 4 [[(iV (m.i)),(iV (m.s)),(V.ms 812 (v+1) 0 (k+1)),(V.ms 813 w 0 (k))]])) rfl rfl rfl h8 (sB oB rfl rfl rfl rfl rfl) ?_))))))
   exact fM ⟨t1,t2,t4,t8,t9,t11,h2,h4,rfl,h10,h11,rfl,h813,trivial⟩
  intro T H ⟨t1,t2,t4,t8,t9,t11,h2,h4,h8,h10,h11,h812,h813,_⟩
  refine .freeze 11 (.done ?_)
  refine bQ (R:=fun T H=>T 1=(aM tg)∧T 2=(V.mp 2 1 0 0)∧T 4=(V.mp 4 1 0 0)∧T 8=(V.mp 8 1 0 0)∧T 9=(iV ((k:Nat):Int))∧T 11=(aM (tbl (LfA m tg k) j))∧H 2=(bk 1 24 4 [[(iV (m.i)),(iV (m.s)),(aA m.nx),(aA m.ot)]])∧H 4=(bk 1 24 4 [[(iV (0:Int)),(iV (0:Int)),V.nilsl,V.nilsl]])∧H 8=(bk 1 24 4 [[(iV (m.i)),(iV (m.s)),(V.ms 812 (v+1) 0 (k+1)),(V.ms 813 w 0 (k))]])∧((H 10).ver=v2∧(H 10).live=false)∧((H 11).ver=w2∧(H 11).live=false)∧H 812=(bz (v+1) 25 1 (List.map cL (tbl (nth m.nx) k++[tbl (nth (nth m.nx k)) j])))∧H 813=(bz w 25 1 (List.map cL (tbl (gX m tg) k)))∧True) ⟨(aO t1 rfl),(aO t2 rfl),(aO t4 rfl),(aO t8 rfl),(aO t9 rfl),(aO t11 (gE h11 (by first|rfl|simp) (l:=(tbl (LfA m tg k) j)) rfl (by first|rfl|exact (aL _ _).symm|simp|omega))),(aN h2 (by decide)),(aN h4 (by decide)),(aN h8 (by decide)),(bK h10),(bL (congrArg Blk.ver h11)),(aN h812 (by decide)),(aN h813 (by decide)),trivial⟩ ?_
  intro T H ⟨t1,t2,t4,t8,t9,t11,h2,h4,h8,h10,h11,h812,h813,_⟩
  refine W_t (bD t8 h8 (aX rfl h8 rfl rfl (aC t11 (bZ rfl rfl (cA (l:=(tbl (gX m tg) k)) (f:=cL) (x:=(tbl (LfA m tg k) j)) (@rfl V (V.ms 813 w 0 (k))) h813 (by first|rfl|exact (aL _ _).symm|simp|omega) (@rfl V (V.sl [[(aM (tbl (LfA m tg k) j))]])) rfl rfl (by omega) (by omega) (bD t8 h8 (bC (vs:=[(V.ms 813 (w+1) 0 (k+1))]) (B':=(bk 1 24 4 [[(iV (m.i)),(iV (m.s)),(V.ms 812 (v+1) 0 (k+1)),(V.ms 813 (w+1) 0 (k+1))]])) rfl rfl rfl h8 (sB oB rfl rfl rfl rfl rfl) ?_)))))))
  refine R_e (n12 _ _ (.done (W_t (aC t9 (bJ rfl (@rfl V (iV ((1:Nat):Int))) (by omega) (aC rfl (R_e ?_)))))))
  refine p110 _ _ _ ?_ ⟨(k+1),(v+1),(w+1),v2,w2,rfl,t1,t2,t4,t8,(Eq.trans (@rfl V (iV ((k+1:Nat):Int))) (by first|rfl|simp)),h2,h4,(Eq.trans (@rfl Blk (bk 1 24 4 [[(iV (m.i)),(iV (m.s)),(V.ms 812 (v+1) 0 (k+1)),(V.ms 813 (w+1) 0 (k+1))]])) (by first|rfl|(rw [aB]; first|done|rfl)|(rw [aB,List.map_append]; first|done|rfl)|(rw [aB,ej]; first|done|rfl)|(rw [aB,eo]; first|done|rfl)|(rw [aB,List.map_append,ej]; first|done|rfl)|(rw [aB,List.map_append,eo]; first|done|rfl)|(simp; done))),h10,h11,(Eq.trans h812 (by first|rfl|(rw [aB]; first|done|rfl)|(rw [aB,List.map_append]; first|done|rfl)|(rw [aB,ej]; first|done|rfl)|(rw [aB,eo]; first|done|rfl)|(rw [aB,List.map_append,ej]; first|done|rfl)|(rw [aB,List.map_append,eo]; first|done|rfl)|(simp; done))),(Eq.trans (@rfl Blk (bz (w+1) 25 1 (List.map cL (tbl (gX m tg) k++[tbl (LfA m tg k) j])))) (by first|rfl|(rw [aB]; first|done|rfl)|(rw [aB,List.map_append]; first|done|rfl)|(rw [aB,ej]; first|done|rfl)|(rw [aB,eo]; first|done|rfl)|(rw [aB,List.map_append,ej]; first|done|rfl)|(rw [aB,List.map_append,eo]; first|done|rfl)|(simp; done))),?_,?_⟩
  · omega
  · omega
  · intro s hs a ha
    by_cases e:s=k
    · subst e; exact hb2 a (by omega)
    · exact hb s (by omega) a ha
 have ek:k=m.nx.length:=by omega
 have e9t:=qB (l:=m.nx) ek.symm
 have e3:cO m tg=0:=by rw [e0,aPB (fun s hs a ha=>hb s (by omega) a ha)]; rfl
 refine aW (p310 _ _ _ (x9 _ _ (.done (W_r (aX t8 h8 rfl rfl (bC (vs:=[(iV (m.i)),(iV (m.s)),(V.ms 812 v 0 (k)),(V.ms 813 w 0 (k))]) (B':=(bk 1 24 4 [[(iV (m.i)),(iV (m.s)),(V.ms 812 v 0 (k)),(V.ms 813 w 0 (k))]])) t4 rfl rfl h4 (sB oB rfl rfl rfl rfl rfl) (aC rfl ?_)))))))
 refine R_e (bS ?_)
 refine fF (eC (u:=(V.agg [(iV (m.i)),(iV (m.s)),(V.ms 812 v 0 (k)),(V.ms 813 w 0 (k))])) t4 (@rfl Blk (bk 1 24 4 [[(iV (m.i)),(iV (m.s)),(V.ms 812 v 0 (k)),(V.ms 813 w 0 (k))]])) (lB oB rfl rfl)) (fD (@rfl V (iV (0:Int)))) (dQ (bA (aV ?_) (bA (aV ?_) (bA (kQ h812 (by first|rfl|simp) (l:=(tbl (nth m.nx) k)) rfl (by first|rfl|exact (aL _ _).symm|simp|omega) (fun _=>by simp) ?_) (bA (kQ h813 (by first|rfl|simp) (l:=(tbl (gX m tg) k)) rfl (by first|rfl|exact (aL _ _).symm|simp|omega) (fun _=>by simp) ?_) rfl))))) (aV ?_)
 · rw [lfR,if_pos e3]; try first|rfl|(rw [e9t]; rfl)|(rw [ek]; rfl)
 · rw [lfR,if_pos e3]; try first|rfl|(rw [e9t]; rfl)|(rw [ek]; rfl)
 · rw [lfR,if_pos e3]; try first|rfl|(rw [e9t]; rfl)|(rw [ek]; rfl)
 · rw [lfR,if_pos e3]; try first|rfl|(rw [e9t]; rfl)|(rw [ek]; rfl)
 · exact e3.symm
end Go.Proofs.YtmnnhjhkaepbaaaGreat
namespace Go.Proofs.YtmnnhjhkaepbaaaGreat
open Go Go.Proofs
attribute [local irreducible] pH
theorem aCo (m:M):bE Tryz.prog 76 [(V.agg [(iV (m.i)),(iV (m.s)),(aA m.nx),(aA m.ot)])] (aM (rch m)):=by
 refine pW Tryz.func76 aGm fun hB=>?_
 unfold s76
 dsimp only
 refine W_r (eR (i:=1) (n:=0) (m:=4) (cs:=[(iV (m.i)),(iV (m.s)),(aA m.nx),(aA m.ot)]) rfl (congrArg Blk.ver rfl) rfl rfl rfl (aC rfl (R_e (aE (W_r (aX rfl rfl rfl rfl (bH (iL m) rfl ?_)))))))
 refine eV rfl rfl (R_e ?_)
 refine aP rfl (fun c1=>?_) fun c1=>?_
 ·
  have d0:=c1
  refine aE (W_r (aC rfl (R_e (bF ?_))))
  refine cC (@rfl V V.nilsl) (dA ?_)
  · rw [rch,if_pos d0]
 have hm:aZ m=0:=by omega
 obtain ⟨v1,v2,v3,v4,v5,v6,v7,_⟩:=cJ hm
 refine aJ (W_r (bD rfl rfl (aX rfl rfl rfl rfl (bR rfl (oI (i:=14) (n:=0) (m:=m.nx.length) (q:=m.nx.length) (f:=cB) (x:=false) rfl (congrArg Blk.ver rfl) (@rfl V (iV ((m.nx.length:Nat):Int))) (@rfl V (iV ((m.nx.length:Nat):Int))) rfl (by first|omega|(simp only [List.length_replicate]; omega)) (by first|omega|(simp only [List.length_replicate]; omega)) (by first|omega|(simp only [List.length_replicate]; omega)) (aC rfl (R_e ?_)))))))
 refine W_r (aC rfl (bD rfl rfl (aX rfl rfl rfl rfl (dL (i:=(m.s)) (@rfl V (V.ms 14 1 0 (m.nx.length))) (@rfl V (iV (m.s))) (@rfl Blk (bk 1 4 1 (List.map cB (List.replicate m.nx.length false)))) oB rfl (by first|omega|(simp only [List.length_replicate]; omega)) (by first|omega|(simp only [List.length_replicate]; omega)) (bC (vs:=[(V.bool true)]) (B':=(bk 1 4 1 (List.map cB ((List.replicate m.nx.length false).set (((m.s)).toNat) true)))) rfl rfl rfl (@rfl Blk (bk 1 4 1 (List.map cB (List.replicate m.nx.length false)))) (fY (x:=true) (i:=(((m.s)).toNat)) (by first|omega|(simp only [List.length_replicate]; omega)) rfl rfl rfl rfl) (R_e (W_r ?_)))))))
 refine bD rfl rfl (aX rfl rfl rfl rfl (pE (i:=21) (n:=0) (qs:=[(0,(iV (m.s)))]) (rows:=[[(iV (m.s))]]) rfl (congrArg Blk.ver rfl) (bA (congrArg (fun v=>(0,v)) rfl) rfl) rfl (aC rfl (R_e (aE (W_r (aC rfl ?_)))))))
 refine R_e (aH fun Q2 n2 x2 y2 z2=>?_)
 refine bW (fun mm T H=> ∃ (k:Nat) (w:Nat) (P:RS),mm=m.nx.length - k∧T 1=(V.mp 1 1 0 0)∧T 3=(V.ms 14 1 0 (m.nx.length))∧T 4=(V.ms 21 w 0 (P.1.length))∧T 5=(iV ((k:Nat):Int))∧H 1=(bk 1 24 4 [[(iV (m.i)),(iV (m.s)),(aA m.nx),(aA m.ot)]])∧H 14=(bk 1 4 1 (List.map cB (P.2)))∧H 21=(bk w 3 1 (List.map cI (P.1)))∧(k≤P.1.length)∧(RI m.nx.length P)∧(jB m m.nx.length 0 (nU m)=jB m (m.nx.length - k) k P)) ?_ ?_
 ·
  refine ⟨_,0,1,(nU m),rfl,rfl,rfl,(Eq.trans (@rfl V (V.ms 21 1 0 (1))) (by first|rfl|(rw [gH d2,List.length_append]; rfl)|(rw [fK d2]; done)|(rw [← e9]; done))),(Eq.trans (@rfl V (iV (0:Int))) rfl),rfl,(Eq.trans (@rfl Blk (bk 1 4 1 (List.map cB ((List.replicate m.nx.length false).set (((m.s)).toNat) true)))) (by first|rfl|(rw [gH d2]; done)|(rw [fK d2]; done)|(rw [← e9]; done))),(Eq.trans (@rfl Blk (bk 1 3 1 [[(iV (m.s))]])) (by first|rfl|(rw [gH d2]; done)|(rw [fK d2]; done)|(rw [← e9]; done))),?_,?_,?_⟩
  · exact Nat.zero_le _
  · exact aCj hm
  · rfl
 intro mm T H ⟨k,w,P,hmm,t1,t3,t4,t5,h1,h14,h21,hk,hr,hc⟩ Q3 p13 p23 p33
 unfold aKG
 refine aE (W_r (aC t5 (aC t4 (dX rfl h21 (by first|rfl|simp) (bU rfl rfl (R_e ?_))))))
 refine aP rfl (fun c4=>?_) fun c4=>?_
 ·
  have r1:=hr.rng _ (bI (show k < P.1.length by omega))
  have r0:=hr.len
  have r5:=hr.blen
  have r6:=((cJ hm).2.2.2.2.2.2.2 (nth P.1 k).toNat (by omega)).1
  refine aJ (aH fun Q5 n5 x5 y5 z5=>(W_r (bD t1 h1 (aX rfl h1 rfl rfl (aC t4 (aC t5 (cV (i:=k) (@rfl V (V.ms 21 w 0 (P.1.length))) (@rfl V (iV ((k:Nat):Int))) h21 oB rfl (by first|omega|(simp only [List.length_replicate]; omega)) ?_)))))))
  refine bV (v:=(iV ((nth (P.1) (k))))) rfl h21 (dN (by first|omega|(simp only [List.length_replicate]; omega)) (by first|rfl|(rw [cF_eq]; rfl)|simp [ldV,V.one])) (eT (i:=((nth (P.1) (k)))) (@rfl V (aA m.nx)) (@rfl V (iV ((nth (P.1) (k))))) (by first|omega|(simp only [List.length_replicate]; omega)) (by first|omega|(simp only [List.length_replicate]; omega)) rfl (aK rfl rfl (bR rfl (aC rfl (R_e (aCR fun Q6 n6 x6 y6 z6=>?_))))))
  refine bW (fun mm T H=> ∃ (j:Nat) (w2:Nat) (Q:RS),mm=(nth m.nx (nth P.1 k).toNat).length - j∧T 1=(V.mp 1 1 0 0)∧T 3=(V.ms 14 1 0 (m.nx.length))∧T 4=(V.ms 21 w2 0 (Q.1.length))∧T 5=(iV ((k:Nat):Int))∧T 35=(aM ((nth (m.nx) ((nth (P.1) (k))).toNat)))∧T 36=(iV ((((nth (m.nx) ((nth (P.1) (k))).toNat)).length:Nat):Int))∧T 37=(iV ((j:Nat):Int))∧H 1=(bk 1 24 4 [[(iV (m.i)),(iV (m.s)),(aA m.nx),(aA m.ot)]])∧H 14=(bk 1 4 1 (List.map cB (Q.2)))∧H 21=(bk w2 3 1 (List.map cI (Q.1)))∧(j≤(nth m.nx (nth P.1 k).toNat).length)∧(Q=((nth m.nx (nth P.1 k).toNat).take j).foldl kB P)∧(RI m.nx.length Q)) ?_ ?_
  ·
   refine ⟨_,0,w,P,rfl,t1,t3,t4,t5,rfl,rfl,(Eq.trans (@rfl V (iV (0:Int))) rfl),h1,h14,h21,?_,?_,?_⟩
   · omega
   · rfl
   · exact hr
  intro mm T H ⟨j,w2,Q,hmm,t1,t3,t4,t5,t35,t36,t37,h1,h14,h21,hj,hq,hrq⟩ Q7 p17 p27 p37
  unfold aKL
  refine W_r (bU t37 t36 (R_e ?_))
  refine aP rfl (fun c8=>?_) fun c8=>?_
  ·
   have r2:=zJ hm r1.1 r1.2 _ (bI (show j < (nth m.nx (nth P.1 k).toNat).length by omega))
   have r3:=hrq.blen
   have r4:=hrq.len
   refine aJ (aH fun Q9 n9 x9 y9 z9=>(W_r (bO (i:=j) t35 t37 (by first|omega|(simp only [List.length_replicate]; omega)) rfl (aK rfl rfl (aC rfl (R_e (W_r ?_)))))))
   refine aC t3 (aC rfl (dL (i:=((nth ((nth (m.nx) ((nth (P.1) (k))).toNat)) (j)))) (@rfl V (V.ms 14 1 0 (m.nx.length))) (@rfl V (iV ((nth ((nth (m.nx) ((nth (P.1) (k))).toNat)) (j))))) h14 oB rfl (by first|omega|(simp only [List.length_replicate]; omega)) (by first|omega|(simp only [List.length_replicate]; omega)) (bV (v:=(V.bool ((nth (Q.2) ((((nth ((nth (m.nx) ((nth (P.1) (k))).toNat)) (j)))).toNat))))) rfl h14 (dN (by first|omega|(simp only [List.length_replicate]; omega)) (by first|rfl|(rw [cF_eq]; rfl)|simp [ldV,V.one])) (aGa rfl (R_e ?_)))))
   refine aE8 rfl (fun c10=>?_) (fun c10=>?_)
   ·
    have d2:nth Q.2 (nth (nth m.nx (nth P.1 k).toNat) j).toNat=false:=by simpa using c10
    refine W_r (aC t3 (aC rfl (dL (i:=((nth ((nth (m.nx) ((nth (P.1) (k))).toNat)) (j)))) (@rfl V (V.ms 14 1 0 (m.nx.length))) (@rfl V (iV ((nth ((nth (m.nx) ((nth (P.1) (k))).toNat)) (j))))) h14 oB rfl (by first|omega|(simp only [List.length_replicate]; omega)) (by first|omega|(simp only [List.length_replicate]; omega)) (bC (vs:=[(V.bool true)]) (B':=(bk 1 4 1 (List.map cB ((Q.2).set ((((nth ((nth (m.nx) ((nth (P.1) (k))).toNat)) (j)))).toNat) true)))) rfl rfl rfl h14 (fY (x:=true) (i:=((((nth ((nth (m.nx) ((nth (P.1) (k))).toNat)) (j)))).toNat)) (by first|omega|(simp only [List.length_replicate]; omega)) rfl rfl rfl rfl) (R_e (W_t (aC t4 ?_)))))))
    refine aC rfl (bZ rfl rfl (cA (l:=Q.1) (f:=cI) (x:=(((nth ((nth (m.nx) ((nth (P.1) (k))).toNat)) (j))))) (@rfl V (V.ms 21 w2 0 (Q.1.length))) h21 (by first|rfl|simp|omega) (@rfl V (V.sl [[(iV ((nth ((nth (m.nx) ((nth (P.1) (k))).toNat)) (j))))]])) rfl rfl (by first|omega|(simp only [List.length_replicate]; omega)) (by first|omega|(simp only [List.length_replicate]; omega)) (aC rfl (R_e (n9 _ _ (.done (W_t ?_)))))))
    refine bJ t37 (@rfl V (iV ((1:Nat):Int))) (by first|omega|(simp only [List.length_replicate]; omega)) (aC rfl (R_e ?_))
    refine p17 _ _ _ ?_ ⟨(j+1),(w2+1),(kB Q (nth (nth m.nx (nth P.1 k).toNat) j)),rfl,t1,t3,(Eq.trans (@rfl V (V.ms 21 (w2+1) 0 (Q.1.length+1))) (by first|rfl|(rw [gH d2,List.length_append]; rfl)|(rw [fK d2]; done)|(rw [← e9]; done))),t5,t35,t36,(Eq.trans (@rfl V (iV ((j+1:Nat):Int))) (by first|rfl|(rw [gH d2,List.length_append]; rfl)|(rw [fK d2]; done)|(rw [← e9]; done))),h1,(Eq.trans (@rfl Blk (bk 1 4 1 (List.map cB ((Q.2).set ((((nth ((nth (m.nx) ((nth (P.1) (k))).toNat)) (j)))).toNat) true)))) (by first|rfl|(rw [gH d2]; done)|(rw [fK d2]; done)|(rw [← e9]; done))),(Eq.trans (@rfl Blk (bk (w2+1) 3 1 (List.map cI (Q.1++[((nth ((nth (m.nx) ((nth (P.1) (k))).toNat)) (j)))])))) (by first|rfl|(rw [gH d2]; done)|(rw [fK d2]; done)|(rw [← e9]; done))),?_,?_,?_⟩
    · omega
    · omega
    · rw [yJ (by omega),← hq]
    · exact hrq.step r2.1 r2.2
   have d2:nth Q.2 (nth (nth m.nx (nth P.1 k).toNat) j).toNat=true:=by simpa using c10
   refine fQ (n9 _ _ (.done (W_t (bJ t37 (@rfl V (iV ((1:Nat):Int))) (by first|omega|(simp only [List.length_replicate]; omega)) (aC rfl (R_e ?_))))))
   refine p17 _ _ _ ?_ ⟨(j+1),w2,(kB Q (nth (nth m.nx (nth P.1 k).toNat) j)),rfl,t1,t3,(Eq.trans t4 (by first|rfl|(rw [gH d2,List.length_append]; rfl)|(rw [fK d2]; done)|(rw [← e9]; done))),t5,t35,t36,(Eq.trans (@rfl V (iV ((j+1:Nat):Int))) (by first|rfl|(rw [gH d2,List.length_append]; rfl)|(rw [fK d2]; done)|(rw [← e9]; done))),h1,(Eq.trans h14 (by first|rfl|(rw [gH d2]; done)|(rw [fK d2]; done)|(rw [← e9]; done))),(Eq.trans h21 (by first|rfl|(rw [gH d2]; done)|(rw [fK d2]; done)|(rw [← e9]; done))),?_,?_,?_⟩
   · omega
   · omega
   · rw [yJ (by omega),← hq]
   · exact hrq.step r2.1 r2.2
  have e9:Q=kJ m P k:=by rw [hq]; unfold kJ; rw [List.take_of_length_le (by omega)]
  refine aW (p37 _ _ _ (x6 _ _ (n5 _ _ (.done (W_t (aC t5 (bJ rfl (@rfl V (iV ((1:Nat):Int))) (by first|omega|(simp only [List.length_replicate]; omega)) ?_)))))))
  refine aC rfl (R_e ?_)
  refine p13 _ _ _ ?_ ⟨(k+1),w2,(kJ m P k),rfl,t1,t3,(Eq.trans t4 (by first|rfl|(rw [gH d2,List.length_append]; rfl)|(rw [fK d2]; done)|(rw [← e9]; done))),(Eq.trans (@rfl V (iV ((k+1:Nat):Int))) (by first|rfl|(rw [gH d2,List.length_append]; rfl)|(rw [fK d2]; done)|(rw [← e9]; done))),h1,(Eq.trans h14 (by first|rfl|(rw [gH d2]; done)|(rw [fK d2]; done)|(rw [← e9]; done))),(Eq.trans h21 (by first|rfl|(rw [gH d2]; done)|(rw [fK d2]; done)|(rw [← e9]; done))),?_,?_,?_⟩
  · omega
  · obtain ⟨x,hx⟩:=jD (nth m.nx (nth P.1 k).toNat) P
    have hg:(kJ m P k).1=P.1++x:=hx
    rw [hg,List.length_append]; omega
  · exact hr.row hm (by omega)
  · rw [hc,aLT (by omega) (by omega)]
 refine aW (p33 _ _ _ (x2 _ _ (.done (W_r (aC t4 (aC rfl (R_e ?_)))))))
 refine bS ?_
 refine cC (@rfl V (V.ms 21 w 0 (P.1.length))) (kQ h21 (by first|rfl|simp) (l:=P.1) rfl (by first|rfl|simp|omega) (fun _=>by simp) ?_)
 · rw [rch,if_neg (by omega),hc,aDa (by omega)]
end Go.Proofs.YtmnnhjhkaepbaaaGreat
