/- Contracts of the functions that the law GL reaches, and the law itself, for every input; no condition. -/
import Derived.KernelRfl
import Derived.Test.YtmnnhjhkaepbaaaGreatProg
import Derived.Test.YtmnnhjhkaepbaaaGreatRows
import Derived.Test.YtmnnhjhkaepbaaaGreatGL3
set_option linter.unusedSimpArgs false
set_option linter.unusedVariables false
namespace Go.Proofs.YtmnnhjhkaepbaaaGreat
open Go Go.Proofs
attribute [local irreducible] pH
theorem aCv (m:M):bE Tryz.prog 48 [(V.agg [(iV (m.i)),(iV (m.s)),(aA m.nx),(aA m.ot)])] (V.tup [(V.agg [(iV ((trR m).i)),(iV ((trR m).s)),(aA ((trR m).nx)),(aA ((trR m).ot))]),(iV (aZ m))]):=by
 refine pW Tryz.func48 aGU fun hB=>?_
 unfold s48
 dsimp only
 refine W_r (eR (i:=1) (n:=0) (m:=4) (cs:=[(iV (m.i)),(iV (m.s)),(aA m.nx),(aA m.ot)]) rfl (congrArg Blk.ver rfl) rfl rfl rfl (dB (i:=2) (n:=0) (m:=4) rfl (congrArg Blk.ver rfl) rfl (aC rfl (R_e (aE (W_r (aX rfl rfl rfl rfl ?_)))))))
 refine bH (iL m) rfl (aC rfl (R_e (aE (W_r (aC rfl (eV rfl rfl (R_e ?_)))))))
 refine aP rfl (fun c1=>?_) fun c1=>?_
 ·
  have d0:=c1
  refine aE (W_r (dO rfl rfl (aC rfl (bC (vs:=[(iV (0:Int)),(iV (0:Int)),V.nilsl,V.nilsl]) (B':=(bk 1 24 4 [[(iV (0:Int)),(iV (0:Int)),V.nilsl,V.nilsl]])) rfl rfl rfl rfl (sB oB rfl rfl rfl rfl rfl) (aC rfl (R_e (bF ?_)))))))
  refine fF (eC (u:=(V.agg [(iV (0:Int)),(iV (0:Int)),V.nilsl,V.nilsl])) rfl (@rfl Blk (bk 1 24 4 [[(iV (0:Int)),(iV (0:Int)),V.nilsl,V.nilsl]])) (lB oB rfl rfl)) (fD (@rfl V (iV (aZ m)))) (dQ (bA (aV ?_) (bA (aV ?_) (bA (dA ?_) (bA (dA ?_) rfl))))) (eD (by simp) rfl)
  · rw [trR,if_neg d0]; try rfl
  · rw [trR,if_neg d0]; try rfl
  · rw [trR,if_neg d0]; try rfl
  · rw [trR,if_neg d0]; try rfl
 have d0:=c1
 have hm:aZ m=0:=by omega
 have mo:=cJ hm
 have rc:=jJ hm
 have rl:=rc.len
 have me:=mo.2.2.2.2.2.2.1
 refine aJ (W_r (aX rfl rfl rfl rfl (bH (aCo m) rfl (aC rfl (R_e (W_r (bD rfl rfl ?_)))))))
 refine aX rfl rfl rfl rfl (bR rfl (oI (i:=26) (n:=0) (m:=m.nx.length) (q:=m.nx.length) (f:=cI) (x:=0) rfl (congrArg Blk.ver rfl) (@rfl V (iV ((m.nx.length:Nat):Int))) (@rfl V (iV ((m.nx.length:Nat):Int))) rfl (by first|omega|(simp only [List.length_replicate]; omega)|(rw [aF]; omega)) (by first|omega|(simp only [List.length_replicate]; omega)|(rw [aF]; omega)) (by first|omega|(simp only [List.length_replicate]; omega)|(rw [aF]; omega)) (aC rfl (R_e (aE (W_r (aC rfl ?_)))))))
 refine bR rfl (aC rfl (R_e (aH fun Q2 n2 x2 y2 z2=>?_)))
 refine bW (fun mm T H=> ∃ (k:Nat) (N:List Int),mm=(rch m).length - k∧T 1=(V.mp 1 1 0 0)∧T 2=(V.mp 2 1 0 0)∧T 5=(aM (rch m))∧T 6=(V.ms 26 1 0 (m.nx.length))∧T 27=(aM (rch m))∧T 28=(iV (((rch m).length:Nat):Int))∧T 29=(iV ((k:Nat):Int))∧H 1=(bk 1 24 4 [[(iV (m.i)),(iV (m.s)),(aA m.nx),(aA m.ot)]])∧H 2=(bk 1 24 4 [[(iV (0:Int)),(iV (0:Int)),V.nilsl,V.nilsl]])∧H 9=(⟨0,false,false,0,0,[]⟩:Blk)∧H 26=(bk 1 3 1 (List.map cI (N)))∧H 50=(⟨0,false,false,0,0,[]⟩:Blk)∧H 812=(⟨0,false,false,0,0,[]⟩:Blk)∧H 813=(⟨0,false,false,0,0,[]⟩:Blk)∧(k≤(rch m).length)∧(N.length=m.nx.length)∧(∀ j,j < k→nth N (nth (rch m) j).toNat=(j:Int))) ?_ ?_
 ·
  refine ⟨_,0,(List.replicate m.nx.length 0),rfl,rfl,rfl,rfl,rfl,rfl,rfl,(Eq.trans (@rfl V (iV (0:Int))) rfl),rfl,rfl,rfl,(Eq.trans (@rfl Blk (bk 1 3 1 (List.map cI (List.replicate m.nx.length 0)))) (by first|rfl|exact congrArg (List.map cI) aS|(rw [← aS,List.map_replicate]; done)|(rw [rn,← aY (f:=gQ m k) (z:=0) (n:=m.i.toNat) (j:=j) (by omega)]; rfl)|(rw [aB,List.map_append,ej]; first|done|rfl)|(rw [aB,ej]; first|done|rfl)|(rw [aB,eo]; first|done|rfl)|(rw [aB,List.map_append,eo]; first|done|rfl)|(simp; done))),rfl,rfl,rfl,?_,?_,?_⟩
  · exact Nat.zero_le _
  · exact List.length_replicate ..
  · intro j hj; omega
 intro mm T H ⟨k,N,hmm,t1,t2,t5,t6,t27,t28,t29,h1,h2,h9,h26,h50,h812,h813,hk,hN,hP⟩ Q3 p13 p23 p33
 unfold aKh
 refine W_r (bU t29 t28 (R_e ?_))
 refine aP rfl (fun c4=>?_) fun c4=>?_
 ·
  have rk:=rc.rng k (by omega)
  refine aJ (aH fun Q5 n5 x5 y5 z5=>(W_r (aC t29 (bO (i:=k) t27 t29 (by first|omega|(simp only [List.length_replicate]; omega)|(rw [aF]; omega)) rfl (aK rfl rfl (aC rfl (aC rfl ?_)))))))
  refine R_e (W_t (aC t6 (aC rfl (aC rfl (dL (i:=((nth (rch m) (k)))) (@rfl V (V.ms 26 1 0 (m.nx.length))) (@rfl V (iV ((nth (rch m) (k))))) h26 oB rfl (by first|omega|(simp only [List.length_replicate]; omega)|(rw [aF]; omega)) (by first|omega|(simp only [List.length_replicate]; omega)|(rw [aF]; omega)) (bC (vs:=[(iV ((k:Nat):Int))]) (B':=(bk 1 3 1 (List.map cI ((N).set ((((nth (rch m) (k)))).toNat) (((k:Nat):Int)))))) rfl rfl rfl h26 (fY (x:=(((k:Nat):Int))) (i:=((((nth (rch m) (k)))).toNat)) (by first|omega|(simp only [List.length_replicate]; omega)|(rw [aF]; omega)) rfl rfl rfl rfl) (R_e ?_)))))))
  refine n5 _ _ (.done (W_t (bJ t29 (@rfl V (iV ((1:Nat):Int))) (by first|omega|(simp only [List.length_replicate]; omega)|(rw [aF]; omega)) (aC rfl (R_e ?_)))))
  refine p13 _ _ _ ?_ ⟨(k+1),(N.set (nth (rch m) k).toNat ((k:Nat):Int)),rfl,t1,t2,t5,t6,t27,t28,(Eq.trans (@rfl V (iV ((k+1:Nat):Int))) (by first|rfl|simp)),h1,h2,h9,(Eq.trans (@rfl Blk (bk 1 3 1 (List.map cI ((N).set ((((nth (rch m) (k)))).toNat) (((k:Nat):Int)))))) (by first|rfl|exact congrArg (List.map cI) aS|(rw [← aS,List.map_replicate]; done)|(rw [rn,← aY (f:=gQ m k) (z:=0) (n:=m.i.toNat) (j:=j) (by omega)]; rfl)|(rw [aB,List.map_append,ej]; first|done|rfl)|(rw [aB,ej]; first|done|rfl)|(rw [aB,eo]; first|done|rfl)|(rw [aB,List.map_append,eo]; first|done|rfl)|(simp; done))),h50,h812,h813,?_,?_,?_⟩
  · omega
  · omega
  · rw [List.length_set]; exact hN
  · exact aFh rc (by omega) hN hP
 have hnum:=aIM rc (fun j hj=>hP j (by omega))
 refine aW (p33 _ _ _ (x2 _ _ (.done (W_r (bD t1 h1 (aX rfl h1 rfl rfl (dO rfl rfl ?_)))))))
 refine dB (i:=9) (n:=0) (m:=4) rfl (congrArg Blk.ver h9) rfl (bC (vs:=[(iV (m.i)),(iV (0:Int)),V.nilsl,V.nilsl]) (B':=(bk 1 24 4 [[(iV (m.i)),(iV (0:Int)),V.nilsl,V.nilsl]])) rfl rfl rfl rfl (sB oB rfl rfl rfl rfl rfl) (R_e (aE ?_)))
 refine gR (fun T H=>T 1=(V.mp 1 1 0 0)∧T 2=(V.mp 2 1 0 0)∧T 6=(V.ms 26 1 0 (m.nx.length))∧T 9=(V.mp 9 1 0 0)∧T 42=(aM (rch m))∧T 43=(iV (((rch m).length:Nat):Int))∧T 44=(iV (0:Int))∧H 1=(bk 1 24 4 [[(iV (m.i)),(iV (m.s)),(aA m.nx),(aA m.ot)]])∧H 2=(bk 1 24 4 [[(iV (0:Int)),(iV (0:Int)),V.nilsl,V.nilsl]])∧H 9=(bk 1 24 4 [[(iV (m.i)),(iV (0:Int)),V.nilsl,V.nilsl]])∧H 26=(bk 1 3 1 (List.map cI (N)))∧H 50=(⟨0,false,false,0,0,[]⟩:Blk)∧H 812=(⟨0,false,false,0,0,[]⟩:Blk)∧H 813=(⟨0,false,false,0,0,[]⟩:Blk)∧True) ?_ ?_
 ·
  refine aC t5 (bR rfl (aC rfl ?_))
  exact fM ⟨t1,t2,t6,rfl,rfl,rfl,rfl,h1,h2,rfl,h26,h50,h812,h813,trivial⟩
 intro T H ⟨t1,t2,t6,t9,t42,t43,t44,h1,h2,h9,h26,h50,h812,h813,_⟩
 refine .lazyCell 812 25 1 9 0 2 [(iV (m.i)),(iV (0:Int)),V.nilsl,V.nilsl] (by decide) (by rw [h9]; rfl) (by rw [h9]; rfl) rfl (bQ (R:=fun T H=>T 1=(V.mp 1 1 0 0)∧T 2=(V.mp 2 1 0 0)∧T 6=(V.ms 26 1 0 (m.nx.length))∧T 9=(V.mp 9 1 0 0)∧T 42=(aM (rch m))∧T 43=(iV (((rch m).length:Nat):Int))∧T 44=(iV (0:Int))∧H 1=(bk 1 24 4 [[(iV (m.i)),(iV (m.s)),(aA m.nx),(aA m.ot)]])∧H 2=(bk 1 24 4 [[(iV (0:Int)),(iV (0:Int)),V.nilsl,V.nilsl]])∧H 9=(bk 1 24 4 [[(iV (m.i)),(iV (0:Int)),(V.ms 812 1 0 (0)),V.nilsl]])∧H 26=(bk 1 3 1 (List.map cI (N)))∧H 50=(⟨0,false,false,0,0,[]⟩:Blk)∧H 812=(bz 1 25 1 [])∧H 813=(⟨0,false,false,0,0,[]⟩:Blk)∧True) ⟨t1,t2,t6,t9,t42,t43,t44,((aD _ _ (by decide)).trans ((aD _ _ (by decide)).trans h1)),((aD _ _ (by decide)).trans ((aD _ _ (by decide)).trans h2)),(by rw [aG,h9,(congrArg Blk.ver h812)]; rfl),((aD _ _ (by decide)).trans ((aD _ _ (by decide)).trans h26)),((aD _ _ (by decide)).trans ((aD _ _ (by decide)).trans h50)),(by rw [aD _ _ (by decide),aG,(congrArg Blk.ver h812)]),((aD _ _ (by decide)).trans ((aD _ _ (by decide)).trans h813)),trivial⟩ ?_)
 intro T H ⟨t1,t2,t6,t9,t42,t43,t44,h1,h2,h9,h26,h50,h812,h813,_⟩
 refine .lazyCell 813 25 1 9 0 3 [(iV (m.i)),(iV (0:Int)),(V.ms 812 1 0 (0)),V.nilsl] (by decide) (by rw [h9]; rfl) (by rw [h9]; rfl) rfl (.done ?_)
 refine bQ (R:=fun T H=>T 1=(V.mp 1 1 0 0)∧T 2=(V.mp 2 1 0 0)∧T 6=(V.ms 26 1 0 (m.nx.length))∧T 9=(V.mp 9 1 0 0)∧T 42=(aM (rch m))∧T 43=(iV (((rch m).length:Nat):Int))∧T 44=(iV (0:Int))∧H 1=(bk 1 24 4 [[(iV (m.i)),(iV (m.s)),(aA m.nx),(aA m.ot)]])∧H 2=(bk 1 24 4 [[(iV (0:Int)),(iV (0:Int)),V.nilsl,V.nilsl]])∧H 9=(bk 1 24 4 [[(iV (m.i)),(iV (0:Int)),(V.ms 812 1 0 (0)),(V.ms 813 1 0 (0))]])∧H 26=(bk 1 3 1 (List.map cI (N)))∧H 50=(⟨0,false,false,0,0,[]⟩:Blk)∧H 812=(bz 1 25 1 [])∧H 813=(bz 1 25 1 [])∧True) ⟨t1,t2,t6,t9,t42,t43,t44,((aD _ _ (by decide)).trans ((aD _ _ (by decide)).trans h1)),((aD _ _ (by decide)).trans ((aD _ _ (by decide)).trans h2)),(by rw [aG,h9,(congrArg Blk.ver h813)]; rfl),((aD _ _ (by decide)).trans ((aD _ _ (by decide)).trans h26)),((aD _ _ (by decide)).trans ((aD _ _ (by decide)).trans h50)),((aD _ _ (by decide)).trans ((aD _ _ (by decide)).trans h812)),(by rw [aD _ _ (by decide),aG,(congrArg Blk.ver h813)]),trivial⟩ ?_
 intro T H ⟨t1,t2,t6,t9,t42,t43,t44,h1,h2,h9,h26,h50,h812,h813,_⟩
 refine aH fun Q6 n6 x6 y6 z6=>?_
 refine bW (fun mm T H=> ∃ (k:Nat) (v:Nat) (w:Nat) (v50:Nat),mm=(rch m).length - k∧T 1=(V.mp 1 1 0 0)∧T 2=(V.mp 2 1 0 0)∧T 6=(V.ms 26 1 0 (m.nx.length))∧T 9=(V.mp 9 1 0 0)∧T 42=(aM (rch m))∧T 43=(iV (((rch m).length:Nat):Int))∧T 44=(iV ((k:Nat):Int))∧H 1=(bk 1 24 4 [[(iV (m.i)),(iV (m.s)),(aA m.nx),(aA m.ot)]])∧H 2=(bk 1 24 4 [[(iV (0:Int)),(iV (0:Int)),V.nilsl,V.nilsl]])∧H 9=(bk 1 24 4 [[(iV (m.i)),(iV (0:Int)),(V.ms 812 v 0 (k)),(V.ms 813 w 0 (k))]])∧H 26=(bk 1 3 1 (List.map cI (N)))∧((H 50).ver=v50∧(H 50).live=false)∧H 812=(bz v 25 1 (List.map cL (tbl (tNx m) k)))∧H 813=(bz w 25 1 (List.map cL (tbl (tOt m) k)))∧(k≤(rch m).length)) ?_ ?_
 ·
  refine ⟨_,0,1,1,0,rfl,t1,t2,t6,t9,t42,t43,(Eq.trans t44 rfl),h1,h2,h9,h26,⟨(congrArg Blk.ver h50),congrArg Blk.live h50⟩,(Eq.trans h812 (by first|rfl|exact congrArg (List.map cI) aS|(rw [← aS,List.map_replicate]; done)|(rw [rn,← aY (f:=gQ m k) (z:=0) (n:=m.i.toNat) (j:=j) (by omega)]; rfl)|(rw [aB,List.map_append,ej]; first|done|rfl)|(rw [aB,ej]; first|done|rfl)|(rw [aB,eo]; first|done|rfl)|(rw [aB,List.map_append,eo]; first|done|rfl)|(simp; done))),(Eq.trans h813 (by first|rfl|exact congrArg (List.map cI) aS|(rw [← aS,List.map_replicate]; done)|(rw [rn,← aY (f:=gQ m k) (z:=0) (n:=m.i.toNat) (j:=j) (by omega)]; rfl)|(rw [aB,List.map_append,ej]; first|done|rfl)|(rw [aB,ej]; first|done|rfl)|(rw [aB,eo]; first|done|rfl)|(rw [aB,List.map_append,eo]; first|done|rfl)|(simp; done))),?_⟩
  · exact Nat.zero_le _
 intro mm T H ⟨k,v,w,v50,hmm,t1,t2,t6,t9,t42,t43,t44,h1,h2,h9,h26,h50,h812,h813,hk⟩ Q7 p17 p27 p37
 unfold aJU
 refine W_r (bU t44 t43 (R_e ?_))
 refine aP rfl (fun c8=>?_) fun c8=>?_
 ·
  have rk:=rc.rng k (by omega)
  have rr:=mo.2.2.2.2.2.2.2 (nth (rch m) k).toNat (by omega)
  have eo:tOt m k=nth m.ot (nth (rch m) k).toNat:=aH6 hm (by omega)
  refine aJ (aH fun Q9 n9 x9 y9 z9=>(W_r (bO (i:=k) t42 t44 (by first|omega|(simp only [List.length_replicate]; omega)|(rw [aF]; omega)) rfl (aK rfl rfl (aC rfl (R_e (W_r ?_)))))))
  refine bD t1 h1 (aX rfl h1 rfl rfl (oI (i:=50) (n:=v50) (m:=((m.i).toNat)) (q:=((m.i).toNat)) (f:=cI) (x:=0) rfl (h50).1 (Eq.trans (@rfl V (iV (m.i))) (congrArg (V.int .i64) (by first|omega|(simp only [List.length_replicate]; omega)|(rw [aF]; omega)))) (Eq.trans (@rfl V (iV (m.i))) (congrArg (V.int .i64) (by first|omega|(simp only [List.length_replicate]; omega)|(rw [aF]; omega)))) rfl (by first|omega|(simp only [List.length_replicate]; omega)|(rw [aF]; omega)) (by first|omega|(simp only [List.length_replicate]; omega)|(rw [aF]; omega)) (by first|omega|(simp only [List.length_replicate]; omega)|(rw [aF]; omega)) (aC rfl (R_e (aE (W_r (bD t1 h1 ?_)))))))
  refine aX rfl h1 rfl rfl (aC rfl (eT (i:=((nth (rch m) (k)))) (@rfl V (aA m.nx)) (@rfl V (iV ((nth (rch m) (k))))) (by first|omega|(simp only [List.length_replicate]; omega)|(rw [aF]; omega)) (by first|omega|(simp only [List.length_replicate]; omega)|(rw [aF]; omega)) rfl (aK rfl rfl (bR rfl (aC rfl (R_e (aH fun Q10 n10 x10 y10 z10=>?_)))))))
  refine bW (fun mm T H=> ∃ (j:Nat) (u:Nat),mm=m.i.toNat - j∧T 1=(V.mp 1 1 0 0)∧T 2=(V.mp 2 1 0 0)∧T 6=(V.ms 26 1 0 (m.nx.length))∧T 9=(V.mp 9 1 0 0)∧T 11=(iV ((nth (rch m) (k))))∧T 12=(V.ms 50 u 0 (m.i.toNat))∧T 42=(aM (rch m))∧T 43=(iV (((rch m).length:Nat):Int))∧T 44=(iV ((k:Nat):Int))∧T 55=(aM (nth m.nx (nth (rch m) k).toNat))∧T 56=(iV (((nth m.nx (nth (rch m) k).toNat).length:Nat):Int))∧T 57=(iV ((j:Nat):Int))∧H 1=(bk 1 24 4 [[(iV (m.i)),(iV (m.s)),(aA m.nx),(aA m.ot)]])∧H 2=(bk 1 24 4 [[(iV (0:Int)),(iV (0:Int)),V.nilsl,V.nilsl]])∧H 9=(bk 1 24 4 [[(iV (m.i)),(iV (0:Int)),(V.ms 812 v 0 (k)),(V.ms 813 w 0 (k))]])∧H 26=(bk 1 3 1 (List.map cI (N)))∧H 50=(bk u 3 1 (List.map cI (cZ (gQ m k) 0 m.i.toNat j)))∧H 812=(bz v 25 1 (List.map cL (tbl (tNx m) k)))∧H 813=(bz w 25 1 (List.map cL (tbl (tOt m) k)))∧(j≤m.i.toNat)) ?_ ?_
  ·
   refine ⟨_,0,(v50+1),rfl,t1,t2,t6,t9,rfl,(Eq.trans (@rfl V (V.ms 50 (v50+1) 0 ((m.i).toNat))) (by first|rfl|simp)),t42,t43,t44,(Eq.trans (@rfl V (aM ((nth (m.nx) ((nth (rch m) (k))).toNat)))) (by first|rfl|simp)),(Eq.trans (@rfl V (iV ((((nth (m.nx) ((nth (rch m) (k))).toNat)).length:Nat):Int))) (by first|rfl|simp)),(Eq.trans (@rfl V (iV (0:Int))) rfl),h1,h2,h9,h26,(Eq.trans (@rfl Blk (bk (v50+1) 3 1 (List.map cI (List.replicate ((m.i).toNat) 0)))) (by first|rfl|exact congrArg (List.map cI) aS|(rw [← aS,List.map_replicate]; done)|(rw [rn,← aY (f:=gQ m k) (z:=0) (n:=m.i.toNat) (j:=j) (by omega)]; rfl)|(rw [aB,List.map_append,ej]; first|done|rfl)|(rw [aB,ej]; first|done|rfl)|(rw [aB,eo]; first|done|rfl)|(rw [aB,List.map_append,eo]; first|done|rfl)|(simp; done))),h812,h813,?_⟩
   · exact Nat.zero_le _
  intro mm T H ⟨j,u,hmm,t1,t2,t6,t9,t11,t12,t42,t43,t44,t55,t56,t57,h1,h2,h9,h26,h50,h812,h813,hj⟩ Q11 p111 p211 p311
  unfold aJW
  refine W_r (bU t57 t56 (R_e ?_))
  refine aP rfl (fun c12=>?_) fun c12=>?_
  ·
   have rj:=rr.2.2 j (by omega)
   have rin:=rc.clo k (by omega) _ (bI (show j < (nth m.nx (nth (rch m) k).toNat).length by omega))
   have rn:=hnum _ rin
   refine aJ (aH fun Q13 n13 x13 y13 z13=>(W_r (aC t57 (bO (i:=j) t55 t57 (by first|omega|(simp only [List.length_replicate]; omega)|(rw [aF]; omega)) rfl (aK rfl rfl (aC rfl (aC rfl ?_)))))))
   refine R_e (W_t (aC t12 (aC rfl (aC t6 (aC rfl (dL (i:=((nth (nth m.nx (nth (rch m) k).toNat) (j)))) (@rfl V (V.ms 26 1 0 (m.nx.length))) (@rfl V (iV ((nth (nth m.nx (nth (rch m) k).toNat) (j))))) h26 oB rfl (by first|omega|(simp only [List.length_replicate]; omega)|(rw [aF]; omega)) (by first|omega|(simp only [List.length_replicate]; omega)|(rw [aF]; omega)) (bV (v:=(iV ((nth (N) ((((nth (nth m.nx (nth (rch m) k).toNat) (j)))).toNat))))) rfl h26 (dN (by first|omega|(simp only [List.length_replicate]; omega)|(rw [aF]; omega)) (by first|rfl|(rw [cF_eq]; rfl)|simp [ldV,V.one])) ?_)))))))
   refine cV (i:=j) (@rfl V (V.ms 50 u 0 (m.i.toNat))) (@rfl V (iV ((j:Nat):Int))) h50 oB rfl (by first|omega|(simp only [List.length_replicate]; omega)|(rw [aF]; omega)) (bC (vs:=[(iV ((nth (N) ((((nth (nth m.nx (nth (rch m) k).toNat) (j)))).toNat))))]) (B':=(bk u 3 1 (List.map cI ((cZ (gQ m k) 0 m.i.toNat j).set j (((nth (N) ((((nth (nth m.nx (nth (rch m) k).toNat) (j)))).toNat)))))))) rfl rfl rfl h50 (fY (x:=(((nth (N) ((((nth (nth m.nx (nth (rch m) k).toNat) (j)))).toNat))))) (i:=j) (by first|omega|(simp only [List.length_replicate]; omega)|(rw [aF]; omega)) rfl rfl rfl rfl) (R_e (n13 _ _ (.done (W_t (bJ t57 (@rfl V (iV ((1:Nat):Int))) (by first|omega|(simp only [List.length_replicate]; omega)|(rw [aF]; omega)) (aC rfl ?_)))))))
   refine R_e ?_
   refine p111 _ _ _ ?_ ⟨(j+1),u,rfl,t1,t2,t6,t9,t11,t12,t42,t43,t44,t55,t56,(Eq.trans (@rfl V (iV ((j+1:Nat):Int))) (by first|rfl|simp)),h1,h2,h9,h26,(Eq.trans (@rfl Blk (bk u 3 1 (List.map cI ((cZ (gQ m k) 0 m.i.toNat j).set j (((nth (N) ((((nth (nth m.nx (nth (rch m) k).toNat) (j)))).toNat)))))))) (by first|rfl|exact congrArg (List.map cI) aS|(rw [← aS,List.map_replicate]; done)|(rw [rn,← aY (f:=gQ m k) (z:=0) (n:=m.i.toNat) (j:=j) (by omega)]; rfl)|(rw [aB,List.map_append,ej]; first|done|rfl)|(rw [aB,ej]; first|done|rfl)|(rw [aB,eo]; first|done|rfl)|(rw [aB,List.map_append,eo]; first|done|rfl)|(simp; done))),h812,h813,?_⟩
   · omega
   · omega
  have ej:cZ (gQ m k) 0 m.i.toNat j=tNx m k:=kO (by omega)
  refine aW (p311 _ _ _ (x10 _ _ (bQ (R:=fun T H=>T 1=(V.mp 1 1 0 0)∧T 2=(V.mp 2 1 0 0)∧T 6=(V.ms 26 1 0 (m.nx.length))∧T 9=(V.mp 9 1 0 0)∧T 11=(iV ((nth (rch m) (k))))∧T 12=(V.ms 50 u 0 (m.i.toNat))∧T 42=(aM (rch m))∧T 43=(iV (((rch m).length:Nat):Int))∧T 44=(iV ((k:Nat):Int))∧T 55=(aM (nth m.nx (nth (rch m) k).toNat))∧T 56=(iV (((nth m.nx (nth (rch m) k).toNat).length:Nat):Int))∧T 57=(iV ((j:Nat):Int))∧T 58=(V.bool (decide (((j:Nat):Int) < (((nth m.nx (nth (rch m) k).toNat).length:Nat):Int))))∧H 1=(bk 1 24 4 [[(iV (m.i)),(iV (m.s)),(aA m.nx),(aA m.ot)]])∧H 2=(bk 1 24 4 [[(iV (0:Int)),(iV (0:Int)),V.nilsl,V.nilsl]])∧H 9=(bk 1 24 4 [[(iV (m.i)),(iV (0:Int)),(V.ms 812 v 0 (k)),(V.ms 813 w 0 (k))]])∧H 26=(bk 1 3 1 (List.map cI (N)))∧H 50=(bk u 3 1 (List.map cI (cZ (gQ m k) 0 m.i.toNat j)))∧H 812=(bz v 25 1 (List.map cL (tbl (tNx m) k)))∧H 813=(bz w 25 1 (List.map cL (tbl (tOt m) k)))∧True) ⟨t1,t2,t6,t9,t11,t12,t42,t43,t44,t55,t56,t57,(@rfl V (V.bool (decide (((j:Nat):Int) < (((nth m.nx (nth (rch m) k).toNat).length:Nat):Int))))),h1,h2,h9,h26,h50,h812,h813,trivial⟩ ?_)))
  intro T H ⟨t1,t2,t6,t9,t11,t12,t42,t43,t44,t55,t56,t57,t58,h1,h2,h9,h26,h50,h812,h813,_⟩
  refine .freeze 50 (.done ?_)
  refine bQ (R:=fun T H=>T 1=(V.mp 1 1 0 0)∧T 2=(V.mp 2 1 0 0)∧T 6=(V.ms 26 1 0 (m.nx.length))∧T 9=(V.mp 9 1 0 0)∧T 11=(iV ((nth (rch m) (k))))∧T 12=(aM (cZ (gQ m k) 0 m.i.toNat j))∧T 42=(aM (rch m))∧T 43=(iV (((rch m).length:Nat):Int))∧T 44=(iV ((k:Nat):Int))∧T 55=(aM (nth m.nx (nth (rch m) k).toNat))∧T 56=(iV (((nth m.nx (nth (rch m) k).toNat).length:Nat):Int))∧T 57=(iV ((j:Nat):Int))∧T 58=(V.bool (decide (((j:Nat):Int) < (((nth m.nx (nth (rch m) k).toNat).length:Nat):Int))))∧H 1=(bk 1 24 4 [[(iV (m.i)),(iV (m.s)),(aA m.nx),(aA m.ot)]])∧H 2=(bk 1 24 4 [[(iV (0:Int)),(iV (0:Int)),V.nilsl,V.nilsl]])∧H 9=(bk 1 24 4 [[(iV (m.i)),(iV (0:Int)),(V.ms 812 v 0 (k)),(V.ms 813 w 0 (k))]])∧H 26=(bk 1 3 1 (List.map cI (N)))∧((H 50).ver=u∧(H 50).live=false)∧H 812=(bz v 25 1 (List.map cL (tbl (tNx m) k)))∧H 813=(bz w 25 1 (List.map cL (tbl (tOt m) k)))∧True) ⟨(aO t1 rfl),(aO t2 rfl),(aO t6 (fW (by decide))),(aO t9 rfl),(aO t11 rfl),(aO t12 (gE h50 (by first|rfl|simp) (l:=(cZ (gQ m k) 0 m.i.toNat j)) rfl (by first|rfl|exact (aL _ _).symm|simp|omega))),(aO t42 rfl),(aO t43 rfl),(aO t44 rfl),(aO t55 rfl),(aO t56 rfl),(aO t57 rfl),(aO t58 rfl),(aN h1 (by decide)),(aN h2 (by decide)),(aN h9 (by decide)),(aN h26 (by decide)),(bL (congrArg Blk.ver h50)),(aN h812 (by decide)),(aN h813 (by decide)),trivial⟩ ?_
  intro T H ⟨t1,t2,t6,t9,t11,t12,t42,t43,t44,t55,t56,t57,t58,h1,h2,h9,h26,h50,h812,h813,_⟩
  refine W_r (bD t9 h9 (aX rfl h9 rfl rfl (aC t12 (bZ rfl rfl (cA (l:=(tbl (tNx m) k)) (f:=cL) (x:=(cZ (gQ m k) 0 m.i.toNat j)) (@rfl V (V.ms 812 v 0 (k))) h812 (by first|rfl|exact (aL _ _).symm|simp|omega) (@rfl V (V.sl [[(aM (cZ (gQ m k) 0 m.i.toNat j))]])) rfl rfl (by first|omega|(simp only [List.length_replicate]; omega)|(rw [aF]; omega)) (by first|omega|(simp only [List.length_replicate]; omega)|(rw [aF]; omega)) (bD t9 h9 (bC (vs:=[(V.ms 812 (v+1) 0 (k+1))]) (B':=(bk 1 24 4 [[(iV (m.i)),(iV (0:Int)),(V.ms 812 (v+1) 0 (k+1)),(V.ms 813 w 0 (k))]])) rfl rfl rfl h9 (sB oB rfl rfl rfl rfl rfl) ?_)))))))
  refine R_e (W_t (bD t9 rfl (aX rfl rfl rfl rfl (bD t1 h1 (aX rfl h1 rfl rfl (aC t11 (eT (i:=((nth (rch m) (k)))) (@rfl V (aA m.ot)) (@rfl V (iV ((nth (rch m) (k))))) (by first|omega|(simp only [List.length_replicate]; omega)|(rw [aF]; omega)) (by first|omega|(simp only [List.length_replicate]; omega)|(rw [aF]; omega)) rfl ?_)))))))
  refine aK rfl rfl (bH (lE ((nth (m.ot) ((nth (rch m) (k))).toNat)) (by omega)) rfl (bZ rfl rfl (cA (l:=(tbl (tOt m) k)) (f:=cL) (x:=(((nth (m.ot) ((nth (rch m) (k))).toNat)))) (@rfl V (V.ms 813 w 0 (k))) h813 (by first|rfl|exact (aL _ _).symm|simp|omega) (@rfl V (V.sl [[(aM (((nth (m.ot) ((nth (rch m) (k))).toNat))))]])) rfl rfl (by first|omega|(simp only [List.length_replicate]; omega)|(rw [aF]; omega)) (by first|omega|(simp only [List.length_replicate]; omega)|(rw [aF]; omega)) (bD t9 rfl (bC (vs:=[(V.ms 813 (w+1) 0 (k+1))]) (B':=(bk 1 24 4 [[(iV (m.i)),(iV (0:Int)),(V.ms 812 (v+1) 0 (k+1)),(V.ms 813 (w+1) 0 (k+1))]])) rfl rfl rfl rfl (sB oB rfl rfl rfl rfl rfl) (R_e (n9 _ _ ?_)))))))
  refine .done (W_t (bJ t44 (@rfl V (iV ((1:Nat):Int))) (by first|omega|(simp only [List.length_replicate]; omega)|(rw [aF]; omega)) (aC rfl (R_e ?_))))
  refine p17 _ _ _ ?_ ⟨(k+1),(v+1),(w+1),u,rfl,t1,t2,t6,t9,t42,t43,(Eq.trans (@rfl V (iV ((k+1:Nat):Int))) (by first|rfl|simp)),h1,h2,(Eq.trans (@rfl Blk (bk 1 24 4 [[(iV (m.i)),(iV (0:Int)),(V.ms 812 (v+1) 0 (k+1)),(V.ms 813 (w+1) 0 (k+1))]])) (by first|rfl|exact congrArg (List.map cI) aS|(rw [← aS,List.map_replicate]; done)|(rw [rn,← aY (f:=gQ m k) (z:=0) (n:=m.i.toNat) (j:=j) (by omega)]; rfl)|(rw [aB,List.map_append,ej]; first|done|rfl)|(rw [aB,ej]; first|done|rfl)|(rw [aB,eo]; first|done|rfl)|(rw [aB,List.map_append,eo]; first|done|rfl)|(simp; done))),h26,h50,(Eq.trans (@rfl Blk (bz (v+1) 25 1 (List.map cL (tbl (tNx m) k++[cZ (gQ m k) 0 m.i.toNat j])))) (by first|rfl|exact congrArg (List.map cI) aS|(rw [← aS,List.map_replicate]; done)|(rw [rn,← aY (f:=gQ m k) (z:=0) (n:=m.i.toNat) (j:=j) (by omega)]; rfl)|(rw [aB,List.map_append,ej]; first|done|rfl)|(rw [aB,ej]; first|done|rfl)|(rw [aB,eo]; first|done|rfl)|(rw [aB,List.map_append,eo]; first|done|rfl)|(simp; done))),(Eq.trans (@rfl Blk (bz (w+1) 25 1 (List.map cL (tbl (tOt m) k++[((nth (m.ot) ((nth (rch m) (k))).toNat))])))) (by first|rfl|exact congrArg (List.map cI) aS|(rw [← aS,List.map_replicate]; done)|(rw [rn,← aY (f:=gQ m k) (z:=0) (n:=m.i.toNat) (j:=j) (by omega)]; rfl)|(rw [aB,List.map_append,ej]; first|done|rfl)|(rw [aB,ej]; first|done|rfl)|(rw [aB,eo]; first|done|rfl)|(rw [aB,List.map_append,eo]; first|done|rfl)|(simp; done))),?_⟩
  · omega
  · omega
 refine aW (p37 _ _ _ (x6 _ _ (.done (W_r (aX t9 h9 rfl rfl (bC (vs:=[(iV (m.i)),(iV (0:Int)),(V.ms 812 v 0 (k)),(V.ms 813 w 0 (k))]) (B':=(bk 1 24 4 [[(iV (m.i)),(iV (0:Int)),(V.ms 812 v 0 (k)),(V.ms 813 w 0 (k))]])) t2 rfl rfl h2 (sB oB rfl rfl rfl rfl rfl) (aC rfl ?_)))))))
 refine R_e (bS ?_)
 refine fF (eC (u:=(V.agg [(iV (m.i)),(iV (0:Int)),(V.ms 812 v 0 (k)),(V.ms 813 w 0 (k))])) t2 (@rfl Blk (bk 1 24 4 [[(iV (m.i)),(iV (0:Int)),(V.ms 812 v 0 (k)),(V.ms 813 w 0 (k))]])) (lB oB rfl rfl)) (fD (@rfl V (iV (0:Int)))) (dQ (bA (aV ?_) (bA (aV ?_) (bA (kQ h812 (by first|rfl|simp) (l:=(tbl (tNx m) k)) rfl (by first|rfl|exact (aL _ _).symm|simp|omega) (fun _=>by simp) ?_) (bA (kQ h813 (by first|rfl|simp) (l:=(tbl (tOt m) k)) rfl (by first|rfl|exact (aL _ _).symm|simp|omega) (fun _=>by simp) ?_) rfl))))) (aV ?_)
 · rw [trR,if_pos hm,iE hm]; try first|rfl|(rw [show k=(rch m).length by omega]; done)|(rw [show k=(rch m).length by omega]; rfl)
 · rw [trR,if_pos hm,iE hm]; try first|rfl|(rw [show k=(rch m).length by omega]; done)|(rw [show k=(rch m).length by omega]; rfl)
 · rw [trR,if_pos hm,iE hm]; try first|rfl|(rw [show k=(rch m).length by omega]; done)|(rw [show k=(rch m).length by omega]; rfl)
 · rw [trR,if_pos hm,iE hm]; try first|rfl|(rw [show k=(rch m).length by omega]; done)|(rw [show k=(rch m).length by omega]; rfl)
 · exact hm.symm
end Go.Proofs.YtmnnhjhkaepbaaaGreat
namespace Go.Proofs.YtmnnhjhkaepbaaaGreat
open Go Go.Proofs
attribute [local irreducible] pH vR
theorem aEB (m:M) (c:List Int) (hm:aZ m=0) (hc:c.length=m.nx.length):bE Tryz.prog 169 [(V.agg [(iV (m.i)),(iV (m.s)),(aA m.nx),(aA m.ot)]),(aM c)] (V.tup [(aM (tbl (nmf (sgF m c)) m.nx.length)),(iV (((cnf (sgF m c) m.nx.length):Nat):Int))]):=by
 refine pW Tryz.func169 aDI fun hB=>?_
 unfold aHQ
 dsimp only
 have mo:=cJ hm
 refine W_r (eR (i:=2) (n:=0) (m:=4) (cs:=[(iV (m.i)),(iV (m.s)),(aA m.nx),(aA m.ot)]) rfl (congrArg Blk.ver rfl) rfl rfl rfl (aC rfl (aC rfl (R_e (W_r (aIo (i:=13) (n:=0) (rows:=jQ (fE (sgF m c) 0)) rfl (congrArg Blk.ver rfl) rfl (aC rfl ?_)))))))
 refine R_e (W_r (aC rfl (bR rfl (oI (i:=16) (n:=0) (m:=c.length) (q:=c.length) (f:=cI) (x:=0) rfl (congrArg Blk.ver rfl) (@rfl V (iV ((c.length:Nat):Int))) (@rfl V (iV ((c.length:Nat):Int))) rfl (by first|omega|(simp only [List.length_replicate]; omega)|(rw [aF]; omega)|(rw [cQ]; omega)) (by first|omega|(simp only [List.length_replicate]; omega)|(rw [aF]; omega)|(rw [cQ]; omega)) (by first|omega|(simp only [List.length_replicate]; omega)|(rw [aF]; omega)|(rw [cQ]; omega)) (aC rfl (R_e (aE ?_)))))))
 refine W_r (aC rfl (bR rfl (aC rfl (R_e (aH fun Q1 n1 x1 y1 z1=>?_)))))
 refine bW (fun mm T H=> ∃ (k:Nat) (v9:Nat),mm=c.length - k∧T 1=(aM c)∧T 2=(V.mp 2 1 0 0)∧T 6=(V.mm 13 1)∧T 7=(V.ms 16 1 0 (c.length))∧T 18=(iV ((c.length:Nat):Int))∧T 19=(iV ((k:Nat):Int))∧H 2=(bk 1 24 4 [[(iV (m.i)),(iV (m.s)),(aA m.nx),(aA m.ot)]])∧((H 9).ver=v9∧(H 9).live=false)∧H 13=(bz 1 iR 2 (jQ (fE (sgF m c) k)))∧H 16=(bk 1 3 1 (List.map cI (cZ (nmf (sgF m c)) 0 c.length k)))∧(k≤c.length)) ?_ ?_
 ·
  refine ⟨_,0,0,rfl,rfl,rfl,rfl,rfl,rfl,(Eq.trans (@rfl V (iV (0:Int))) rfl),rfl,⟨(congrArg Blk.ver rfl),congrArg Blk.live (@rfl Blk (⟨0,false,false,0,0,[]⟩:Blk))⟩,rfl,(Eq.trans (@rfl Blk (bk 1 3 1 (List.map cI (List.replicate c.length 0)))) (by first|rfl|(rw [← aS,List.map_replicate]; done)|(rw [← aS,List.map_replicate]; rfl)|(rw [← d2,← aY (f:=nmf (sgF m c)) (z:=0) (n:=c.length) (j:=k) (by omega)]; first|done|rfl)|(rw [if_neg d1,← aY (f:=nmf (sgF m c)) (z:=0) (n:=c.length) (j:=k) (by omega)]; first|done|rfl)|(rw [oD d1]; done)|(simp; done))),?_⟩
  · exact Nat.zero_le _
 intro mm T H ⟨k,v9,hmm,t1,t2,t6,t7,t18,t19,h2,h9,h13,h16,hk⟩ Q2 p12 p22 p32
 unfold aFZ
 refine W_r (bU t19 t18 (R_e ?_))
 refine aP rfl (fun c3=>?_) fun c3=>?_
 ·
  have rr:=mo.2.2.2.2.2.2.2 k (by omega)
  refine aJ (aH fun Q4 n4 x4 y4 z4=>(W_r (aC t19 (aC rfl (R_e (W_r (aE0 (i:=9) (n:=v9) (m:=128) (rows:=(List.map kH ([sgP m c k 0]))) rfl (h9).1 rfl (by rw [aQ1]; rfl) ?_)))))))
  refine R_e (aE (W_r (bD t2 h2 (aX rfl h2 rfl rfl (aC rfl (R_e (aH fun Q5 n5 x5 y5 z5=>?_)))))))
  refine bW (fun mm T H=> ∃ (j:Nat) (u:Nat),mm=m.i.toNat - j∧T 1=(aM c)∧T 2=(V.mp 2 1 0 0)∧T 6=(V.mm 13 1)∧T 7=(V.ms 16 1 0 (c.length))∧T 8=(iV ((k:Nat):Int))∧T 9=(V.mp 9 u 0 0)∧T 18=(iV ((c.length:Nat):Int))∧T 19=(iV ((k:Nat):Int))∧T 23=(iV (m.i))∧T 24=(iV ((j:Nat):Int))∧H 2=(bk 1 24 4 [[(iV (m.i)),(iV (m.s)),(aA m.nx),(aA m.ot)]])∧H 9=(bk u 289 128 (List.map kH ([sgP m c k j])))∧H 13=(bz 1 iR 2 (jQ (fE (sgF m c) k)))∧H 16=(bk 1 3 1 (List.map cI (cZ (nmf (sgF m c)) 0 c.length k)))∧(j≤m.i.toNat)) ?_ ?_
  ·
   refine ⟨_,0,(v9+1),rfl,t1,t2,t6,t7,rfl,(Eq.trans (@rfl V (V.mp 9 (v9+1) 0 0)) (by first|rfl|simp)),t18,t19,rfl,(Eq.trans (@rfl V (iV (0:Int))) rfl),h2,(Eq.trans (@rfl Blk (bk (v9+1) 289 128 (List.map kH ([sgP m c k 0])))) (by first|rfl|(rw [← aS,List.map_replicate]; done)|(rw [← aS,List.map_replicate]; rfl)|(rw [← d2,← aY (f:=nmf (sgF m c)) (z:=0) (n:=c.length) (j:=k) (by omega)]; first|done|rfl)|(rw [if_neg d1,← aY (f:=nmf (sgF m c)) (z:=0) (n:=c.length) (j:=k) (by omega)]; first|done|rfl)|(rw [oD d1]; done)|(simp; done))),h13,h16,?_⟩
   · exact Nat.zero_le _
  intro mm T H ⟨j,u,hmm,t1,t2,t6,t7,t8,t9,t18,t19,t23,t24,h2,h9,h13,h16,hj⟩ Q6 p16 p26 p36
  unfold aGd
  refine W_r (bU t24 t23 (R_e ?_))
  refine aP rfl (fun c7=>?_) fun c7=>?_
  ·
   have rj:=rr.2.2 j (by omega)
   refine aJ (aH fun Q8 n8 x8 y8 z8=>(W_r (aC t24 (aC rfl (R_e (W_r (aC rfl ?_)))))))
   refine bD t2 h2 (aX rfl h2 rfl rfl (aC t8 (bO (i:=k) (@rfl V (aA m.ot)) (@rfl V (iV ((k:Nat):Int))) (by first|omega|(simp only [List.length_replicate]; omega)|(rw [aF]; omega)|(rw [cQ]; omega)) rfl (aK rfl rfl (aC rfl (bO (i:=j) (@rfl V (aM ((nth (m.ot) (k))))) (@rfl V (iV ((j:Nat):Int))) (by first|omega|(simp only [List.length_replicate]; omega)|(rw [aF]; omega)|(rw [cQ]; omega)) rfl (aK rfl rfl ?_)))))))
   refine xF (i:=j) (o':=j) t9 (@rfl V (iV ((j:Nat):Int))) h9 oB (by first|omega|(simp only [List.length_replicate]; omega)|(rw [aF]; omega)|(rw [cQ]; omega)) (by first|omega|(simp only [List.length_replicate]; omega)|(rw [aF]; omega)|(rw [cQ]; omega)) (bC (vs:=[(iV ((nth ((nth (m.ot) (k))) (j))))]) (B':=(bk u 289 128 (List.map kH ([(sgP m c k j).set j (nth (nth m.ot k) j)])))) rfl rfl rfl h9 (stR (by rw [cQ]; omega)) (R_e (W_t (aC rfl (aDT rfl rfl (by first|omega|(simp only [List.length_replicate]; omega)|(rw [aF]; omega)|(rw [cQ]; omega)) (by first|omega|(simp only [List.length_replicate]; omega)|(rw [aF]; omega)|(rw [cQ]; omega)) (aC t1 (bD t2 h2 ?_)))))))
   refine aX rfl h2 rfl rfl (aC t8 (bO (i:=k) (@rfl V (aA m.nx)) (@rfl V (iV ((k:Nat):Int))) (by first|omega|(simp only [List.length_replicate]; omega)|(rw [aF]; omega)|(rw [cQ]; omega)) rfl (aK rfl rfl (aC rfl (bO (i:=j) (@rfl V (aM ((nth (m.nx) (k))))) (@rfl V (iV ((j:Nat):Int))) (by first|omega|(simp only [List.length_replicate]; omega)|(rw [aF]; omega)|(rw [cQ]; omega)) rfl (aK rfl rfl (eT (i:=((nth ((nth (m.nx) (k))) (j)))) (@rfl V (aM c)) (@rfl V (iV ((nth ((nth (m.nx) (k))) (j))))) (by first|omega|(simp only [List.length_replicate]; omega)|(rw [aF]; omega)|(rw [cQ]; omega)) (by first|omega|(simp only [List.length_replicate]; omega)|(rw [aF]; omega)|(rw [cQ]; omega)) rfl ?_)))))))
   refine aK rfl rfl (xF (i:=((((64:Int)+((j:Nat):Int))).toNat)) (o':=((((64:Int)+((j:Nat):Int))).toNat)) t9 (Eq.trans (@rfl V (iV ((64:Int)+((j:Nat):Int)))) (aFs (by first|omega|(simp only [List.length_replicate]; omega)|(rw [aF]; omega)|(rw [cQ]; omega)))) (@rfl Blk (bk u 289 128 (List.map kH ([(sgP m c k j).set j (nth (nth m.ot k) j)])))) oB (by first|omega|(simp only [List.length_replicate]; omega)|(rw [aF]; omega)|(rw [cQ]; omega)) (by first|omega|(simp only [List.length_replicate]; omega)|(rw [aF]; omega)|(rw [cQ]; omega)) (bC (vs:=[(iV ((nth (c) ((nth ((nth (m.nx) (k))) (j))).toNat)))]) (B':=(bk u 289 128 (List.map kH ([sgP m c k (j+1)])))) rfl rfl rfl (@rfl Blk (bk u 289 128 (List.map kH ([(sgP m c k j).set j (nth (nth m.ot k) j)])))) (aST (m:=m) (c:=c) (k:=k) (j:=j) (by omega)) (R_e (n8 _ _ (.done (W_t (bJ t24 (@rfl V (iV ((1:Nat):Int))) (by first|omega|(simp only [List.length_replicate]; omega)|(rw [aF]; omega)|(rw [cQ]; omega)) ?_)))))))
   refine aC rfl (R_e ?_)
   refine p16 _ _ _ ?_ ⟨(j+1),u,rfl,t1,t2,t6,t7,t8,t9,t18,t19,t23,(Eq.trans (@rfl V (iV ((j+1:Nat):Int))) (by first|rfl|simp)),h2,(Eq.trans (@rfl Blk (bk u 289 128 (List.map kH ([sgP m c k (j+1)])))) (by first|rfl|(rw [← aS,List.map_replicate]; done)|(rw [← aS,List.map_replicate]; rfl)|(rw [← d2,← aY (f:=nmf (sgF m c)) (z:=0) (n:=c.length) (j:=k) (by omega)]; first|done|rfl)|(rw [if_neg d1,← aY (f:=nmf (sgF m c)) (z:=0) (n:=c.length) (j:=k) (by omega)]; first|done|rfl)|(rw [oD d1]; done)|(simp; done))),h13,h16,?_⟩
   · omega
   · omega
  have ej:sgP m c k j=sgF m c k:=by unfold sgF; rw [show m.i.toNat=j by omega]
  refine aW (p36 _ _ _ (x5 _ _ (.done (W_r (aC t6 (bV (v:=(oJ (sgF m c k))) t9 h9 (by rw [ej]; exact ldR (tD k)) (aIm (z:=(iV (0:Int))) (u:=(iV ((if lsf (sgF m c) k=k then 0 else nmf (sgF m c) k)))) (f:=decide (lsf (sgF m c) k≠k)) (@rfl V (V.mm 13 1)) (@rfl V (oJ (sgF m c k))) h13 (aQz tD) ?_)))))))
  refine aC rfl (eK rfl rfl (eK rfl rfl (aC rfl (aC rfl (R_e (aE (W_r ?_)))))))
  refine aC rfl (aDW rfl (R_e ?_))
  refine aP rfl (fun c9=>?_) fun c9=>?_
  ·
   have d1:lsf (sgF m c) k=k:=by have z:=c9; simpa using z
   have d2:=rJ d1
   refine aE (W_r (aC t6 (aGk (n:=(cnf (sgF m c) k)) (@rfl V (V.mm 13 1)) h13 (aSb) (aC rfl (R_e (W_r (aC t6 ?_)))))))
   refine bV (v:=(oJ (sgF m c k))) t9 h9 (by rw [ej]; exact ldR (tD k)) (aC rfl (aNA (B':=(bz 1 iR 2 (jQ (fE (sgF m c) (k+1))))) (@rfl V (V.mm 13 1)) (@rfl V (oJ (sgF m c k))) (@rfl V (iV ((cnf (sgF m c) k:Nat):Int))) h13 (aSP tD d1) (R_e (W_t (aC t7 (aC t8 (aC rfl ?_)))))))
   refine cV (i:=k) (@rfl V (V.ms 16 1 0 (c.length))) (@rfl V (iV ((k:Nat):Int))) h16 oB rfl (by first|omega|(simp only [List.length_replicate]; omega)|(rw [aF]; omega)|(rw [cQ]; omega)) (bC (vs:=[(iV ((cnf (sgF m c) k:Nat):Int))]) (B':=(bk 1 3 1 (List.map cI ((cZ (nmf (sgF m c)) 0 c.length k).set k (((cnf (sgF m c) k:Nat):Int)))))) rfl rfl rfl h16 (fY (x:=(((cnf (sgF m c) k:Nat):Int))) (i:=k) (by first|omega|(simp only [List.length_replicate]; omega)|(rw [aF]; omega)|(rw [cQ]; omega)) rfl rfl rfl rfl) (R_e (n4 _ _ (bQ (R:=fun T H=>T 1=(aM c)∧T 2=(V.mp 2 1 0 0)∧T 6=(V.mm 13 1)∧T 7=(V.ms 16 1 0 (c.length))∧T 18=(iV ((c.length:Nat):Int))∧T 19=(iV ((k:Nat):Int))∧H 2=(bk 1 24 4 [[(iV (m.i)),(iV (m.s)),(aA m.nx),(aA m.ot)]])∧H 9=(bk u 289 128 (List.map kH ([sgP m c k j])))∧H 13=(bz 1 iR 2 (jQ (fE (sgF m c) (k+1))))∧H 16=(bk 1 3 1 (List.map cI ((cZ (nmf (sgF m c)) 0 c.length k).set k (((cnf (sgF m c) k:Nat):Int)))))∧True) ⟨t1,t2,t6,t7,t18,t19,h2,h9,rfl,rfl,trivial⟩ ?_))))
   intro T H ⟨t1,t2,t6,t7,t18,t19,h2,h9,h13,h16,_⟩
   refine .freeze 9 (.done ?_)
   refine bQ (R:=fun T H=>T 1=(aM c)∧T 2=(V.mp 2 1 0 0)∧T 6=(V.mm 13 1)∧T 7=(V.ms 16 1 0 (c.length))∧T 18=(iV ((c.length:Nat):Int))∧T 19=(iV ((k:Nat):Int))∧H 2=(bk 1 24 4 [[(iV (m.i)),(iV (m.s)),(aA m.nx),(aA m.ot)]])∧((H 9).ver=u∧(H 9).live=false)∧H 13=(bz 1 iR 2 (jQ (fE (sgF m c) (k+1))))∧H 16=(bk 1 3 1 (List.map cI ((cZ (nmf (sgF m c)) 0 c.length k).set k (((cnf (sgF m c) k:Nat):Int)))))∧True) ⟨(aO t1 rfl),(aO t2 rfl),(aO t6 rfl),(aO t7 (fW (by decide))),(aO t18 rfl),(aO t19 rfl),(aN h2 (by decide)),(bL (congrArg Blk.ver h9)),(aN h13 (by decide)),(aN h16 (by decide)),trivial⟩ ?_
   intro T H ⟨t1,t2,t6,t7,t18,t19,h2,h9,h13,h16,_⟩
   refine W_t (bJ t19 (@rfl V (iV ((1:Nat):Int))) (by first|omega|(simp only [List.length_replicate]; omega)|(rw [aF]; omega)|(rw [cQ]; omega)) (aC rfl (R_e ?_)))
   refine p12 _ _ _ ?_ ⟨(k+1),u,rfl,t1,t2,t6,t7,t18,(Eq.trans (@rfl V (iV ((k+1:Nat):Int))) (by first|rfl|simp)),h2,h9,(Eq.trans h13 (by first|rfl|(rw [← aS,List.map_replicate]; done)|(rw [← aS,List.map_replicate]; rfl)|(rw [← d2,← aY (f:=nmf (sgF m c)) (z:=0) (n:=c.length) (j:=k) (by omega)]; first|done|rfl)|(rw [if_neg d1,← aY (f:=nmf (sgF m c)) (z:=0) (n:=c.length) (j:=k) (by omega)]; first|done|rfl)|(rw [oD d1]; done)|(simp; done))),(Eq.trans h16 (by first|rfl|(rw [← aS,List.map_replicate]; done)|(rw [← aS,List.map_replicate]; rfl)|(rw [← d2,← aY (f:=nmf (sgF m c)) (z:=0) (n:=c.length) (j:=k) (by omega)]; first|done|rfl)|(rw [if_neg d1,← aY (f:=nmf (sgF m c)) (z:=0) (n:=c.length) (j:=k) (by omega)]; first|done|rfl)|(rw [oD d1]; done)|(simp; done))),?_⟩
   · omega
   · omega
  have d1: ¬lsf (sgF m c) k=k:=by have z:=c9; simpa using z
  refine aJ (W_t (aC t7 (aC t8 (aC rfl (cV (i:=k) (@rfl V (V.ms 16 1 0 (c.length))) (@rfl V (iV ((k:Nat):Int))) h16 oB rfl (by first|omega|(simp only [List.length_replicate]; omega)|(rw [aF]; omega)|(rw [cQ]; omega)) (bC (vs:=[(iV ((if lsf (sgF m c) k=k then 0 else nmf (sgF m c) k)))]) (B':=(bk 1 3 1 (List.map cI ((cZ (nmf (sgF m c)) 0 c.length k).set k (((if lsf (sgF m c) k=k then 0 else nmf (sgF m c) k))))))) rfl rfl rfl h16 (fY (x:=(((if lsf (sgF m c) k=k then 0 else nmf (sgF m c) k)))) (i:=k) (by first|omega|(simp only [List.length_replicate]; omega)|(rw [aF]; omega)|(rw [cQ]; omega)) rfl rfl rfl rfl) (R_e ?_)))))))
  refine n4 _ _ (bQ (R:=fun T H=>T 1=(aM c)∧T 2=(V.mp 2 1 0 0)∧T 6=(V.mm 13 1)∧T 7=(V.ms 16 1 0 (c.length))∧T 18=(iV ((c.length:Nat):Int))∧T 19=(iV ((k:Nat):Int))∧H 2=(bk 1 24 4 [[(iV (m.i)),(iV (m.s)),(aA m.nx),(aA m.ot)]])∧H 9=(bk u 289 128 (List.map kH ([sgP m c k j])))∧H 13=(bz 1 iR 2 (jQ (fE (sgF m c) k)))∧H 16=(bk 1 3 1 (List.map cI ((cZ (nmf (sgF m c)) 0 c.length k).set k (((if lsf (sgF m c) k=k then 0 else nmf (sgF m c) k))))))∧True) ⟨t1,t2,t6,t7,t18,t19,h2,h9,h13,rfl,trivial⟩ ?_)
  intro T H ⟨t1,t2,t6,t7,t18,t19,h2,h9,h13,h16,_⟩
  refine .freeze 9 (.done ?_)
  refine bQ (R:=fun T H=>T 1=(aM c)∧T 2=(V.mp 2 1 0 0)∧T 6=(V.mm 13 1)∧T 7=(V.ms 16 1 0 (c.length))∧T 18=(iV ((c.length:Nat):Int))∧T 19=(iV ((k:Nat):Int))∧H 2=(bk 1 24 4 [[(iV (m.i)),(iV (m.s)),(aA m.nx),(aA m.ot)]])∧((H 9).ver=u∧(H 9).live=false)∧H 13=(bz 1 iR 2 (jQ (fE (sgF m c) k)))∧H 16=(bk 1 3 1 (List.map cI ((cZ (nmf (sgF m c)) 0 c.length k).set k (((if lsf (sgF m c) k=k then 0 else nmf (sgF m c) k))))))∧True) ⟨(aO t1 rfl),(aO t2 rfl),(aO t6 rfl),(aO t7 (fW (by decide))),(aO t18 rfl),(aO t19 rfl),(aN h2 (by decide)),(bL (congrArg Blk.ver h9)),(aN h13 (by decide)),(aN h16 (by decide)),trivial⟩ ?_
  intro T H ⟨t1,t2,t6,t7,t18,t19,h2,h9,h13,h16,_⟩
  refine W_t (bJ t19 (@rfl V (iV ((1:Nat):Int))) (by first|omega|(simp only [List.length_replicate]; omega)|(rw [aF]; omega)|(rw [cQ]; omega)) (aC rfl (R_e ?_)))
  refine p12 _ _ _ ?_ ⟨(k+1),u,rfl,t1,t2,t6,t7,t18,(Eq.trans (@rfl V (iV ((k+1:Nat):Int))) (by first|rfl|simp)),h2,h9,(Eq.trans h13 (by first|rfl|(rw [← aS,List.map_replicate]; done)|(rw [← aS,List.map_replicate]; rfl)|(rw [← d2,← aY (f:=nmf (sgF m c)) (z:=0) (n:=c.length) (j:=k) (by omega)]; first|done|rfl)|(rw [if_neg d1,← aY (f:=nmf (sgF m c)) (z:=0) (n:=c.length) (j:=k) (by omega)]; first|done|rfl)|(rw [oD d1]; done)|(simp; done))),(Eq.trans h16 (by first|rfl|(rw [← aS,List.map_replicate]; done)|(rw [← aS,List.map_replicate]; rfl)|(rw [← d2,← aY (f:=nmf (sgF m c)) (z:=0) (n:=c.length) (j:=k) (by omega)]; first|done|rfl)|(rw [if_neg d1,← aY (f:=nmf (sgF m c)) (z:=0) (n:=c.length) (j:=k) (by omega)]; first|done|rfl)|(rw [oD d1]; done)|(simp; done))),?_⟩
  · omega
  · omega
 have ek:k=m.nx.length:=by omega
 refine aW (p32 _ _ _ (x1 _ _ (.done (W_r (aC t7 (aC t6 (aGk (n:=((cnf (sgF m c) m.nx.length))) (@rfl V (V.mm 13 1)) h13 ((by rw [ek]; exact aSb)) ?_)))))))
 refine aC rfl (aC rfl (R_e (bS ?_)))
 refine pR (@rfl V (V.ms 16 1 0 (c.length))) (@rfl V (iV (((cnf (sgF m c) m.nx.length):Nat):Int))) (kQ h16 (by first|rfl|simp) (l:=(cZ (nmf (sgF m c)) 0 c.length k)) rfl (by first|rfl|(rw [aF])|simp|omega) (fun _=>by simp) ?_) (eD (by simp) rfl)
 · first|rfl|(rw [kO (by omega),hc]; done)|(rw [kO (by omega),hc]; rfl)
end Go.Proofs.YtmnnhjhkaepbaaaGreat
namespace Go.Proofs.YtmnnhjhkaepbaaaGreat
open Go Go.Proofs
attribute [local irreducible] pH
theorem aBm (m:M) (hm:aZ m=0):bE Tryz.prog 123 [(V.agg [(iV (m.i)),(iV (m.s)),(aA m.nx),(aA m.ot)]),(iV (128:Int))] (V.tup [(aM (clK m (sU m))),(iV (((sU m):Nat):Int))]):=by
 refine pW Tryz.func123 aC1 fun hB=>?_
 unfold aHr
 dsimp only
 have mo:=cJ hm
 obtain ⟨s1,s2,s3⟩:=aGJ hm
 have k0:=aQf hm
 refine W_r (eR (i:=2) (n:=0) (m:=4) (cs:=[(iV (m.i)),(iV (m.s)),(aA m.nx),(aA m.ot)]) rfl (congrArg Blk.ver rfl) rfl rfl rfl (aC rfl (aC rfl (R_e ?_))))
 refine gR (fun T H=>T 1=(iV (128:Int))∧T 2=(V.mp 2 1 0 0)∧T 6=(V.ms 14 1 0 (m.nx.length))∧T 7=(iV (1:Int))∧H 2=(bk 1 24 4 [[(iV (m.i)),(iV (m.s)),(aA m.nx),(aA m.ot)]])∧H 14=(bk 1 3 1 (List.map cI (List.replicate m.nx.length 0)))∧True) ?_ ?_
 ·
  refine bD rfl rfl (aX rfl rfl rfl rfl (bR rfl (oI (i:=14) (n:=0) (m:=m.nx.length) (q:=m.nx.length) (f:=cI) (x:=0) rfl (congrArg Blk.ver rfl) (@rfl V (iV ((m.nx.length:Nat):Int))) (@rfl V (iV ((m.nx.length:Nat):Int))) rfl (by omega) (by omega) (by omega) (aC rfl (aC rfl ?_)))))
  exact fM ⟨rfl,rfl,rfl,rfl,rfl,rfl,trivial⟩
 intro T H ⟨t1,t2,t6,t7,h2,h14,_⟩
 refine .freeze 14 (.done ?_)
 refine bQ (R:=fun T H=>T 1=(iV (128:Int))∧T 2=(V.mp 2 1 0 0)∧T 6=(aM (List.replicate m.nx.length 0))∧T 7=(iV (1:Int))∧H 2=(bk 1 24 4 [[(iV (m.i)),(iV (m.s)),(aA m.nx),(aA m.ot)]])∧((H 14).ver=1∧(H 14).live=false)∧True) ⟨(aO t1 rfl),(aO t2 rfl),(aO t6 (gE h14 (by first|rfl|simp) (l:=(List.replicate m.nx.length 0)) rfl (by first|rfl|simp|omega))),(aO t7 rfl),(aN h2 (by decide)),(bL (congrArg Blk.ver h14)),trivial⟩ ?_
 intro T H ⟨t1,t2,t6,t7,h2,h14,_⟩
 refine aE (W_r (aC t1 (aKJ (m:=128) (n:=0) (@rfl V (iV ((128:Nat):Int))) (@rfl V (iV ((0:Nat):Int))) (bD t2 h2 (aX rfl h2 rfl rfl (bR rfl (aC4 (m:=(max 128 0)) (n:=m.nx.length) rfl rfl ?_)))))))
 refine aC rfl (R_e (aH fun Q1 n1 x1 y1 z1=>?_))
 refine bW (fun mm T H=> ∃ (k:Nat),mm=m.nx.length - k∧T 1=(iV (128:Int))∧T 2=(V.mp 2 1 0 0)∧T 6=(aM (clK m k))∧T 7=(iV (((ctK m k):Nat):Int))∧T 20=(iV ((m.nx.length:Nat):Int))∧T 21=(iV ((k:Nat):Int))∧H 2=(bk 1 24 4 [[(iV (m.i)),(iV (m.s)),(aA m.nx),(aA m.ot)]])∧((H 14).ver=1∧(H 14).live=false)∧(k≤sU m)) ?_ ?_
 ·
  refine ⟨_,0,rfl,t1,t2,(Eq.trans t6 (by first|rfl|exact congrArg iV (by omega)|exact congrArg aM pZ.symm|exact congrArg aM e1|(simp; done))),(Eq.trans t7 (by first|rfl|exact congrArg iV (by omega)|exact congrArg aM pZ.symm|exact congrArg aM e1|(simp; done))),(Eq.trans (@rfl V (iV ((min (max 128 0) m.nx.length:Nat):Int))) (by first|rfl|exact congrArg iV (by omega)|exact congrArg aM pZ.symm|exact congrArg aM e1|(simp; done))),(Eq.trans (@rfl V (iV (0:Int))) rfl),h2,h14,?_⟩
  · exact Nat.zero_le _
 intro mm T H ⟨k,hmm,t1,t2,t6,t7,t20,t21,h2,h14,hk⟩ Q2 p12 p22 p32
 unfold aGj
 refine W_r (bU t21 t20 (R_e ?_))
 refine aP rfl (fun c3=>?_) fun c3=>?_
 ·
  obtain ⟨e1,e2⟩:=aHY hm (by omega) k
  refine aJ (aH fun Q4 n4 x4 y4 z4=>(W_r (aC t21 (aC rfl (R_e (W_r (aX t2 h2 rfl rfl ?_)))))))
  refine aC t6 (bH (aEB m (clK m k) hm (oG k)) rfl (aC rfl (eK rfl rfl (eK rfl rfl (aC rfl (aC rfl (R_e ?_)))))))
  refine aE (W_r (aC rfl (aC t7 (jY rfl rfl (R_e ?_)))))
  refine aP rfl (fun c5=>?_) fun c5=>?_
  ·
   have d1:=c5
   have d2:k=sU m:=Nat.le_antisymm hk (Nat.le_of_not_lt fun z=>s3 k z (by omega))
   refine aE (W_r (aC t6 (aC rfl (aC rfl (aC rfl (R_e (bF ?_)))))))
   refine y4 _ _ (p22 _ _ (y1 _ _ ?_))
   refine pR (@rfl V (aM (clK m k))) (@rfl V (iV ((k:Nat):Int))) (lQ ?_ (fun _=>by simp)) (aV ?_)
   · first|rfl|omega|(rw [d2]; done)
   · first|rfl|omega|(rw [d2]; done)
  have d1:=c5
  refine aJ (W_t (aC rfl (aC rfl (aC rfl (aC rfl (R_e (n4 _ _ ?_)))))))
  refine .done (W_t (bJ t21 (@rfl V (iV ((1:Nat):Int))) (by omega) (aC rfl (R_e ?_))))
  refine p12 _ _ _ ?_ ⟨(k+1),rfl,t1,t2,(Eq.trans (@rfl V (aM (tbl (nmf (sgF m (clK m k))) m.nx.length))) (by first|rfl|exact congrArg iV (by omega)|exact congrArg aM pZ.symm|exact congrArg aM e1|(simp; done))),(Eq.trans (@rfl V (iV (((cnf (sgF m (clK m k)) m.nx.length):Nat):Int))) (by first|rfl|exact congrArg iV (by omega)|exact congrArg aM pZ.symm|exact congrArg aM e1|(simp; done))),t20,(Eq.trans (@rfl V (iV ((k+1:Nat):Int))) (by first|rfl|exact congrArg iV (by omega)|exact congrArg aM pZ.symm|exact congrArg aM e1|(simp; done))),h2,h14,?_⟩
  · omega
  · have z:k≠sU m:=fun e=>by subst e; omega
    omega
 refine aW (p32 _ _ _ (x1 _ _ (.done (W_r (aC t6 (aC t1 (aKJ (m:=128) (n:=0) (@rfl V (iV ((128:Nat):Int))) (@rfl V (iV ((0:Nat):Int))) ?_)))))))
 refine bD t2 h2 (aX rfl h2 rfl rfl (bR rfl (aC4 (m:=(max 128 0)) (n:=m.nx.length) rfl rfl (aC rfl (aC rfl (R_e (bS ?_)))))))
 refine pR (@rfl V (aM (clK m k))) (@rfl V (iV ((min (max 128 0) m.nx.length:Nat):Int))) (lQ ?_ (fun _=>by simp)) (aV ?_)
 · first|rfl|omega|(rw [d2]; done)
 · first|rfl|omega|(rw [d2]; done)
end Go.Proofs.YtmnnhjhkaepbaaaGreat
namespace Go.Proofs.YtmnnhjhkaepbaaaGreat
open Go Go.Proofs
theorem aBZ (m:M):bE Tryz.prog 78 [(V.agg [(iV (m.i)),(iV (m.s)),(aA m.nx),(aA m.ot)]),(iV (128:Int))] (V.tup [(aM ((clP m))),(iV (aZ m))]):=by
 refine pW Tryz.func78 aGb fun hB=>?_
 unfold s78
 dsimp only
 refine W_r (eR (i:=2) (n:=0) (m:=4) (cs:=[(iV (m.i)),(iV (m.s)),(aA m.nx),(aA m.ot)]) rfl (congrArg Blk.ver rfl) rfl rfl rfl (aC rfl (aC rfl (R_e (aE (W_r (aX rfl rfl rfl rfl ?_)))))))
 refine bH (iL m) rfl (aC rfl (R_e (aE (W_r (aC rfl (eV rfl rfl (R_e ?_)))))))
 refine aP rfl (fun c1=>?_) fun c1=>?_
 ·
  have d0:=c1
  refine aE (W_r (aC rfl (aC rfl (aC rfl (R_e (bF ?_))))))
  refine pR (@rfl V V.nilsl) (@rfl V (iV (aZ m))) (dA ?_) (eD (by simp) rfl)
  · rw [clP,if_neg d0]; try rfl
 have hm:aZ m=0:=by omega
 refine aJ (W_r (aX rfl rfl rfl rfl (aC rfl (bH (aBm m (by omega)) rfl (aC rfl (eK rfl rfl (eK rfl rfl ?_)))))))
 refine aC rfl (aC rfl (R_e (W_r (aC rfl (aC rfl (aC rfl (R_e ?_)))))))
 refine bS ?_
 refine pR (@rfl V (aM (clK m (sU m)))) (@rfl V (iV (0:Int))) (lQ ?_ (fun _=>by simp)) (aV ?_)
 · rw [clP,if_pos hm]
 · exact hm.symm
theorem xE (m:M):bE Tryz.prog 49 [(V.agg [(iV (m.i)),(iV (m.s)),(aA m.nx),(aA m.ot)])] (V.tup [(aM ((clP m))),(iV (aZ m))]):=by
 refine pW Tryz.func49 aFT fun hB=>?_
 unfold s49
 dsimp only
 refine W_r (eR (i:=1) (n:=0) (m:=4) (cs:=[(iV (m.i)),(iV (m.s)),(aA m.nx),(aA m.ot)]) rfl (congrArg Blk.ver rfl) rfl rfl rfl (aC rfl (aC rfl (R_e (W_r (aX rfl rfl rfl rfl (bH (aBZ m) rfl ?_)))))))
 refine eK rfl rfl (eK rfl rfl (aC rfl (aC rfl (R_e (bS ?_)))))
 refine pR (@rfl V (aM ((clP m)))) (@rfl V (iV (aZ m))) (eD (by simp) rfl) (eD (by simp) rfl)
theorem aEd (m:M):bE Tryz.prog 25 [(V.agg [(iV (m.i)),(iV (m.s)),(aA m.nx),(aA m.ot)])] (V.tup [(V.agg [(iV ((mnR m).i)),(iV ((mnR m).s)),(aA ((mnR m).nx)),(aA ((mnR m).ot))]),(iV (aZ m))]):=by
 refine pW Tryz.func25 aE9 fun hB=>?_
 unfold s25
 dsimp only
 refine W_r (eR (i:=1) (n:=0) (m:=4) (cs:=[(iV (m.i)),(iV (m.s)),(aA m.nx),(aA m.ot)]) rfl (congrArg Blk.ver rfl) rfl rfl rfl (dB (i:=2) (n:=0) (m:=4) rfl (congrArg Blk.ver rfl) rfl (aC rfl (R_e (W_r (aX rfl rfl rfl rfl (bH (aCv m) rfl ?_)))))))
 refine aC rfl (eK rfl rfl (eK rfl rfl (dB (i:=4) (n:=0) (m:=4) rfl (congrArg Blk.ver rfl) rfl (bC (vs:=[(iV ((trR m).i)),(iV ((trR m).s)),(aA ((trR m).nx)),(aA ((trR m).ot))]) (B':=(bk 1 24 4 [[(iV ((trR m).i)),(iV ((trR m).s)),(aA ((trR m).nx)),(aA ((trR m).ot))]])) rfl rfl rfl rfl (sB oB rfl rfl rfl rfl rfl) (aC rfl (R_e (aE ?_)))))))
 refine W_r (aC rfl (eV rfl rfl (R_e ?_)))
 refine aP rfl (fun c1=>?_) fun c1=>?_
 ·
  have d0:=c1
  refine aE (W_r (dO rfl rfl (aC rfl (bC (vs:=[(iV (0:Int)),(iV (0:Int)),V.nilsl,V.nilsl]) (B':=(bk 1 24 4 [[(iV (0:Int)),(iV (0:Int)),V.nilsl,V.nilsl]])) rfl rfl rfl rfl (sB oB rfl rfl rfl rfl rfl) (aC rfl (R_e (bF ?_)))))))
  refine fF (eC (u:=(V.agg [(iV (0:Int)),(iV (0:Int)),V.nilsl,V.nilsl])) rfl (@rfl Blk (bk 1 24 4 [[(iV (0:Int)),(iV (0:Int)),V.nilsl,V.nilsl]])) (lB oB rfl rfl)) (fD (@rfl V (iV (aZ m)))) (dQ (bA (aV ?_) (bA (aV ?_) (bA (dA ?_) (bA (dA ?_) rfl))))) (eD (by simp) rfl)
  · rw [mnR,if_neg d0]; try rfl
  · rw [mnR,if_neg d0]; try rfl
  · rw [mnR,if_neg d0]; try rfl
  · rw [mnR,if_neg d0]; try rfl
 have hm:aZ m=0:=by omega
 have mo:=cJ hm
 have rc:=jJ hm
 have rl:=rc.len
 have me:=mo.2.2.2.2.2.2.1
 obtain ⟨p1,p2,p3,p4,p5,p6⟩:=aEi hm
 refine aJ (W_r (aX rfl rfl rfl rfl (bH (xE ((trR m))) rfl (aC rfl (eK rfl rfl (eK rfl rfl (aC rfl ?_)))))))
 refine aC rfl (R_e (aE (W_r (aC rfl (eV rfl rfl (R_e ?_))))))
 refine aP rfl (fun c2=>?_) fun c2=>?_
 · exfalso; omega
 refine aJ (W_r (bD rfl rfl (aX rfl rfl rfl rfl (dO rfl rfl (dB (i:=7) (n:=0) (m:=4) rfl (congrArg Blk.ver rfl) rfl (bC (vs:=[(iV ((trR m).i)),(iV (0:Int)),V.nilsl,V.nilsl]) (B':=(bk 1 24 4 [[(iV ((trR m).i)),(iV (0:Int)),V.nilsl,V.nilsl]])) rfl rfl rfl rfl (sB oB rfl rfl rfl rfl rfl) (R_e ?_)))))))
 refine aE ?_
 refine gR (fun T H=>T 2=(V.mp 2 1 0 0)∧T 4=(V.mp 4 1 0 0)∧T 6=(aM ((clP ((trR m)))))∧T 7=(V.mp 7 1 0 0)∧T 34=(aM ((clP ((trR m)))))∧T 35=(iV ((((clP ((trR m)))).length:Nat):Int))∧T 36=(iV (0:Int))∧H 1=(bk 1 24 4 [[(iV (m.i)),(iV (m.s)),(aA m.nx),(aA m.ot)]])∧H 2=(bk 1 24 4 [[(iV (0:Int)),(iV (0:Int)),V.nilsl,V.nilsl]])∧H 4=(bk 1 24 4 [[(iV ((trR m).i)),(iV ((trR m).s)),(aA ((trR m).nx)),(aA ((trR m).ot))]])∧H 7=(bk 1 24 4 [[(iV ((trR m).i)),(iV (0:Int)),V.nilsl,V.nilsl]])∧H 10=(⟨0,false,false,0,0,[]⟩:Blk)∧H 72=(⟨0,false,false,0,0,[]⟩:Blk)∧H 812=(⟨0,false,false,0,0,[]⟩:Blk)∧H 813=(⟨0,false,false,0,0,[]⟩:Blk)∧True) ?_ ?_
 ·
  refine aC rfl (bR rfl (aC rfl ?_))
  exact fM ⟨rfl,rfl,rfl,rfl,rfl,rfl,rfl,rfl,rfl,rfl,rfl,rfl,rfl,rfl,rfl,trivial⟩
 intro T H ⟨t2,t4,t6,t7,t34,t35,t36,h1,h2,h4,h7,h10,h72,h812,h813,_⟩
 refine .lazyCell 812 25 1 7 0 2 [(iV ((trR m).i)),(iV (0:Int)),V.nilsl,V.nilsl] (by decide) (by rw [h7]; rfl) (by rw [h7]; rfl) rfl (bQ (R:=fun T H=>T 2=(V.mp 2 1 0 0)∧T 4=(V.mp 4 1 0 0)∧T 6=(aM ((clP ((trR m)))))∧T 7=(V.mp 7 1 0 0)∧T 34=(aM ((clP ((trR m)))))∧T 35=(iV ((((clP ((trR m)))).length:Nat):Int))∧T 36=(iV (0:Int))∧H 1=(bk 1 24 4 [[(iV (m.i)),(iV (m.s)),(aA m.nx),(aA m.ot)]])∧H 2=(bk 1 24 4 [[(iV (0:Int)),(iV (0:Int)),V.nilsl,V.nilsl]])∧H 4=(bk 1 24 4 [[(iV ((trR m).i)),(iV ((trR m).s)),(aA ((trR m).nx)),(aA ((trR m).ot))]])∧H 7=(bk 1 24 4 [[(iV ((trR m).i)),(iV (0:Int)),(V.ms 812 1 0 (0)),V.nilsl]])∧H 10=(⟨0,false,false,0,0,[]⟩:Blk)∧H 72=(⟨0,false,false,0,0,[]⟩:Blk)∧H 812=(bz 1 25 1 [])∧H 813=(⟨0,false,false,0,0,[]⟩:Blk)∧True) ⟨t2,t4,t6,t7,t34,t35,t36,((aD _ _ (by decide)).trans ((aD _ _ (by decide)).trans h1)),((aD _ _ (by decide)).trans ((aD _ _ (by decide)).trans h2)),((aD _ _ (by decide)).trans ((aD _ _ (by decide)).trans h4)),(by rw [aG,h7,(congrArg Blk.ver h812)]; rfl),((aD _ _ (by decide)).trans ((aD _ _ (by decide)).trans h10)),((aD _ _ (by decide)).trans ((aD _ _ (by decide)).trans h72)),(by rw [aD _ _ (by decide),aG,(congrArg Blk.ver h812)]),((aD _ _ (by decide)).trans ((aD _ _ (by decide)).trans h813)),trivial⟩ ?_)
 intro T H ⟨t2,t4,t6,t7,t34,t35,t36,h1,h2,h4,h7,h10,h72,h812,h813,_⟩
 refine .lazyCell 813 25 1 7 0 3 [(iV ((trR m).i)),(iV (0:Int)),(V.ms 812 1 0 (0)),V.nilsl] (by decide) (by rw [h7]; rfl) (by rw [h7]; rfl) rfl (.done ?_)
 refine bQ (R:=fun T H=>T 2=(V.mp 2 1 0 0)∧T 4=(V.mp 4 1 0 0)∧T 6=(aM ((clP ((trR m)))))∧T 7=(V.mp 7 1 0 0)∧T 34=(aM ((clP ((trR m)))))∧T 35=(iV ((((clP ((trR m)))).length:Nat):Int))∧T 36=(iV (0:Int))∧H 1=(bk 1 24 4 [[(iV (m.i)),(iV (m.s)),(aA m.nx),(aA m.ot)]])∧H 2=(bk 1 24 4 [[(iV (0:Int)),(iV (0:Int)),V.nilsl,V.nilsl]])∧H 4=(bk 1 24 4 [[(iV ((trR m).i)),(iV ((trR m).s)),(aA ((trR m).nx)),(aA ((trR m).ot))]])∧H 7=(bk 1 24 4 [[(iV ((trR m).i)),(iV (0:Int)),(V.ms 812 1 0 (0)),(V.ms 813 1 0 (0))]])∧H 10=(⟨0,false,false,0,0,[]⟩:Blk)∧H 72=(⟨0,false,false,0,0,[]⟩:Blk)∧H 812=(bz 1 25 1 [])∧H 813=(bz 1 25 1 [])∧True) ⟨t2,t4,t6,t7,t34,t35,t36,((aD _ _ (by decide)).trans ((aD _ _ (by decide)).trans h1)),((aD _ _ (by decide)).trans ((aD _ _ (by decide)).trans h2)),((aD _ _ (by decide)).trans ((aD _ _ (by decide)).trans h4)),(by rw [aG,h7,(congrArg Blk.ver h813)]; rfl),((aD _ _ (by decide)).trans ((aD _ _ (by decide)).trans h10)),((aD _ _ (by decide)).trans ((aD _ _ (by decide)).trans h72)),((aD _ _ (by decide)).trans ((aD _ _ (by decide)).trans h812)),(by rw [aD _ _ (by decide),aG,(congrArg Blk.ver h813)]),trivial⟩ ?_
 intro T H ⟨t2,t4,t6,t7,t34,t35,t36,h1,h2,h4,h7,h10,h72,h812,h813,_⟩
 refine aH fun Q3 n3 x3 y3 z3=>?_
 refine bW (fun mm T H=> ∃ (k:Nat) (v:Nat) (w:Nat) (v10:Nat) (v72:Nat),mm=(rch m).length - k∧T 2=(V.mp 2 1 0 0)∧T 4=(V.mp 4 1 0 0)∧T 6=(aM (clP (trR m)))∧T 7=(V.mp 7 1 0 0)∧T 34=(aM (clP (trR m)))∧T 35=(iV (((clP (trR m)).length:Nat):Int))∧T 36=(iV ((k:Nat):Int))∧H 1=(bk 1 24 4 [[(iV (m.i)),(iV (m.s)),(aA m.nx),(aA m.ot)]])∧H 2=(bk 1 24 4 [[(iV (0:Int)),(iV (0:Int)),V.nilsl,V.nilsl]])∧H 4=(bk 1 24 4 [[(iV ((trR m).i)),(iV ((trR m).s)),(aA ((trR m).nx)),(aA ((trR m).ot))]])∧H 7=(bk 1 24 4 [[(iV (m.i)),(iV (0:Int)),(V.ms 812 v 0 ((FK m k).length)),(V.ms 813 w 0 ((FK m k).length))]])∧((H 10).ver=v10∧(H 10).live=false)∧((H 72).ver=v72∧(H 72).live=false)∧H 812=(bz v 25 1 (List.map cL ((FK m k).map (iT m))))∧H 813=(bz w 25 1 (List.map cL ((FK m k).map (tOt m))))∧(k≤(rch m).length)) ?_ ?_
 ·
  refine ⟨_,0,1,1,0,0,rfl,t2,t4,(Eq.trans t6 (by first|rfl|exact congrArg iV p2|(rw [fs]; done)|(rw [fs,List.length_append]; first|done|rfl)|simp)),t7,(Eq.trans t34 (by first|rfl|exact congrArg iV p2|(rw [fs]; done)|(rw [fs,List.length_append]; first|done|rfl)|simp)),(Eq.trans t35 (by first|rfl|exact congrArg iV p2|(rw [fs]; done)|(rw [fs,List.length_append]; first|done|rfl)|simp)),(Eq.trans t36 rfl),h1,h2,h4,(Eq.trans h7 (by first|rfl|(rw [p2]; done)|(rw [p2]; rfl)|(rw [fs]; done)|(rw [fs]; rfl)|(rw [aB,e5]; first|done|rfl)|(rw [fs,List.length_append]; first|done|rfl)|(rw [fs,List.map_append (f:=iT m),← ej]; first|done|rfl)|(rw [fs,List.map_append (f:=tOt m),g3]; first|done|rfl)|(simp; done))),⟨(congrArg Blk.ver h10),congrArg Blk.live h10⟩,⟨(congrArg Blk.ver h72),congrArg Blk.live h72⟩,(Eq.trans h812 (by first|rfl|(rw [p2]; done)|(rw [p2]; rfl)|(rw [fs]; done)|(rw [fs]; rfl)|(rw [aB,e5]; first|done|rfl)|(rw [fs,List.length_append]; first|done|rfl)|(rw [fs,List.map_append (f:=iT m),← ej]; first|done|rfl)|(rw [fs,List.map_append (f:=tOt m),g3]; first|done|rfl)|(simp; done))),(Eq.trans h813 (by first|rfl|(rw [p2]; done)|(rw [p2]; rfl)|(rw [fs]; done)|(rw [fs]; rfl)|(rw [aB,e5]; first|done|rfl)|(rw [fs,List.length_append]; first|done|rfl)|(rw [fs,List.map_append (f:=iT m),← ej]; first|done|rfl)|(rw [fs,List.map_append (f:=tOt m),g3]; first|done|rfl)|(simp; done))),?_⟩
  · exact Nat.zero_le _
 intro mm T H ⟨k,v,w,v10,v72,hmm,t2,t4,t6,t7,t34,t35,t36,h1,h2,h4,h7,h10,h72,h812,h813,hk⟩ Q4 p14 p24 p34
 unfold aJZ
 refine W_r (bU t36 t35 (R_e ?_))
 refine aP rfl (fun c5=>?_) fun c5=>?_
 ·
  obtain ⟨g1,g2,g3,g4,g5,g6⟩:=p6 k (by omega)
  have fl:=eZ (m:=m) k
  have cl:=rH (f:=cRc m) k
  have n2:(nth (trR m).nx k).length=m.i.toNat:=by rw [g2,g4]
  have n3:(nth (trR m).ot k).length=m.i.toNat:=by rw [g3,g5]
  refine aJ (aH fun Q6 n6 x6 y6 z6=>(W_r (aC t36 (bO (i:=k) t34 t36 (by first|omega|(rw [fl]; omega)|(rw [eZ]; omega)) rfl (aK rfl rfl (aC rfl (aC rfl ?_)))))))
  refine R_e (aE (W_r (aC rfl (bD t7 h7 (aX rfl h7 rfl rfl (dX rfl h812 (by first|rfl|simp) (bU rfl rfl ?_)))))))
  refine R_e ?_
  refine aP rfl (fun c7=>?_) fun c7=>?_
  ·
   have fs:FK m (k+1)=FK m k:=aND (by rw [← g1,← fl]; exact c7)
   refine aW (x6 _ _ (.done (W_t (bJ t36 (@rfl V (iV ((1:Nat):Int))) (by first|omega|(rw [fl]; omega)|(rw [eZ]; omega)) (aC rfl (R_e ?_))))))
   refine p14 _ _ _ ?_ ⟨(k+1),v,w,v10,v72,rfl,t2,t4,t6,t7,t34,t35,(Eq.trans (@rfl V (iV ((k+1:Nat):Int))) (by first|rfl|exact congrArg iV p2|(rw [fs]; done)|(rw [fs,List.length_append]; first|done|rfl)|simp)),h1,h2,h4,(Eq.trans h7 (by first|rfl|(rw [p2]; done)|(rw [p2]; rfl)|(rw [fs]; done)|(rw [fs]; rfl)|(rw [aB,e5]; first|done|rfl)|(rw [fs,List.length_append]; first|done|rfl)|(rw [fs,List.map_append (f:=iT m),← ej]; first|done|rfl)|(rw [fs,List.map_append (f:=tOt m),g3]; first|done|rfl)|(simp; done))),h10,h72,(Eq.trans h812 (by first|rfl|(rw [p2]; done)|(rw [p2]; rfl)|(rw [fs]; done)|(rw [fs]; rfl)|(rw [aB,e5]; first|done|rfl)|(rw [fs,List.length_append]; first|done|rfl)|(rw [fs,List.map_append (f:=iT m),← ej]; first|done|rfl)|(rw [fs,List.map_append (f:=tOt m),g3]; first|done|rfl)|(simp; done))),(Eq.trans h813 (by first|rfl|(rw [p2]; done)|(rw [p2]; rfl)|(rw [fs]; done)|(rw [fs]; rfl)|(rw [aB,e5]; first|done|rfl)|(rw [fs,List.length_append]; first|done|rfl)|(rw [fs,List.map_append (f:=iT m),← ej]; first|done|rfl)|(rw [fs,List.map_append (f:=tOt m),g3]; first|done|rfl)|(simp; done))),?_⟩
   · omega
   · omega
  have fs:FK m (k+1)=FK m k++[k]:=aMB (by rw [← g1,← fl]; exact c7)
  refine aJ (W_r (eS (i:=10) (n:=v10) rfl (h10).1 (R_e (aE (W_r (bD t4 h4 (aX rfl h4 rfl rfl ?_)))))))
  refine aC rfl (bO (i:=k) (@rfl V (aA ((trR m).nx))) (@rfl V (iV ((k:Nat):Int))) (by first|omega|(rw [fl]; omega)|(rw [eZ]; omega)) rfl (aK rfl rfl (bR rfl (aC rfl (R_e (aH fun Q8 n8 x8 y8 z8=>?_))))))
  refine bW (fun mm T H=> ∃ (j:Nat) (u:Nat),mm=m.i.toNat - j∧T 2=(V.mp 2 1 0 0)∧T 4=(V.mp 4 1 0 0)∧T 6=(aM (clP (trR m)))∧T 7=(V.mp 7 1 0 0)∧T 8=(iV ((k:Nat):Int))∧T 10=(V.ms 10 u 0 (j))∧T 34=(aM (clP (trR m)))∧T 35=(iV (((clP (trR m)).length:Nat):Int))∧T 36=(iV ((k:Nat):Int))∧T 50=(aM (nth (trR m).nx k))∧T 51=(iV (((nth (trR m).nx k).length:Nat):Int))∧T 52=(iV ((j:Nat):Int))∧H 1=(bk 1 24 4 [[(iV (m.i)),(iV (m.s)),(aA m.nx),(aA m.ot)]])∧H 2=(bk 1 24 4 [[(iV (0:Int)),(iV (0:Int)),V.nilsl,V.nilsl]])∧H 4=(bk 1 24 4 [[(iV ((trR m).i)),(iV ((trR m).s)),(aA ((trR m).nx)),(aA ((trR m).ot))]])∧H 7=(bk 1 24 4 [[(iV (m.i)),(iV (0:Int)),(V.ms 812 v 0 ((FK m k).length)),(V.ms 813 w 0 ((FK m k).length))]])∧H 10=(bz u 3 1 (List.map cI (tbl (kN m k) j)))∧((H 72).ver=v72∧(H 72).live=false)∧H 812=(bz v 25 1 (List.map cL ((FK m k).map (iT m))))∧H 813=(bz w 25 1 (List.map cL ((FK m k).map (tOt m))))∧(j≤m.i.toNat)) ?_ ?_
  ·
   refine ⟨_,0,(v10+1),rfl,t2,t4,t6,t7,rfl,(Eq.trans (@rfl V (V.ms 10 (v10+1) 0 (0))) (by first|rfl|exact congrArg iV p2|(rw [fs]; done)|(rw [fs,List.length_append]; first|done|rfl)|simp)),t34,t35,t36,(Eq.trans (@rfl V (aM ((nth ((trR m).nx) (k))))) (by first|rfl|exact congrArg iV p2|(rw [fs]; done)|(rw [fs,List.length_append]; first|done|rfl)|simp)),(Eq.trans (@rfl V (iV ((((nth ((trR m).nx) (k))).length:Nat):Int))) (by first|rfl|exact congrArg iV p2|(rw [fs]; done)|(rw [fs,List.length_append]; first|done|rfl)|simp)),(Eq.trans (@rfl V (iV (0:Int))) rfl),h1,h2,h4,h7,(Eq.trans (@rfl Blk (bz (v10+1) 3 1 [])) (by first|rfl|(rw [p2]; done)|(rw [p2]; rfl)|(rw [fs]; done)|(rw [fs]; rfl)|(rw [aB,e5]; first|done|rfl)|(rw [fs,List.length_append]; first|done|rfl)|(rw [fs,List.map_append (f:=iT m),← ej]; first|done|rfl)|(rw [fs,List.map_append (f:=tOt m),g3]; first|done|rfl)|(simp; done))),h72,h812,h813,?_⟩
   · exact Nat.zero_le _
  intro mm T H ⟨j,u,hmm,t2,t4,t6,t7,t8,t10,t34,t35,t36,t50,t51,t52,h1,h2,h4,h7,h10,h72,h812,h813,hj⟩ Q9 p19 p29 p39
  unfold aKk
  refine W_r (bU t52 t51 (R_e ?_))
  refine aP rfl (fun c10=>?_) fun c10=>?_
  ·
   obtain ⟨y1,y2,y3⟩:=g6 j (by omega)
   rw [← g2] at y1
   have e5:nth (clP (trR m)) (nth (nth (trR m).nx k) j).toNat=kN m k j:=by rw [y1]; exact (p6 _ y3).1
   rw [← y1] at y2 y3
   refine aJ (aH fun Q11 n11 x11 y11 z11=>(W_r (bO (i:=j) t50 t52 (by first|omega|(rw [fl]; omega)|(rw [eZ]; omega)) rfl (aK rfl rfl (aC rfl (R_e (W_t ?_)))))))
   refine aC t10 (aC t6 (aC rfl (eT (i:=((nth (nth (trR m).nx k) (j)))) (@rfl V (aM (clP (trR m)))) (@rfl V (iV ((nth (nth (trR m).nx k) (j))))) (by first|omega|(rw [fl]; omega)|(rw [eZ]; omega)) (by first|omega|(rw [fl]; omega)|(rw [eZ]; omega)) rfl (aK rfl rfl (bZ rfl rfl (cA (l:=(tbl (kN m k) j)) (f:=cI) (x:=(((nth (clP (trR m)) ((nth (nth (trR m).nx k) (j))).toNat)))) (@rfl V (V.ms 10 u 0 (j))) h10 (by first|rfl|exact (aL _ _).symm|simp|omega) (@rfl V (V.sl [[(iV ((nth (clP (trR m)) ((nth (nth (trR m).nx k) (j))).toNat)))]])) rfl rfl (by first|omega|(rw [fl]; omega)|(rw [eZ]; omega)) (by first|omega|(rw [fl]; omega)|(rw [eZ]; omega)) (aC rfl ?_)))))))
   refine R_e (n11 _ _ (.done (W_t (bJ t52 (@rfl V (iV ((1:Nat):Int))) (by first|omega|(rw [fl]; omega)|(rw [eZ]; omega)) (aC rfl (R_e ?_))))))
   refine p19 _ _ _ ?_ ⟨(j+1),(u+1),rfl,t2,t4,t6,t7,t8,(Eq.trans (@rfl V (V.ms 10 (u+1) 0 (j+1))) (by first|rfl|exact congrArg iV p2|(rw [fs]; done)|(rw [fs,List.length_append]; first|done|rfl)|simp)),t34,t35,t36,t50,t51,(Eq.trans (@rfl V (iV ((j+1:Nat):Int))) (by first|rfl|exact congrArg iV p2|(rw [fs]; done)|(rw [fs,List.length_append]; first|done|rfl)|simp)),h1,h2,h4,h7,(Eq.trans (@rfl Blk (bz (u+1) 3 1 (List.map cI (tbl (kN m k) j++[((nth (clP (trR m)) ((nth (nth (trR m).nx k) (j))).toNat))])))) (by first|rfl|(rw [p2]; done)|(rw [p2]; rfl)|(rw [fs]; done)|(rw [fs]; rfl)|(rw [aB,e5]; first|done|rfl)|(rw [fs,List.length_append]; first|done|rfl)|(rw [fs,List.map_append (f:=iT m),← ej]; first|done|rfl)|(rw [fs,List.map_append (f:=tOt m),g3]; first|done|rfl)|(simp; done))),h72,h812,h813,?_⟩
   · omega
   · omega
  have ej:iT m k=tbl (kN m k) j:=by unfold iT kN; rw [show m.i.toNat=j by omega]
  refine aW (p39 _ _ _ (x8 _ _ (bQ (R:=fun T H=>T 2=(V.mp 2 1 0 0)∧T 4=(V.mp 4 1 0 0)∧T 6=(aM (clP (trR m)))∧T 7=(V.mp 7 1 0 0)∧T 8=(iV ((k:Nat):Int))∧T 10=(V.ms 10 u 0 (j))∧T 34=(aM (clP (trR m)))∧T 35=(iV (((clP (trR m)).length:Nat):Int))∧T 36=(iV ((k:Nat):Int))∧T 50=(aM (nth (trR m).nx k))∧T 51=(iV (((nth (trR m).nx k).length:Nat):Int))∧T 52=(iV ((j:Nat):Int))∧T 53=(V.bool (decide (((j:Nat):Int) < (((nth (trR m).nx k).length:Nat):Int))))∧H 1=(bk 1 24 4 [[(iV (m.i)),(iV (m.s)),(aA m.nx),(aA m.ot)]])∧H 2=(bk 1 24 4 [[(iV (0:Int)),(iV (0:Int)),V.nilsl,V.nilsl]])∧H 4=(bk 1 24 4 [[(iV ((trR m).i)),(iV ((trR m).s)),(aA ((trR m).nx)),(aA ((trR m).ot))]])∧H 7=(bk 1 24 4 [[(iV (m.i)),(iV (0:Int)),(V.ms 812 v 0 ((FK m k).length)),(V.ms 813 w 0 ((FK m k).length))]])∧H 10=(bz u 3 1 (List.map cI (tbl (kN m k) j)))∧((H 72).ver=v72∧(H 72).live=false)∧H 812=(bz v 25 1 (List.map cL ((FK m k).map (iT m))))∧H 813=(bz w 25 1 (List.map cL ((FK m k).map (tOt m))))∧True) ⟨t2,t4,t6,t7,t8,t10,t34,t35,t36,t50,t51,t52,(@rfl V (V.bool (decide (((j:Nat):Int) < (((nth (trR m).nx k).length:Nat):Int))))),h1,h2,h4,h7,h10,h72,h812,h813,trivial⟩ ?_)))
  intro T H ⟨t2,t4,t6,t7,t8,t10,t34,t35,t36,t50,t51,t52,t53,h1,h2,h4,h7,h10,h72,h812,h813,_⟩
  refine .freeze 10 (.done ?_)
  refine bQ (R:=fun T H=>T 2=(V.mp 2 1 0 0)∧T 4=(V.mp 4 1 0 0)∧T 6=(aM (clP (trR m)))∧T 7=(V.mp 7 1 0 0)∧T 8=(iV ((k:Nat):Int))∧T 10=(aM (tbl (kN m k) j))∧T 34=(aM (clP (trR m)))∧T 35=(iV (((clP (trR m)).length:Nat):Int))∧T 36=(iV ((k:Nat):Int))∧T 50=(aM (nth (trR m).nx k))∧T 51=(iV (((nth (trR m).nx k).length:Nat):Int))∧T 52=(iV ((j:Nat):Int))∧T 53=(V.bool (decide (((j:Nat):Int) < (((nth (trR m).nx k).length:Nat):Int))))∧H 1=(bk 1 24 4 [[(iV (m.i)),(iV (m.s)),(aA m.nx),(aA m.ot)]])∧H 2=(bk 1 24 4 [[(iV (0:Int)),(iV (0:Int)),V.nilsl,V.nilsl]])∧H 4=(bk 1 24 4 [[(iV ((trR m).i)),(iV ((trR m).s)),(aA ((trR m).nx)),(aA ((trR m).ot))]])∧H 7=(bk 1 24 4 [[(iV (m.i)),(iV (0:Int)),(V.ms 812 v 0 ((FK m k).length)),(V.ms 813 w 0 ((FK m k).length))]])∧((H 10).ver=u∧(H 10).live=false)∧((H 72).ver=v72∧(H 72).live=false)∧H 812=(bz v 25 1 (List.map cL ((FK m k).map (iT m))))∧H 813=(bz w 25 1 (List.map cL ((FK m k).map (tOt m))))∧True) ⟨(aO t2 rfl),(aO t4 rfl),(aO t6 rfl),(aO t7 rfl),(aO t8 rfl),(aO t10 (gE h10 (by first|rfl|simp) (l:=(tbl (kN m k) j)) rfl (by first|rfl|exact (aL _ _).symm|simp|omega))),(aO t34 rfl),(aO t35 rfl),(aO t36 rfl),(aO t50 rfl),(aO t51 rfl),(aO t52 rfl),(aO t53 rfl),(aN h1 (by decide)),(aN h2 (by decide)),(aN h4 (by decide)),(aN h7 (by decide)),(bL (congrArg Blk.ver h10)),(bK h72),(aN h812 (by decide)),(aN h813 (by decide)),trivial⟩ ?_
  intro T H ⟨t2,t4,t6,t7,t8,t10,t34,t35,t36,t50,t51,t52,t53,h1,h2,h4,h7,h10,h72,h812,h813,_⟩
  refine W_r (bD t7 h7 (aX rfl h7 rfl rfl (aC t10 (bZ rfl rfl (cA (l:=((FK m k).map (iT m))) (f:=cL) (x:=(tbl (kN m k) j)) (@rfl V (V.ms 812 v 0 ((FK m k).length))) h812 (by first|rfl|exact (aL _ _).symm|simp|omega) (@rfl V (V.sl [[(aM (tbl (kN m k) j))]])) rfl rfl (by first|omega|(rw [fl]; omega)|(rw [eZ]; omega)) (by first|omega|(rw [fl]; omega)|(rw [eZ]; omega)) (bD t7 h7 (bC (vs:=[(V.ms 812 (v+1) 0 (((FK m k).length)+1))]) (B':=(bk 1 24 4 [[(iV (m.i)),(iV (0:Int)),(V.ms 812 (v+1) 0 (((FK m k).length)+1)),(V.ms 813 w 0 ((FK m k).length))]])) rfl rfl rfl h7 (sB oB rfl rfl rfl rfl rfl) ?_)))))))
  refine R_e (aSA (bD t7 rfl (aX rfl rfl rfl rfl (eS (i:=72) (n:=v72) rfl (h72).1 (bD t4 h4 (aX rfl h4 rfl rfl (aC t8 ?_)))))))
  refine bO (i:=k) (@rfl V (aA ((trR m).ot))) (@rfl V (iV ((k:Nat):Int))) (by first|omega|(rw [fl]; omega)|(rw [eZ]; omega)) rfl (aK rfl rfl (jH (l:=([])) (m:=((nth ((trR m).ot) (k)))) (f:=cI) (@rfl V (V.ms 72 (v72+1) 0 (0))) (show _=(bz (v72+1) 3 1 (List.map cI ([]))) from (@rfl Blk (bz (v72+1) 3 1 []))) (by first|rfl|exact (aL _ _).symm|simp|omega) (@rfl V (aM ((nth ((trR m).ot) (k))))) (fun _=>rfl) (fun _=>rfl) (by first|omega|(rw [fl]; omega)|(rw [eZ]; omega)) (by first|omega|(rw [fl]; omega)|(rw [eZ]; omega)) (bZ rfl rfl (rI (l:=((FK m k).map (tOt m))) (f:=cL) (@rfl V (V.ms 813 w 0 ((FK m k).length))) h813 (by first|rfl|exact (aL _ _).symm|simp|omega) (@rfl V (V.sl [[(V.ms 72 (v72+2) 0 (0+((nth ((trR m).ot) (k))).length))]])) (by simp [cP,V.one]) (by first|omega|(simp; omega)|(simp; done)) (by first|omega|(simp; omega)|(simp; done)) (bD t7 rfl (bC (vs:=[(V.ms 813 (w+1) 0 (((FK m k).length)+1))]) (B':=(bk 1 24 4 [[(iV (m.i)),(iV (0:Int)),(V.ms 812 (v+1) 0 (((FK m k).length)+1)),(V.ms 813 (w+1) 0 (((FK m k).length)+1))]])) rfl rfl rfl rfl (sB oB rfl rfl rfl rfl rfl) (R_e ?_)))))))
  refine ⟨by simp [ddB,apV,iW,aFC,t2,t34,t35,t36,t4,t6,t7,t8],?_⟩
  refine n6 _ _ (bQ (R:=fun T H=>T 2=(V.mp 2 1 0 0)∧T 4=(V.mp 4 1 0 0)∧T 6=(aM (clP (trR m)))∧T 7=(V.mp 7 1 0 0)∧T 34=(aM (clP (trR m)))∧T 35=(iV (((clP (trR m)).length:Nat):Int))∧T 36=(iV ((k:Nat):Int))∧H 1=(bk 1 24 4 [[(iV (m.i)),(iV (m.s)),(aA m.nx),(aA m.ot)]])∧H 2=(bk 1 24 4 [[(iV (0:Int)),(iV (0:Int)),V.nilsl,V.nilsl]])∧H 4=(bk 1 24 4 [[(iV ((trR m).i)),(iV ((trR m).s)),(aA ((trR m).nx)),(aA ((trR m).ot))]])∧H 7=(bk 1 24 4 [[(iV (m.i)),(iV (0:Int)),(V.ms 812 (v+1) 0 (((FK m k).length)+1)),(V.ms 813 (w+1) 0 (((FK m k).length)+1))]])∧((H 10).ver=u∧(H 10).live=false)∧H 72=(bz (v72+2) 3 1 (List.map cI ([]++((nth ((trR m).ot) (k))))))∧H 812=(bz (v+1) 25 1 (List.map cL ((FK m k).map (iT m)++[tbl (kN m k) j])))∧H 813=(bz (w+1) 25 1 (List.map cL ((FK m k).map (tOt m))++[[(V.ms 72 (v72+2) 0 (0+((nth ((trR m).ot) (k))).length))]]))∧True) ⟨t2,t4,t6,t7,t34,t35,t36,h1,h2,h4,rfl,h10,rfl,rfl,rfl,trivial⟩ ?_)
  intro T H ⟨t2,t4,t6,t7,t34,t35,t36,h1,h2,h4,h7,h10,h72,h812,h813,_⟩
  refine aAy (id:=72) (id2:=813) (rows0:=List.map cL ((FK m k).map (tOt m))) (off:=0) (r:=[(V.ms 72 (v72+2) 0 (0+((nth ((trR m).ot) (k))).length))]) (m:=([]++((nth ((trR m).ot) (k))))) (g:=cI) (by decide) h72 h813 (by first|rfl|exact (aL _ _).symm|simp|omega) rfl (.done ?_)
  refine bQ (R:=fun T H=>T 2=(V.mp 2 1 0 0)∧T 4=(V.mp 4 1 0 0)∧T 6=(aM (clP (trR m)))∧T 7=(V.mp 7 1 0 0)∧T 34=(aM (clP (trR m)))∧T 35=(iV (((clP (trR m)).length:Nat):Int))∧T 36=(iV ((k:Nat):Int))∧H 1=(bk 1 24 4 [[(iV (m.i)),(iV (m.s)),(aA m.nx),(aA m.ot)]])∧H 2=(bk 1 24 4 [[(iV (0:Int)),(iV (0:Int)),V.nilsl,V.nilsl]])∧H 4=(bk 1 24 4 [[(iV ((trR m).i)),(iV ((trR m).s)),(aA ((trR m).nx)),(aA ((trR m).ot))]])∧H 7=(bk 1 24 4 [[(iV (m.i)),(iV (0:Int)),(V.ms 812 (v+1) 0 (((FK m k).length)+1)),(V.ms 813 (w+1) 0 (((FK m k).length)+1))]])∧((H 10).ver=u∧(H 10).live=false)∧((H 72).ver=v72+2∧(H 72).live=false)∧H 812=(bz (v+1) 25 1 (List.map cL ((FK m k).map (iT m)++[tbl (kN m k) j])))∧H 813=(bz (w+1) 25 1 (List.map cL ((FK m k).map (tOt m)++[[]++((nth ((trR m).ot) (k)))])))∧True) ⟨(aO t2 rfl),(aO t4 rfl),(aO t6 rfl),(aO t7 rfl),(aO t34 rfl),(aO t35 rfl),(aO t36 rfl),((aD _ _ (by decide)).trans (aN h1 (by decide))),((aD _ _ (by decide)).trans (aN h2 (by decide))),((aD _ _ (by decide)).trans (aN h4 (by decide))),((aD _ _ (by decide)).trans (aN h7 (by decide))),⟨(congrArg Blk.ver (aD _ _ (by decide))).trans (bK h10).1,(congrArg Blk.live (aD _ _ (by decide))).trans (bK h10).2⟩,⟨(congrArg Blk.ver (aD _ _ (by decide))).trans (bL (congrArg Blk.ver h72)).1,(congrArg Blk.live (aD _ _ (by decide))).trans (bL (congrArg Blk.ver h72)).2⟩,((aD _ _ (by decide)).trans (aN h812 (by decide))),(Eq.trans (aG _ _ _) (zZ rfl)),trivial⟩ ?_
  intro T H ⟨t2,t4,t6,t7,t34,t35,t36,h1,h2,h4,h7,h10,h72,h812,h813,_⟩
  refine W_t (bJ t36 (@rfl V (iV ((1:Nat):Int))) (by first|omega|(rw [fl]; omega)|(rw [eZ]; omega)) (aC rfl (R_e ?_)))
  refine p14 _ _ _ ?_ ⟨(k+1),(v+1),(w+1),u,(v72+2),rfl,t2,t4,t6,t7,t34,t35,(Eq.trans (@rfl V (iV ((k+1:Nat):Int))) (by first|rfl|exact congrArg iV p2|(rw [fs]; done)|(rw [fs,List.length_append]; first|done|rfl)|simp)),h1,h2,h4,(Eq.trans h7 (by first|rfl|(rw [p2]; done)|(rw [p2]; rfl)|(rw [fs]; done)|(rw [fs]; rfl)|(rw [aB,e5]; first|done|rfl)|(rw [fs,List.length_append]; first|done|rfl)|(rw [fs,List.map_append (f:=iT m),← ej]; first|done|rfl)|(rw [fs,List.map_append (f:=tOt m),g3]; first|done|rfl)|(simp; done))),h10,h72,(Eq.trans h812 (by first|rfl|(rw [p2]; done)|(rw [p2]; rfl)|(rw [fs]; done)|(rw [fs]; rfl)|(rw [aB,e5]; first|done|rfl)|(rw [fs,List.length_append]; first|done|rfl)|(rw [fs,List.map_append (f:=iT m),← ej]; first|done|rfl)|(rw [fs,List.map_append (f:=tOt m),g3]; first|done|rfl)|(simp; done))),(Eq.trans h813 (by first|rfl|(rw [p2]; done)|(rw [p2]; rfl)|(rw [fs]; done)|(rw [fs]; rfl)|(rw [aB,e5]; first|done|rfl)|(rw [fs,List.length_append]; first|done|rfl)|(rw [fs,List.map_append (f:=iT m),← ej]; first|done|rfl)|(rw [fs,List.map_append (f:=tOt m),g3]; first|done|rfl)|(simp; done))),?_⟩
  · omega
  · omega
 have ek:(rch m).length=k:=by omega
 refine aW (p34 _ _ _ (x3 _ _ (.done (W_r (aX t7 h7 rfl rfl (bC (vs:=[(iV (m.i)),(iV (0:Int)),(V.ms 812 v 0 ((FK m k).length)),(V.ms 813 w 0 ((FK m k).length))]) (B':=(bk 1 24 4 [[(iV (m.i)),(iV (0:Int)),(V.ms 812 v 0 ((FK m k).length)),(V.ms 813 w 0 ((FK m k).length))]])) t2 rfl rfl h2 (sB oB rfl rfl rfl rfl rfl) (aC rfl ?_)))))))
 refine R_e (bS ?_)
 refine fF (eC (u:=(V.agg [(iV (m.i)),(iV (0:Int)),(V.ms 812 v 0 ((FK m k).length)),(V.ms 813 w 0 ((FK m k).length))])) t2 (@rfl Blk (bk 1 24 4 [[(iV (m.i)),(iV (0:Int)),(V.ms 812 v 0 ((FK m k).length)),(V.ms 813 w 0 ((FK m k).length))]])) (lB oB rfl rfl)) (fD (@rfl V (iV (0:Int)))) (dQ (bA (aV ?_) (bA (aV ?_) (bA (kQ h812 (by first|rfl|simp) (l:=((FK m k).map (iT m))) rfl (by first|rfl|exact (aL _ _).symm|simp|omega) (fun _=>by simp) ?_) (bA (kQ h813 (by first|rfl|simp) (l:=((FK m k).map (tOt m))) rfl (by first|rfl|exact (aL _ _).symm|simp|omega) (fun _=>by simp) ?_) rfl))))) (aV ?_)
 · rw [mnR,if_pos hm]; unfold mnM; try first|rfl|(rw [ek]; done)|(rw [ek]; rfl)
 · rw [mnR,if_pos hm]; unfold mnM; try first|rfl|(rw [ek]; done)|(rw [ek]; rfl)
 · rw [mnR,if_pos hm]; unfold mnM; try first|rfl|(rw [ek]; done)|(rw [ek]; rfl)
 · rw [mnR,if_pos hm]; unfold mnM; try first|rfl|(rw [ek]; done)|(rw [ek]; rfl)
 · exact hm.symm
theorem aCg (m:M):bE Tryz.prog 12 [(V.agg [(iV (m.i)),(iV (m.s)),(aA m.nx),(aA m.ot)])] (V.tup [(V.agg [(iV ((lwR m).i)),(iV ((lwR m).s)),(aA ((lwR m).nx)),(aA ((lwR m).ot))]),(iV (aZ m))]):=by
 refine pW Tryz.func12 aF3 fun hB=>?_
 unfold s12
 dsimp only
 refine W_r (eR (i:=1) (n:=0) (m:=4) (cs:=[(iV (m.i)),(iV (m.s)),(aA m.nx),(aA m.ot)]) rfl (congrArg Blk.ver rfl) rfl rfl rfl (dB (i:=2) (n:=0) (m:=4) rfl (congrArg Blk.ver rfl) rfl (aC rfl (R_e (aE (W_r (aX rfl rfl rfl rfl ?_)))))))
 refine bH (iL m) rfl (aC rfl (R_e (aE (W_r (aC rfl (eV rfl rfl (R_e ?_)))))))
 refine aP rfl (fun c1=>?_) fun c1=>?_
 ·
  have d0:=c1
  refine aE (W_r (dO rfl rfl (aC rfl (bC (vs:=[(iV (0:Int)),(iV (0:Int)),V.nilsl,V.nilsl]) (B':=(bk 1 24 4 [[(iV (0:Int)),(iV (0:Int)),V.nilsl,V.nilsl]])) rfl rfl rfl rfl (sB oB rfl rfl rfl rfl rfl) (aC rfl (R_e (bF ?_)))))))
  refine fF (eC (u:=(V.agg [(iV (0:Int)),(iV (0:Int)),V.nilsl,V.nilsl])) rfl (@rfl Blk (bk 1 24 4 [[(iV (0:Int)),(iV (0:Int)),V.nilsl,V.nilsl]])) (lB oB rfl rfl)) (fD (@rfl V (iV (aZ m)))) (dQ (bA (aV ?_) (bA (aV ?_) (bA (dA ?_) (bA (dA ?_) rfl))))) (eD (by simp) rfl)
  · rw [lwR,if_neg d0]; try rfl
  · rw [lwR,if_neg d0]; try rfl
  · rw [lwR,if_neg d0]; try rfl
  · rw [lwR,if_neg d0]; try rfl
 have hm:aZ m=0:=by omega
 refine aJ (W_r (aX rfl rfl rfl rfl (aDe (cM rfl gN) (jR (cM rfl (cM rfl gN)) (aL9 m 0 0 0 0 0 0 0 hm _ (congrArg Blk.ver rfl) (congrArg Blk.ver rfl) (congrArg Blk.ver rfl) ⟨(congrArg Blk.ver rfl),rfl⟩ ⟨(congrArg Blk.ver rfl),rfl⟩ (congrArg Blk.ver rfl) (congrArg Blk.ver rfl) (@rfl Blk (bk 1 24 4 [[(iV (m.i)),(iV (m.s)),(aA m.nx),(aA m.ot)]]))) (bH (aEd ((lwM m))) rfl (eK rfl rfl (eK rfl rfl ?_)))))))
 refine bC (vs:=[(iV ((mnR ((lwM m))).i)),(iV ((mnR ((lwM m))).s)),(aA ((mnR ((lwM m))).nx)),(aA ((mnR ((lwM m))).ot))]) (B':=(bk 1 24 4 [[(iV ((mnR ((lwM m))).i)),(iV ((mnR ((lwM m))).s)),(aA ((mnR ((lwM m))).nx)),(aA ((mnR ((lwM m))).ot))]])) rfl rfl rfl rfl (sB oB rfl rfl rfl rfl rfl) (aC rfl (R_e (bS ?_)))
 refine fF (eC (u:=(V.agg [(iV ((mnR ((lwM m))).i)),(iV ((mnR ((lwM m))).s)),(aA ((mnR ((lwM m))).nx)),(aA ((mnR ((lwM m))).ot))])) rfl (@rfl Blk (bk 1 24 4 [[(iV ((mnR ((lwM m))).i)),(iV ((mnR ((lwM m))).s)),(aA ((mnR ((lwM m))).nx)),(aA ((mnR ((lwM m))).ot))]])) (lB oB rfl rfl)) (fD (@rfl V (iV (aZ ((lwM m)))))) (dQ (bA (aV ?_) (bA (aV ?_) (bA (lQ ?_ (fun _=>by simp)) (bA (lQ ?_ (fun _=>by simp)) rfl))))) (aV ?_)
 · rw [lwR,if_pos hm]
 · rw [lwR,if_pos hm]
 · rw [lwR,if_pos hm]
 · rw [lwR,if_pos hm]
 · rw [aGu hm,hm]
def aQg:List SO:=[
 qF 15 0 1,
 ql 16 15,
 qF 17 1 1,
 ql 18 17,
 qF 19 2 1,
 ql 20 19,
 sO 21 (.build [.int .i64 0,.int .i64 0,.nilsl,.nilsl] [(0,1,.t 16),(1,1,.t 18),(2,1,.t 20)]),
 sO 5 (.alloc 24 [.int .i64 0,.int .i64 0,.nilsl,.nilsl]),
 sN (.store 4 (.t 5) (.t 21))]
def aL4:List SO:=[
 qM 35 7,
 qF 36 3 1,
 ql 37 36,
 qM 38 6,
 qA 39 1 37 38,
 ql 40 39,
 qM 41 8,
 qA 42 1 40 41,
 ql 43 42,
 qC 44 .quo 43 256,
 sO 45 (.bslice 3 1 false [.int .i64 0] 1 [(0,.t 44)]),
 sO 46 (.append 3 1 8 (.t 35) (.t 45)),
 qM 7 46]
def aKK:SC:=.seq (.seq (.reg [qM 29 8,qF 30 0 1,ql 31 30,qP 32 .lss 29 31]) (.cond (.t 32) (.skip) (.exit 2))) (.seq (.block 3 (.reg aL4)) (.reg [qM 33 8,qC 34 .add 33 1,qM 8 34]))
def aLH:List SO:=[
 qF 47 3 5,
 ql 48 47,
 qM 49 7,
 sO 50 (.bslice 25 1 false [.nilsl] 1 [(0,.t 49)]),
 sO 51 (.append 25 1 24 (.t 48) (.t 50)),
 qF 52 3 5,
 sN (.store 1 (.t 52) (.t 51))]
def aKe:SC:=.seq (.seq (.reg [qM 22 6,qF 23 3 1,ql 24 23,qN 25 24,qP 26 .lss 22 25]) (.cond (.t 26) (.skip) (.exit 0))) (.seq (.block 1 (.seq (.reg [sO 7 (.lazy 3 1)]) (.seq (.seq (.reg [qI 8 0]) (.block 2 (.loop aKK))) (.reg aLH)))) (.reg [qM 27 6,qC 28 .add 27 1,qM 6 28]))
def s13:SF:=⟨57,[.cell 2 true 4,.tmp 3],.seq (.reg [sO 1 (.box 24 4 (.t 0)),sO 2 (.alloc 24 [.int .i64 0,.int .i64 0,.nilsl,.nilsl]),qI 3 0]) (.seq (.seq (.reg [qL 9 4 1,sO 10 (.call false 32 [.t 9]),qM 4 10]) (.seq (.reg [qM 11 4,qC 12 .neq 11 0]) (.cond (.t 12) (.seq (.reg [sO 13 (.build [.int .i64 0,.int .i64 0,.nilsl,.nilsl] []),qM 14 4,sN (.store 4 (.t 2) (.t 13)),qM 3 14]) (.ret)) (.skip)))) (.seq (.reg aQg) (.seq (.seq (.reg [qI 6 0]) (.block 0 (.loop aKe))) (.seq (.reg [qL 53 4 5,sO 54 (.call false 34 [.t 53]),qE 55 54 0,qE 56 54 1,sN (.store 4 (.t 2) (.t 55)),qM 3 56]) (.ret)))))⟩
theorem aNh:aR Tryz.prog ⟨[39,75,135,136,137,155,161,186,188,194,195,196,211,212,213,226,230,233,238],[7],[],[]⟩ Tryz.f13=some s13:=by kernel_rfl
def aQ8:List SO:=[
 qL 16 4 1,
 sO 17 (.call false 52 [.t 16]),
 qM 15 17,
 qE 18 15 0,
 qE 19 15 1,
 qM 4 18,
 qM 5 19]
def aKq:SC:=.seq (.seq (.reg [qM 31 8,qM 32 7,qN 33 32,qP 34 .lss 31 33]) (.cond (.t 34) (.skip) (.exit 0))) (.seq (.block 1 (.reg [qM 37 7,qM 38 8,qA 39 1 37 38,sN (.store 1 (.t 39) (.c (.int .i64 (-1))))])) (.reg [qM 35 8,qC 36 .add 35 1,qM 8 36]))
def aLG:List SO:=[
 qM 40 7,
 qM 41 4,
 qF 42 1 1,
 ql 43 42,
 qA 44 1 41 43,
 ql 45 44,
 qA 46 1 40 45,
 sN (.store 1 (.t 46) (.c (.int .i64 0)))]
def aMm:List SO:=[
 qF 62 2 1,
 ql 63 62,
 qM 64 6,
 qM 65 10,
 qA 66 1 64 65,
 ql 67 66,
 qA 68 1 63 67,
 ql 69 68,
 qM 70 13,
 qA 71 1 69 70,
 ql 72 71,
 qM 14 72]
def aPu:List SO:=[
 qM 73 7,
 qM 74 4,
 qM 75 14,
 qA 76 1 74 75,
 ql 77 76,
 qA 78 1 73 77,
 ql 79 78,
 qC 80 .lss 79 0]
def aLD:List SO:=[
 qM 81 7,
 qM 82 4,
 qM 83 14,
 qA 84 1 82 83,
 ql 85 84,
 qM 86 6,
 qN 87 86,
 qA 88 1 81 85,
 sN (.store 1 (.t 88) (.t 87))]
def aMa:List SO:=[
 qM 93 11,
 qM 94 7,
 qM 95 4,
 qM 96 14,
 qA 97 1 95 96,
 ql 98 97,
 qA 99 1 94 98,
 ql 100 99,
 sO 101 (.bslice 3 1 false [.int .i64 0] 1 [(0,.t 100)]),
 sO 102 (.append 3 1 8 (.t 93) (.t 101)),
 qM 11 102]
def aMp:List SO:=[
 qM 103 12,
 qF 104 3 1,
 ql 105 104,
 qM 106 6,
 qM 107 10,
 qA 108 1 106 107,
 ql 109 108,
 qA 110 1 105 109,
 ql 111 110,
 qM 112 13,
 qA 113 1 111 112,
 ql 114 113,
 sO 115 (.bslice 3 1 false [.int .i64 0] 1 [(0,.t 114)]),
 sO 116 (.append 3 1 8 (.t 103) (.t 115)),
 qM 12 116]
def aJ3:SC:=.seq (.seq (.reg [qM 56 13,qF 57 0 1,ql 58 57,qP 59 .lss 56 58]) (.cond (.t 59) (.skip) (.exit 4))) (.seq (.block 5 (.seq (.reg aMm) (.seq (.seq (.reg aPu) (.cond (.t 80) (.seq (.reg aLD) (.reg [qM 89 6,qM 90 14,sO 91 (.bslice 3 1 false [.int .i64 0] 1 [(0,.t 90)]),sO 92 (.append 3 1 8 (.t 89) (.t 91)),qM 6 92])) (.skip))) (.seq (.reg aMa) (.reg aMp))))) (.reg [qM 60 13,qC 61 .add 60 1,qM 13 61]))
def aNc:List SO:=[
 qF 117 2 9,
 ql 118 117,
 qM 119 11,
 sO 120 (.bslice 25 1 false [.nilsl] 1 [(0,.t 119)]),
 sO 121 (.append 25 1 24 (.t 118) (.t 120)),
 qF 122 2 9,
 sN (.store 1 (.t 122) (.t 121))]
def aMg:List SO:=[
 qF 123 3 9,
 ql 124 123,
 qM 125 12,
 sO 126 (.bslice 25 1 false [.nilsl] 1 [(0,.t 125)]),
 sO 127 (.append 25 1 24 (.t 124) (.t 126)),
 qF 128 3 9,
 sN (.store 1 (.t 128) (.t 127))]
def aKE:SC:=.seq (.seq (.reg [qM 50 10,qM 51 6,qN 52 51,qP 53 .lss 50 52]) (.cond (.t 53) (.skip) (.exit 2))) (.seq (.block 3 (.seq (.reg [sO 11 (.lazy 3 1),sO 12 (.lazy 3 1)]) (.seq (.seq (.reg [qI 13 0]) (.block 4 (.loop aJ3))) (.seq (.reg aNc) (.reg aMg))))) (.reg [qM 54 10,qC 55 .add 54 1,qM 10 55]))
def s34:SF:=⟨130,[.cell 2 true 4,.tmp 3],.seq (.reg [sO 1 (.box 24 4 (.t 0)),sO 2 (.alloc 24 [.int .i64 0,.int .i64 0,.nilsl,.nilsl]),qI 3 0]) (.seq (.reg aQ8) (.seq (.seq (.reg [qM 20 5,qC 21 .neq 20 0]) (.cond (.t 21) (.seq (.reg [sO 22 (.build [.int .i64 0,.int .i64 0,.nilsl,.nilsl] []),qM 23 5,sN (.store 4 (.t 2) (.t 22)),qM 3 23]) (.ret)) (.skip))) (.seq (.reg [qF 24 1 1,ql 25 24,sO 26 (.bslice 3 1 true [.int .i64 0] 1 [(0,.t 25)]),qM 6 26]) (.seq (.reg [qF 27 2 1,ql 28 27,qN 29 28,sO 30 (.mks 3 1 8 [.int .i64 0] (.t 29) (.t 29)),qM 7 30]) (.seq (.seq (.reg [qI 8 0]) (.block 0 (.loop aKq))) (.seq (.reg aLG) (.seq (.reg [qF 47 0 1,ql 48 47,sO 49 (.build [.int .i64 0,.int .i64 0,.nilsl,.nilsl] [(0,1,.t 48)]),sO 9 (.alloc 24 [.int .i64 0,.int .i64 0,.nilsl,.nilsl]),sN (.store 4 (.t 9) (.t 49))]) (.seq (.seq (.reg [qI 10 0]) (.block 2 (.loop aKE))) (.seq (.reg [qL 129 4 9,sN (.store 4 (.t 2) (.t 129)),qI 3 0]) (.ret))))))))))⟩
theorem aLJ:aR Tryz.prog ⟨[39,75,135,136,137,155,161,186,188,194,195,196,211,212,213,226,230,233,238],[11,12,26],[],[]⟩ Tryz.f34=some s34:=by kernel_rfl
def aRo:List SO:=[
 qL 4 4 1,
 qF 5 2 1,
 ql 6 5,
 qN 7 6,
 sO 8 (.call false 82 [.t 4,.t 7]),
 qE 9 8 0,
 qE 10 8 1,
 qM 2 9,
 qM 3 10]
def s52:SF:=⟨11,[.tmp 2,.tmp 3],.seq (.reg [sO 1 (.box 24 4 (.t 0)),sO 2 (.mv (.c (.nilsl))),qI 3 0]) (.seq (.reg aRo) (.ret))⟩
theorem aNf:aR Tryz.prog ⟨[39,75,135,136,137,155,161,186,188,194,195,196,211,212,213,226,230,233,238],[],[],[]⟩ Tryz.f52=some s52:=by kernel_rfl
def aR0:List SO:=[
 qM 18 8,
 qM 19 1,
 qP 20 .lss 18 19,
 qM 21 20,
 ⟨some (21,true),some 22,.mv (.t 8)⟩,
 ⟨some (21,true),some 23,.fld 2 (.t 2)⟩,
 ⟨some (21,true),some 24,.load false 1 (.t 23)⟩,
 ⟨some (21,true),some 25,.len (.t 24)⟩,
 ⟨some (21,true),some 26,.bin .lss (.t 22) (.t 25)⟩,
 sO 27 (.pick (.t 21) (.t 26) (.c (.bool false)))]
def aKc:SC:=.seq (.seq (.reg aR0) (.cond (.t 27) (.skip) (.exit 0))) (.seq (.block 1 (.reg [qL 30 4 2,qM 31 7,sO 32 (.call false 124 [.t 30,.t 31]),qM 7 32])) (.reg [qM 28 8,qC 29 .add 28 1,qM 8 29]))
def s82:SF:=⟨34,[.tmp 4,.tmp 5],.seq (.reg [sO 2 (.box 24 4 (.t 0)),sO 4 (.mv (.c (.nilsl))),qI 5 0]) (.seq (.seq (.reg [qL 9 4 2,sO 10 (.call false 32 [.t 9]),qM 6 10]) (.seq (.reg [qM 11 6,qC 12 .neq 11 0]) (.cond (.t 12) (.seq (.reg [qM 13 6,sO 4 (.mv (.c (.nilsl))),qM 5 13]) (.ret)) (.skip)))) (.seq (.reg [qF 14 2 2,ql 15 14,qN 16 15,sO 17 (.mks 3 1 8 [.int .i64 0] (.t 16) (.t 16)),qM 7 17]) (.seq (.seq (.reg [qI 8 0]) (.block 0 (.loop aKc))) (.seq (.reg [qM 33 7,qM 4 33,qI 5 0]) (.ret)))))⟩
theorem aM9:aR Tryz.prog ⟨[39,75,135,136,137,155,161,186,188,194,195,196,211,212,213,226,230,233,238],[],[],[]⟩ Tryz.f82=some s82:=by kernel_rfl
def aHp:List SO:=[
 qM 24 1,
 qM 25 7,
 qA 26 1 24 25,
 ql 27 26,
 qM 28 1,
 qM 29 9,
 qA 30 1 28 29,
 ql 31 30,
 qP 32 .eql 27 31,
 qM 10 32]
def aIu:List SO:=[
 qM 33 11,
 qF 34 0 2,
 ql 35 34,
 qP 36 .lss 33 35,
 qM 37 36,
 ⟨some (37,true),some 38,.mv (.t 10)⟩,
 sO 39 (.pick (.t 37) (.t 38) (.c (.bool false)))]
def aI6:List SO:=[
 qF 42 3 2,
 ql 43 42,
 qM 44 7,
 qA 45 1 43 44,
 ql 46 45,
 qM 47 11,
 qA 48 1 46 47,
 ql 49 48,
 qF 50 3 2,
 ql 51 50,
 qM 52 9,
 qA 53 1 51 52,
 ql 54 53,
 qM 55 11,
 qA 56 1 54 55,
 ql 57 56,
 qP 58 .eql 49 57,
 qM 59 58,
 ⟨some (59,true),some 60,.mv (.t 1)⟩,
 ⟨some (59,true),some 61,.fld 2 (.t 2)⟩,
 ⟨some (59,true),some 62,.load false 1 (.t 61)⟩,
 ⟨some (59,true),some 63,.mv (.t 7)⟩,
 ⟨some (59,true),some 64,.idx 1 (.t 62) (.t 63)⟩,
 ⟨some (59,true),some 65,.load false 1 (.t 64)⟩,
 ⟨some (59,true),some 66,.mv (.t 11)⟩,
 ⟨some (59,true),some 67,.idx 1 (.t 65) (.t 66)⟩,
 ⟨some (59,true),some 68,.load false 1 (.t 67)⟩,
 ⟨some (59,true),some 69,.idx 1 (.t 60) (.t 68)⟩,
 ⟨some (59,true),some 70,.load false 1 (.t 69)⟩,
 ⟨some (59,true),some 71,.mv (.t 1)⟩,
 ⟨some (59,true),some 72,.fld 2 (.t 2)⟩,
 ⟨some (59,true),some 73,.load false 1 (.t 72)⟩,
 ⟨some (59,true),some 74,.mv (.t 9)⟩,
 ⟨some (59,true),some 75,.idx 1 (.t 73) (.t 74)⟩,
 ⟨some (59,true),some 76,.load false 1 (.t 75)⟩,
 ⟨some (59,true),some 77,.mv (.t 11)⟩,
 ⟨some (59,true),some 78,.idx 1 (.t 76) (.t 77)⟩,
 ⟨some (59,true),some 79,.load false 1 (.t 78)⟩,
 ⟨some (59,true),some 80,.idx 1 (.t 71) (.t 79)⟩,
 ⟨some (59,true),some 81,.load false 1 (.t 80)⟩,
 ⟨some (59,true),some 82,.bin .eql (.t 70) (.t 81)⟩,
 sO 83 (.pick (.t 59) (.t 82) (.c (.bool false))),
 qM 10 83]
def aGe:SC:=.seq (.seq (.reg aIu) (.cond (.t 39) (.skip) (.exit 4))) (.seq (.block 5 (.reg aI6)) (.reg [qM 40 11,qC 41 .add 40 1,qM 11 41]))
def aGT:SC:=.seq (.seq (.reg [qM 20 9,qC 21 .geq 20 0]) (.cond (.t 21) (.skip) (.exit 2))) (.seq (.block 3 (.seq (.reg aHp) (.seq (.seq (.reg [qI 11 0]) (.block 4 (.loop aGe))) (.seq (.reg [qM 84 10]) (.cond (.t 84) (.reg [qM 85 5,qM 86 9,qA 87 1 85 86,ql 88 87,qM 8 88]) (.skip)))))) (.reg [qM 22 9,qC 23 .sub 22 1,qM 9 23]))
def aG3:SC:=.seq (.seq (.reg [qM 12 7,qM 13 1,qN 14 13,qP 15 .lss 12 14]) (.cond (.t 15) (.skip) (.exit 0))) (.seq (.block 1 (.seq (.reg [sO 8 (.mv (.c (.int .i64 (-1))))]) (.seq (.seq (.reg [qM 18 7,qC 19 .sub 18 1,qM 9 19]) (.block 2 (.loop aGT))) (.seq (.seq (.reg [qM 89 8,qC 90 .lss 89 0]) (.cond (.t 90) (.seq (.reg [qM 91 6,qM 8 91]) (.reg [qM 92 6,qC 93 .add 92 1,qM 6 93])) (.skip))) (.reg [qM 94 5,qM 95 8,sO 96 (.bslice 3 1 false [.int .i64 0] 1 [(0,.t 95)]),sO 97 (.append 3 1 8 (.t 94) (.t 96)),qM 5 97]))))) (.reg [qM 16 7,qC 17 .add 16 1,qM 7 17]))
def aR2:SF:=⟨99,[.tmp 4],.seq (.reg [sO 2 (.box 24 4 (.t 0)),sO 4 (.mv (.c (.nilsl)))]) (.seq (.reg [sO 5 (.lazy 3 1)]) (.seq (.reg [qI 6 0]) (.seq (.seq (.reg [qI 7 0]) (.block 0 (.loop aG3))) (.seq (.reg [qM 98 5,qM 4 98]) (.ret)))))⟩
theorem aHP:aR Tryz.prog ⟨[39,75,135,136,137,155,161,186,188,194,195,196,211,212,213,226,230,233,238],[5],[],[]⟩ Tryz.f124=some aR2:=by kernel_rfl
theorem aCF (m:M) (c:List Int) (hm:aZ m=0) (hc:c.length=m.nx.length) (hr: ∀ s,s < c.length→0≤nth c s):bE Tryz.prog 124 [(V.agg [(iV (m.i)),(iV (m.s)),(aA m.nx),(aA m.ot)]),(aM c)] (aM (tbl (nmf (fgC m c)) c.length)):=by
 refine pW Tryz.func124 aHP fun hB=>?_
 unfold aR2
 dsimp only
 have mo:=cJ hm
 refine W_r (eR (i:=2) (n:=0) (m:=4) (cs:=[(iV (m.i)),(iV (m.s)),(aA m.nx),(aA m.ot)]) rfl (congrArg Blk.ver rfl) rfl rfl rfl (aC rfl (R_e (W_r (eS (i:=5) (n:=0) rfl (congrArg Blk.ver rfl) (R_e (W_r ?_)))))))
 refine aC rfl (R_e (aE (W_r (aC rfl (R_e (aH fun Q1 n1 x1 y1 z1=>?_))))))
 refine bW (fun mm T H=> ∃ (k:Nat) (v:Nat),mm=c.length - k∧T 1=(aM c)∧T 2=(V.mp 2 1 0 0)∧T 5=(V.ms 5 v 0 (k))∧T 6=(iV (((cnf (fgC m c) k):Nat):Int))∧T 7=(iV ((k:Nat):Int))∧H 2=(bk 1 24 4 [[(iV (m.i)),(iV (m.s)),(aA m.nx),(aA m.ot)]])∧H 5=(bz v 3 1 (List.map cI (tbl (nmf (fgC m c)) k)))∧(k≤c.length)) ?_ ?_
 ·
  refine ⟨_,0,1,rfl,rfl,rfl,rfl,(Eq.trans (@rfl V (iV (0:Int))) (by first|rfl|exact congrArg iV (by omega)|exact eP e1|exact eN e1|simp)),(Eq.trans (@rfl V (iV (0:Int))) rfl),rfl,(Eq.trans (@rfl Blk (bz 1 3 1 [])) (by first|rfl|(rw [aB,e2]; done)|(rw [aB,e2]; rfl)|(simp; done))),?_⟩
  · exact Nat.zero_le _
 intro mm T H ⟨k,v,hmm,t1,t2,t5,t6,t7,h2,h5,hk⟩ Q2 p12 p22 p32
 unfold aG3
 refine aE (W_r (aC t7 (aC t1 (bR rfl (bU rfl rfl (R_e ?_))))))
 refine aP rfl (fun c3=>?_) fun c3=>?_
 ·
  have rk:=mo.2.2.2.2.2.2.2 k (by omega)
  have cl:=rH (f:=(fgC m c)) k
  refine aJ (aH fun Q4 n4 x4 y4 z4=>(W_r (aC rfl (R_e (aE (W_r (aC t7 ?_)))))))
  refine vD rfl rfl (by first|omega|(rw [aL]; omega)) (by first|omega|(rw [aL]; omega)) (aC rfl (R_e (aH fun Q5 n5 x5 y5 z5=>?_)))
  refine bW (fun mm T H=> ∃ (i:Nat) (q:Int),mm=i∧T 1=(aM c)∧T 2=(V.mp 2 1 0 0)∧T 5=(V.ms 5 v 0 (k))∧T 6=(iV (((cnf (fgC m c) k):Nat):Int))∧T 7=(iV ((k:Nat):Int))∧T 8=(iV (q))∧T 9=(iV (((i:Nat):Int) - 1))∧H 2=(bk 1 24 4 [[(iV (m.i)),(iV (m.s)),(aA m.nx),(aA m.ot)]])∧H 5=(bz v 3 1 (List.map cI (tbl (nmf (fgC m c)) k)))∧(i≤k)∧(FnQ (fgC m c) k i q)) ?_ ?_
  ·
   refine ⟨_,k,(-1),rfl,t1,t2,t5,t6,t7,(Eq.trans (@rfl V (iV (-1:Int))) (by first|rfl|exact congrArg iV (by omega)|exact eP e1|exact eN e1|simp)),(Eq.trans (@rfl V (iV (((k:Nat):Int) - (1:Int)))) (by first|rfl|exact congrArg iV (by omega)|exact eP e1|exact eN e1|simp)),h2,h5,?_,?_⟩
   · exact Nat.le_refl _
   · exact aQa
  intro mm T H ⟨i,q,hmm,t1,t2,t5,t6,t7,t8,t9,h2,h5,hi,hq⟩ Q6 p16 p26 p36
  unfold aGT
  refine aE (W_r (aC t9 (xR rfl rfl (R_e ?_))))
  refine aP rfl (fun c7=>?_) fun c7=>?_
  ·
   have ei:(((i:Nat):Int) - 1).toNat=i - 1:=by omega
   have ri:=mo.2.2.2.2.2.2.2 (((i:Nat):Int) - 1).toNat (by omega)
   refine aJ (aH fun Q8 n8 x8 y8 z8=>(W_r (aC t1 (aC t7 (bO (i:=k) (@rfl V (aM c)) (@rfl V (iV ((k:Nat):Int))) (by first|omega|(rw [aL]; omega)) rfl (aK rfl rfl (aC t1 ?_)))))))
   refine aC t9 (eT (i:=(((i:Nat):Int) - 1)) (@rfl V (aM c)) (@rfl V (iV (((i:Nat):Int) - 1))) (by first|omega|(rw [aL]; omega)) (by first|omega|(rw [aL]; omega)) rfl (aK rfl rfl (jY rfl rfl (aC rfl (R_e (aE (W_r ?_)))))))
   refine aC rfl (R_e (aH fun Q9 n9 x9 y9 z9=>?_))
   refine bW (fun mm T H=> ∃ (j:Nat) (b:Bool),mm=m.i.toNat - j∧T 1=(aM c)∧T 2=(V.mp 2 1 0 0)∧T 5=(V.ms 5 v 0 (k))∧T 6=(iV (((cnf (fgC m c) k):Nat):Int))∧T 7=(iV ((k:Nat):Int))∧T 8=(iV (q))∧T 9=(iV (((i:Nat):Int) - 1))∧T 10=(V.bool b)∧T 11=(iV ((j:Nat):Int))∧H 2=(bk 1 24 4 [[(iV (m.i)),(iV (m.s)),(aA m.nx),(aA m.ot)]])∧H 5=(bz v 3 1 (List.map cI (tbl (nmf (fgC m c)) k)))∧(j≤m.i.toNat)∧(FnB m c k (((i:Nat):Int) - 1).toNat j b)) ?_ ?_
   ·
    refine ⟨_,0,(decide (((nth (c) (k)))=((nth (c) (((i:Nat):Int) - 1).toNat)))),rfl,t1,t2,t5,t6,t7,t8,t9,(Eq.trans (@rfl V (V.bool (decide (((nth (c) (k)))=((nth (c) (((i:Nat):Int) - 1).toNat)))))) (by first|rfl|exact congrArg iV (by omega)|exact eP e1|exact eN e1|simp)),(Eq.trans (@rfl V (iV (0:Int))) rfl),h2,h5,?_,?_⟩
    · exact Nat.zero_le _
    · first|exact aKt|exact aKt
   intro mm T H ⟨j,b,hmm,t1,t2,t5,t6,t7,t8,t9,t10,t11,h2,h5,hj,hb⟩ Q10 p110 p210 p310
   unfold aGe
   refine aE (W_r (aC t11 (bD t2 h2 (aX rfl h2 rfl rfl (bU rfl rfl (aC rfl ?_))))))
   refine cF 2 (fun T H=>T 1=(aM c)∧T 2=(V.mp 2 1 0 0)∧T 5=(V.ms 5 v 0 (k))∧T 6=(iV (((cnf (fgC m c) k):Nat):Int))∧T 7=(iV ((k:Nat):Int))∧T 8=(iV (q))∧T 9=(iV (((i:Nat):Int) - 1))∧T 10=(V.bool b)∧T 11=(iV ((j:Nat):Int))∧T 39=(V.bool ((decide (((j:Nat):Int) < (m.i))&&b)))∧H 2=(bk 1 24 4 [[(iV (m.i)),(iV (m.s)),(aA m.nx),(aA m.ot)]])∧H 5=(bz v 3 1 (List.map cI (tbl (nmf (fgC m c)) k)))∧True) ?_ ?_
   ·
    by_cases g11:((j:Nat):Int) < (m.i)
    ·
     refine aQ (edT g11 rfl) (aC t10 (cK (edT g11 rfl) rfl ?_))
     exact ⟨t1,t2,t5,t6,t7,t8,t9,t10,t11,(aNp g11),h2,h5,trivial⟩
    ·
     refine G_n (edF g11 rfl) (cG (edF g11 rfl) rfl ?_)
     exact ⟨t1,t2,t5,t6,t7,t8,t9,t10,t11,(aNU g11),h2,h5,trivial⟩
   intro T H ⟨t1,t2,t5,t6,t7,t8,t9,t10,t11,t39,h2,h5,_⟩
   refine R_e ?_
   refine fA t39 (fun c12=>?_) (fun c12=>?_)
   ·
    have c20:((j:Nat):Int) < m.i∧b=true:=by have z:=c12; simpa using z
    obtain ⟨c21,c22⟩:=c20
    have rj:=rk.2.2 j c21
    have rj2:=ri.2.2 j c21
    refine aJ (aH fun Q13 n13 x13 y13 z13=>?_)
    refine aCL (fun T H=>T 1=(aM c)∧T 2=(V.mp 2 1 0 0)∧T 5=(V.ms 5 v 0 (k))∧T 6=(iV (((cnf (fgC m c) k):Nat):Int))∧T 7=(iV ((k:Nat):Int))∧T 8=(iV (q))∧T 9=(iV (((i:Nat):Int) - 1))∧T 10=(V.bool (decide ((((nth ((nth (m.ot) (k))) (j)))=((nth ((nth (m.ot) (((i:Nat):Int) - 1).toNat)) (j))))∧(((nth (c) ((nth ((nth (m.nx) (k))) (j))).toNat))=((nth (c) ((nth ((nth (m.nx) (((i:Nat):Int) - 1).toNat)) (j))).toNat))))))∧T 11=(iV ((j:Nat):Int))∧H 2=(bk 1 24 4 [[(iV (m.i)),(iV (m.s)),(aA m.nx),(aA m.ot)]])∧H 5=(bz v 3 1 (List.map cI (tbl (nmf (fgC m c)) k)))∧True) ?_ ?_
    ·
     refine bD t2 h2 (aX rfl h2 rfl rfl (aC t7 (bO (i:=k) (@rfl V (aA m.ot)) (@rfl V (iV ((k:Nat):Int))) (by first|omega|(rw [aL]; omega)) rfl (aK rfl rfl (aC t11 (bO (i:=j) (@rfl V (aM ((nth (m.ot) (k))))) (@rfl V (iV ((j:Nat):Int))) (by first|omega|(rw [aL]; omega)) rfl (aK rfl rfl ?_)))))))
     refine bD t2 h2 (aX rfl h2 rfl rfl (aC t9 (eT (i:=(((i:Nat):Int) - 1)) (@rfl V (aA m.ot)) (@rfl V (iV (((i:Nat):Int) - 1))) (by first|omega|(rw [aL]; omega)) (by first|omega|(rw [aL]; omega)) rfl (aK rfl rfl (aC t11 (bO (i:=j) (@rfl V (aM ((nth (m.ot) (((i:Nat):Int) - 1).toNat)))) (@rfl V (iV ((j:Nat):Int))) (by first|omega|(rw [aL]; omega)) rfl (aK rfl rfl ?_)))))))
     refine jY rfl rfl (aC rfl ?_)
     refine cF 24 (fun T H=>T 1=(aM c)∧T 2=(V.mp 2 1 0 0)∧T 5=(V.ms 5 v 0 (k))∧T 6=(iV (((cnf (fgC m c) k):Nat):Int))∧T 7=(iV ((k:Nat):Int))∧T 8=(iV (q))∧T 9=(iV (((i:Nat):Int) - 1))∧T 10=(V.bool b)∧T 11=(iV ((j:Nat):Int))∧T 83=(V.bool (decide ((((nth ((nth (m.ot) (k))) (j)))=((nth ((nth (m.ot) (((i:Nat):Int) - 1).toNat)) (j))))∧(((nth (c) ((nth ((nth (m.nx) (k))) (j))).toNat))=((nth (c) ((nth ((nth (m.nx) (((i:Nat):Int) - 1).toNat)) (j))).toNat))))))∧H 2=(bk 1 24 4 [[(iV (m.i)),(iV (m.s)),(aA m.nx),(aA m.ot)]])∧H 5=(bz v 3 1 (List.map cI (tbl (nmf (fgC m c)) k)))∧True) ?_ ?_
     ·
      by_cases g14:((nth ((nth (m.ot) (k))) (j)))=((nth ((nth (m.ot) (((i:Nat):Int) - 1).toNat)) (j)))
      ·
       refine aQ (edT g14 rfl) (aC t1 (aQ (edT g14 rfl) (bD t2 h2 (aQ (edT g14 rfl) (aX rfl h2 rfl rfl (aQ (edT g14 rfl) (aC t7 ?_)))))))
       refine aQ (edT g14 rfl) (bO (i:=k) (@rfl V (aA m.nx)) (@rfl V (iV ((k:Nat):Int))) (by first|omega|(rw [aL]; omega)) rfl (aQ (edT g14 rfl) (aK rfl rfl (aQ (edT g14 rfl) (aC t11 (aQ (edT g14 rfl) (bO (i:=j) (@rfl V (aM ((nth (m.nx) (k))))) (@rfl V (iV ((j:Nat):Int))) (by first|omega|(rw [aL]; omega)) rfl ?_)))))))
       refine aQ (edT g14 rfl) (aK rfl rfl (aQ (edT g14 rfl) (eT (i:=((nth ((nth (m.nx) (k))) (j)))) (@rfl V (aM c)) (@rfl V (iV ((nth ((nth (m.nx) (k))) (j))))) (by first|omega|(rw [aL]; omega)) (by first|omega|(rw [aL]; omega)) rfl (aQ (edT g14 rfl) (aK rfl rfl (aQ (edT g14 rfl) (aC t1 ?_)))))))
       refine aQ (edT g14 rfl) (bD t2 h2 (aQ (edT g14 rfl) (aX rfl h2 rfl rfl (aQ (edT g14 rfl) (aC t9 (aQ (edT g14 rfl) (eT (i:=(((i:Nat):Int) - 1)) (@rfl V (aA m.nx)) (@rfl V (iV (((i:Nat):Int) - 1))) (by first|omega|(rw [aL]; omega)) (by first|omega|(rw [aL]; omega)) rfl ?_)))))))
       refine aQ (edT g14 rfl) (aK rfl rfl (aQ (edT g14 rfl) (aC t11 (aQ (edT g14 rfl) (bO (i:=j) (@rfl V (aM ((nth (m.nx) (((i:Nat):Int) - 1).toNat)))) (@rfl V (iV ((j:Nat):Int))) (by first|omega|(rw [aL]; omega)) rfl (aQ (edT g14 rfl) (aK rfl rfl ?_)))))))
       refine aQ (edT g14 rfl) (eT (i:=((nth ((nth (m.nx) (((i:Nat):Int) - 1).toNat)) (j)))) (@rfl V (aM c)) (@rfl V (iV ((nth ((nth (m.nx) (((i:Nat):Int) - 1).toNat)) (j))))) (by first|omega|(rw [aL]; omega)) (by first|omega|(rw [aL]; omega)) rfl (aQ (edT g14 rfl) (aK rfl rfl (aQ (edT g14 rfl) (jY rfl rfl (cK (edT g14 rfl) rfl ?_))))))
       exact ⟨t1,t2,t5,t6,t7,t8,t9,t10,t11,(iN g14),h2,h5,trivial⟩
      ·
       refine G_n (edF g14 rfl) (G_n (edF g14 rfl) (G_n (edF g14 rfl) (G_n (edF g14 rfl) (G_n (edF g14 rfl) (G_n (edF g14 rfl) (G_n (edF g14 rfl) (G_n (edF g14 rfl) ?_)))))))
       refine G_n (edF g14 rfl) (G_n (edF g14 rfl) (G_n (edF g14 rfl) (G_n (edF g14 rfl) (G_n (edF g14 rfl) (G_n (edF g14 rfl) (G_n (edF g14 rfl) (G_n (edF g14 rfl) ?_)))))))
       refine G_n (edF g14 rfl) (G_n (edF g14 rfl) (G_n (edF g14 rfl) (G_n (edF g14 rfl) (G_n (edF g14 rfl) (G_n (edF g14 rfl) (G_n (edF g14 rfl) (cG (edF g14 rfl) rfl ?_)))))))
       exact ⟨t1,t2,t5,t6,t7,t8,t9,t10,t11,(iI g14),h2,h5,trivial⟩
     intro T H ⟨t1,t2,t5,t6,t7,t8,t9,t10,t11,t83,h2,h5,_⟩
     refine aC t83 ?_
     exact fM ⟨t1,t2,t5,t6,t7,t8,t9,rfl,t11,h2,h5,trivial⟩
    intro T H ⟨t1,t2,t5,t6,t7,t8,t9,t10,t11,h2,h5,_⟩
    refine n13 _ _ (.done (W_t (aC t11 (bJ rfl (@rfl V (iV ((1:Nat):Int))) (by first|omega|(rw [aL]; omega)) (aC rfl (R_e ?_))))))
    refine p110 _ _ _ ?_ ⟨(j+1),(decide ((((nth ((nth (m.ot) (k))) (j)))=((nth ((nth (m.ot) (((i:Nat):Int) - 1).toNat)) (j))))∧(((nth (c) ((nth ((nth (m.nx) (k))) (j))).toNat))=((nth (c) ((nth ((nth (m.nx) (((i:Nat):Int) - 1).toNat)) (j))).toNat))))),rfl,t1,t2,t5,t6,t7,t8,t9,(Eq.trans t10 (by first|rfl|exact congrArg iV (by omega)|exact eP e1|exact eN e1|simp)),(Eq.trans (@rfl V (iV ((j+1:Nat):Int))) (by first|rfl|exact congrArg iV (by omega)|exact eP e1|exact eN e1|simp)),h2,h5,?_,?_⟩
    · omega
    · omega
    · exact hb.go c22 (decide_eq_true_iff)
   have c20:m.i.toNat≤j∨b=false:=by
     by_cases z:((j:Nat):Int) < m.i
     · right; have y:=c12; simpa [z] using y
     · left; omega
   have d7:=hb.fin c20 hj
   refine aW (p310 _ _ _ (x9 _ _ (.done (W_r (aC t10 (R_e ?_))))))
   refine aE8 rfl (fun c15=>?_) (fun c15=>?_)
   ·
    have d5:=d7.1 c15
    refine W_t (aC t5 (aC t9 (dL (i:=(((i:Nat):Int) - 1)) (@rfl V (V.ms 5 v 0 (k))) (@rfl V (iV (((i:Nat):Int) - 1))) h5 (dV (by first|omega|(rw [aL]; omega))) rfl (by first|omega|(rw [aL]; omega)) (by first|omega|(rw [aL]; omega)) (bV (v:=(iV ((nth (tbl (nmf (fgC m c)) k) (((((i:Nat):Int) - 1)).toNat))))) rfl h5 (dN (by first|omega|(rw [aL]; omega)) (by first|rfl|(rw [cF_eq]; rfl)|simp [ldV,V.one])) (aC rfl (R_e (n8 _ _ ?_)))))))
    refine .done (W_t (aC t9 (vD rfl rfl (by first|omega|(rw [aL]; omega)) (by first|omega|(rw [aL]; omega)) (aC rfl (R_e ?_)))))
    refine p16 _ _ _ ?_ ⟨(i - 1),(((nth (tbl (nmf (fgC m c)) k) (((((i:Nat):Int) - 1)).toNat)))),rfl,t1,t2,t5,t6,t7,(Eq.trans (@rfl V (iV ((nth (tbl (nmf (fgC m c)) k) (((((i:Nat):Int) - 1)).toNat))))) (by first|rfl|exact congrArg iV (by omega)|exact eP e1|exact eN e1|simp)),(Eq.trans (@rfl V (iV ((((i:Nat):Int) - 1) - (1:Int)))) (by first|rfl|exact congrArg iV (by omega)|exact eP e1|exact eN e1|simp)),h2,h5,?_,?_⟩
    · omega
    · omega
    · first|(rw [bM (by omega),ei]; exact hq.yes (ei ▸ d5) (by omega))|exact hq.no (ei ▸ d5) (by omega)
   have d5: ¬fgC m c (((i:Nat):Int) - 1).toNat=fgC m c k:=fun e=>by have z:=d7.2 e; rw [c15] at z; cases z
   refine fQ (n8 _ _ (.done (W_t (aC t9 (vD rfl rfl (by first|omega|(rw [aL]; omega)) (by first|omega|(rw [aL]; omega)) (aC rfl (R_e ?_)))))))
   refine p16 _ _ _ ?_ ⟨(i - 1),((q)),rfl,t1,t2,t5,t6,t7,(Eq.trans t8 (by first|rfl|exact congrArg iV (by omega)|exact eP e1|exact eN e1|simp)),(Eq.trans (@rfl V (iV ((((i:Nat):Int) - 1) - (1:Int)))) (by first|rfl|exact congrArg iV (by omega)|exact eP e1|exact eN e1|simp)),h2,h5,?_,?_⟩
   · omega
   · omega
   · first|(rw [bM (by omega),ei]; exact hq.yes (ei ▸ d5) (by omega))|exact hq.no (ei ▸ d5) (by omega)
  refine aW (p36 _ _ _ (x5 _ _ (.done (aE (W_r (aC t8 (bU rfl rfl ?_)))))))
  refine R_e ?_
  refine aP rfl (fun c16=>?_) fun c16=>?_
  ·
   obtain ⟨e1,e2⟩:lsf (fgC m c) k=k∧nmf (fgC m c) k=((cnf (fgC m c) k:Nat):Int):=by
     have z:i=0:=by omega
     subst z; exact hq.new c16
   refine aE (W_r (aC t6 (aC rfl (R_e (W_r (aC t6 (bJ rfl (@rfl V (iV ((1:Nat):Int))) (by first|omega|(rw [aL]; omega)) ?_)))))))
   refine aC rfl (R_e (W_t (aC t5 (aC rfl (bZ rfl rfl (cA (l:=(tbl (nmf (fgC m c)) k)) (f:=cI) (x:=((((cnf (fgC m c) k):Nat):Int))) (@rfl V (V.ms 5 v 0 (k))) h5 (by first|rfl|exact (aL _ _).symm|simp|omega) (@rfl V (V.sl [[(iV (((cnf (fgC m c) k):Nat):Int))]])) rfl rfl (by first|omega|(rw [aL]; omega)) (by first|omega|(rw [aL]; omega)) (aC rfl ?_)))))))
   refine R_e (n4 _ _ (.done (W_t (aC t7 (bJ rfl (@rfl V (iV ((1:Nat):Int))) (by first|omega|(rw [aL]; omega)) (aC rfl (R_e ?_)))))))
   refine p12 _ _ _ ?_ ⟨(k+1),(v+1),rfl,t1,t2,(Eq.trans (@rfl V (V.ms 5 (v+1) 0 (k+1))) (by first|rfl|exact congrArg iV (by omega)|exact eP e1|exact eN e1|simp)),(Eq.trans (@rfl V (iV ((((cnf (fgC m c) k))+1:Nat):Int))) (by first|rfl|exact congrArg iV (by omega)|exact eP e1|exact eN e1|simp)),(Eq.trans (@rfl V (iV ((k+1:Nat):Int))) (by first|rfl|exact congrArg iV (by omega)|exact eP e1|exact eN e1|simp)),h2,(Eq.trans (@rfl Blk (bz (v+1) 3 1 (List.map cI (tbl (nmf (fgC m c)) k++[(((cnf (fgC m c) k):Nat):Int)])))) (by first|rfl|(rw [aB,e2]; done)|(rw [aB,e2]; rfl)|(simp; done))),?_⟩
   · omega
   · omega
  obtain ⟨e1,e2⟩:lsf (fgC m c) k≠k∧nmf (fgC m c) k=q:=by
    have z:i=0:=by omega
    subst z; exact ⟨(hq.old c16).1,(hq.old c16).2.symm⟩
  refine aJ (W_t (aC t5 (aC t8 (bZ rfl rfl (cA (l:=(tbl (nmf (fgC m c)) k)) (f:=cI) (x:=q) (@rfl V (V.ms 5 v 0 (k))) h5 (by first|rfl|exact (aL _ _).symm|simp|omega) (@rfl V (V.sl [[(iV (q))]])) rfl rfl (by first|omega|(rw [aL]; omega)) (by first|omega|(rw [aL]; omega)) (aC rfl (R_e ?_)))))))
  refine n4 _ _ (.done (W_t (aC t7 (bJ rfl (@rfl V (iV ((1:Nat):Int))) (by first|omega|(rw [aL]; omega)) (aC rfl (R_e ?_))))))
  refine p12 _ _ _ ?_ ⟨(k+1),(v+1),rfl,t1,t2,(Eq.trans (@rfl V (V.ms 5 (v+1) 0 (k+1))) (by first|rfl|exact congrArg iV (by omega)|exact eP e1|exact eN e1|simp)),(Eq.trans t6 (by first|rfl|exact congrArg iV (by omega)|exact eP e1|exact eN e1|simp)),(Eq.trans (@rfl V (iV ((k+1:Nat):Int))) (by first|rfl|exact congrArg iV (by omega)|exact eP e1|exact eN e1|simp)),h2,(Eq.trans (@rfl Blk (bz (v+1) 3 1 (List.map cI (tbl (nmf (fgC m c)) k++[q])))) (by first|rfl|(rw [aB,e2]; done)|(rw [aB,e2]; rfl)|(simp; done))),?_⟩
  · omega
  · omega
 refine aW (p32 _ _ _ (x1 _ _ (.done (W_r (aC t5 (aC rfl (R_e ?_)))))))
 refine bS ?_
 refine cC (@rfl V (V.ms 5 v 0 (k))) (kQ h5 (by first|rfl|simp) (l:=(tbl (nmf (fgC m c)) k)) rfl (by first|rfl|exact (aL _ _).symm|simp|omega) (fun _=>by simp) ?_)
 · rw [show k=c.length by omega]
end Go.Proofs.YtmnnhjhkaepbaaaGreat
namespace Go.Proofs.YtmnnhjhkaepbaaaGreat
open Go Go.Proofs
attribute [local irreducible] pH
theorem aCi (m:M):bE Tryz.prog 82 [(V.agg [(iV (m.i)),(iV (m.s)),(aA m.nx),(aA m.ot)]),(iV ((m.nx.length:Nat):Int))] (V.tup [(aM ((clR m))),(iV (aZ m))]):=by
 refine pW Tryz.func82 aM9 fun hB=>?_
 unfold s82
 dsimp only
 refine W_r (eR (i:=2) (n:=0) (m:=4) (cs:=[(iV (m.i)),(iV (m.s)),(aA m.nx),(aA m.ot)]) rfl (congrArg Blk.ver rfl) rfl rfl rfl (aC rfl (aC rfl (R_e (aE (W_r (aX rfl rfl rfl rfl ?_)))))))
 refine bH (mH m) rfl (aC rfl (R_e (aE (W_r (aC rfl (eV rfl rfl (R_e ?_)))))))
 refine aP rfl (fun c1=>?_) fun c1=>?_
 ·
  have d0:=c1
  refine aE (W_r (aC rfl (aC rfl (aC rfl (R_e (bF ?_))))))
  refine pR (@rfl V V.nilsl) (@rfl V (iV (aZ m))) (dA ?_) (eD (by simp) rfl)
  · rw [clR,if_neg d0]; try rfl
 have hm:aZ m=0:=by omega
 have mo:=cJ hm
 refine aJ ?_
 refine gR (fun T H=>T 1=(iV ((m.nx.length:Nat):Int))∧T 2=(V.mp 2 1 0 0)∧T 7=(V.ms 17 1 0 (m.nx.length))∧H 2=(bk 1 24 4 [[(iV (m.i)),(iV (m.s)),(aA m.nx),(aA m.ot)]])∧H 17=(bk 1 3 1 (List.map cI (List.replicate m.nx.length 0)))∧True) ?_ ?_
 ·
  refine bD rfl rfl (aX rfl rfl rfl rfl (bR rfl (oI (i:=17) (n:=0) (m:=m.nx.length) (q:=m.nx.length) (f:=cI) (x:=0) rfl (congrArg Blk.ver rfl) (@rfl V (iV ((m.nx.length:Nat):Int))) (@rfl V (iV ((m.nx.length:Nat):Int))) rfl (by omega) (by omega) (by omega) (aC rfl ?_))))
  exact fM ⟨rfl,rfl,rfl,rfl,rfl,trivial⟩
 intro T H ⟨t1,t2,t7,h2,h17,_⟩
 refine .freeze 17 (.done ?_)
 refine bQ (R:=fun T H=>T 1=(iV ((m.nx.length:Nat):Int))∧T 2=(V.mp 2 1 0 0)∧T 7=(aM (List.replicate m.nx.length 0))∧H 2=(bk 1 24 4 [[(iV (m.i)),(iV (m.s)),(aA m.nx),(aA m.ot)]])∧((H 17).ver=1∧(H 17).live=false)∧True) ⟨(aO t1 rfl),(aO t2 rfl),(aO t7 (gE h17 (by first|rfl|simp) (l:=(List.replicate m.nx.length 0)) rfl (by first|rfl|simp|omega))),(aN h2 (by decide)),(bL (congrArg Blk.ver h17)),trivial⟩ ?_
 intro T H ⟨t1,t2,t7,h2,h17,_⟩
 refine aE (W_r (aC rfl (R_e (aH fun Q2 n2 x2 y2 z2=>?_))))
 refine bW (fun mm T H=> ∃ (k:Nat),mm=m.nx.length - k∧T 1=(iV ((m.nx.length:Nat):Int))∧T 2=(V.mp 2 1 0 0)∧T 7=(aM (clK m k))∧T 8=(iV ((k:Nat):Int))∧H 2=(bk 1 24 4 [[(iV (m.i)),(iV (m.s)),(aA m.nx),(aA m.ot)]])∧((H 17).ver=1∧(H 17).live=false)∧(k≤m.nx.length)) ?_ ?_
 ·
  refine ⟨_,0,rfl,t1,t2,(Eq.trans t7 (by first|rfl|exact congrArg iV (by omega)|exact congrArg aM pZ.symm|exact congrArg aM (aCJ hm k)|(simp; done))),(Eq.trans (@rfl V (iV (0:Int))) rfl),h2,h17,?_⟩
  · exact Nat.zero_le _
 intro mm T H ⟨k,hmm,t1,t2,t7,t8,h2,h17,hk⟩ Q3 p13 p23 p33
 unfold aKc
 refine aE (W_r (aC t8 (aC t1 (bU rfl rfl (aC rfl ?_)))))
 refine cF 6 (fun T H=>T 1=(iV ((m.nx.length:Nat):Int))∧T 2=(V.mp 2 1 0 0)∧T 7=(aM (clK m k))∧T 8=(iV ((k:Nat):Int))∧T 27=(V.bool (decide ((((k:Nat):Int) < ((m.nx.length:Nat):Int))∧(((k:Nat):Int) < ((m.nx.length:Nat):Int)))))∧H 2=(bk 1 24 4 [[(iV (m.i)),(iV (m.s)),(aA m.nx),(aA m.ot)]])∧((H 17).ver=1∧(H 17).live=false)∧True) ?_ ?_
 ·
  by_cases g4:((k:Nat):Int) < ((m.nx.length:Nat):Int)
  ·
   refine aQ (edT g4 rfl) (aC t8 (aQ (edT g4 rfl) (bD t2 h2 (aQ (edT g4 rfl) (aX rfl h2 rfl rfl (aQ (edT g4 rfl) (bR rfl ?_)))))))
   refine aQ (edT g4 rfl) (bU rfl rfl (cK (edT g4 rfl) rfl ?_))
   exact ⟨t1,t2,t7,t8,(iN g4),h2,h17,trivial⟩
  ·
   refine G_n (edF g4 rfl) (G_n (edF g4 rfl) (G_n (edF g4 rfl) (G_n (edF g4 rfl) (G_n (edF g4 rfl) (cG (edF g4 rfl) rfl ?_)))))
   exact ⟨t1,t2,t7,t8,(iI g4),h2,h17,trivial⟩
 intro T H ⟨t1,t2,t7,t8,t27,h2,h17,_⟩
 refine R_e ?_
 refine aP t27 (fun c5=>?_) fun c5=>?_
 ·
  have c9:k < m.nx.length:=by have z:=c5; simpa using z
  refine aJ (aH fun Q6 n6 x6 y6 z6=>(W_t (aX t2 h2 rfl rfl (aC t7 (bH (aCF m (clK m k) hm (oG k) (fun s hs=>(aJ2 k (by rw [oG] at hs; exact hs)).1)) rfl (aC rfl (R_e ?_)))))))
  refine n6 _ _ (.done (W_t (aC t8 (bJ rfl (@rfl V (iV ((1:Nat):Int))) (by omega) (aC rfl (R_e ?_))))))
  refine p13 _ _ _ ?_ ⟨(k+1),rfl,t1,t2,(Eq.trans (@rfl V (aM (tbl (nmf (fgC m (clK m k))) (clK m k).length))) (by first|rfl|exact congrArg iV (by omega)|exact congrArg aM pZ.symm|exact congrArg aM (aCJ hm k)|(simp; done))),(Eq.trans (@rfl V (iV ((k+1:Nat):Int))) (by first|rfl|exact congrArg iV (by omega)|exact congrArg aM pZ.symm|exact congrArg aM (aCJ hm k)|(simp; done))),h2,h17,?_⟩
  · omega
  · omega
 have c9: ¬k < m.nx.length:=by have z:=c5; simpa using z
 refine aW (p33 _ _ _ (x2 _ _ (.done (W_r (aC t7 (aC rfl (aC rfl ?_)))))))
 refine R_e (bS ?_)
 refine pR (@rfl V (aM (clK m k))) (@rfl V (iV (0:Int))) (lQ ?_ (fun _=>by simp)) (aV ?_)
 · rw [clR,if_pos hm,show k=m.nx.length by omega]
 · exact hm.symm
end Go.Proofs.YtmnnhjhkaepbaaaGreat
namespace Go.Proofs.YtmnnhjhkaepbaaaGreat
open Go Go.Proofs
theorem wU (m:M):bE Tryz.prog 52 [(V.agg [(iV (m.i)),(iV (m.s)),(aA m.nx),(aA m.ot)])] (V.tup [(aM ((clR m))),(iV (aZ m))]):=by
 refine pW Tryz.func52 aNf fun hB=>?_
 unfold s52
 dsimp only
 refine W_r (eR (i:=1) (n:=0) (m:=4) (cs:=[(iV (m.i)),(iV (m.s)),(aA m.nx),(aA m.ot)]) rfl (congrArg Blk.ver rfl) rfl rfl rfl (aC rfl (aC rfl (R_e (W_r (aX rfl rfl rfl rfl (bD rfl rfl ?_)))))))
 refine aX rfl rfl rfl rfl (bR rfl (bH (aCi m) rfl (eK rfl rfl (eK rfl rfl (aC rfl (aC rfl (R_e ?_)))))))
 refine bS ?_
 refine pR (@rfl V (aM ((clR m)))) (@rfl V (iV (aZ m))) (eD (by simp) rfl) (eD (by simp) rfl)
end Go.Proofs.YtmnnhjhkaepbaaaGreat
namespace Go.Proofs.YtmnnhjhkaepbaaaGreat
open Go Go.Proofs
attribute [local irreducible] pH
theorem aET (m:M):bE Tryz.prog 34 [(V.agg [(iV (m.i)),(iV (m.s)),(aA m.nx),(aA m.ot)])] (V.tup [(V.agg [(iV ((mnR m).i)),(iV ((mnR m).s)),(aA ((mnR m).nx)),(aA ((mnR m).ot))]),(iV (aZ m))]):=by
 refine pW Tryz.func34 aLJ fun hB=>?_
 unfold s34
 dsimp only
 refine W_r (eR (i:=1) (n:=0) (m:=4) (cs:=[(iV (m.i)),(iV (m.s)),(aA m.nx),(aA m.ot)]) rfl (congrArg Blk.ver rfl) rfl rfl rfl (dB (i:=2) (n:=0) (m:=4) rfl (congrArg Blk.ver rfl) rfl (aC rfl (R_e (W_r (aX rfl rfl rfl rfl (bH (wU m) rfl ?_)))))))
 refine aC rfl (eK rfl rfl (eK rfl rfl (aC rfl (aC rfl (R_e (aE (W_r ?_)))))))
 refine aC rfl (eV rfl rfl (R_e ?_))
 refine aP rfl (fun c1=>?_) fun c1=>?_
 ·
  have d0:=c1
  refine aE (W_r (dO rfl rfl (aC rfl (bC (vs:=[(iV (0:Int)),(iV (0:Int)),V.nilsl,V.nilsl]) (B':=(bk 1 24 4 [[(iV (0:Int)),(iV (0:Int)),V.nilsl,V.nilsl]])) rfl rfl rfl rfl (sB oB rfl rfl rfl rfl rfl) (aC rfl (R_e (bF ?_)))))))
  refine fF (eC (u:=(V.agg [(iV (0:Int)),(iV (0:Int)),V.nilsl,V.nilsl])) rfl (@rfl Blk (bk 1 24 4 [[(iV (0:Int)),(iV (0:Int)),V.nilsl,V.nilsl]])) (lB oB rfl rfl)) (fD (@rfl V (iV (aZ m)))) (dQ (bA (aV ?_) (bA (aV ?_) (bA (dA ?_) (bA (dA ?_) rfl))))) (eD (by simp) rfl)
  · rw [mnR,if_neg d0]; try rfl
  · rw [mnR,if_neg d0]; try rfl
  · rw [mnR,if_neg d0]; try rfl
  · rw [mnR,if_neg d0]; try rfl
 have hm:aZ m=0:=by omega
 have mo:=cJ hm
 have rc:=jJ hm
 have rl:=rc.len
 have me:=mo.2.2.2.2.2.2.1
 have cln:=aIP hm
 have ms:=nH hm (show 0≤m.s by omega) (show m.s < m.nx.length by omega)
 refine aJ (W_r (bD rfl rfl (aX rfl rfl rfl rfl (pE (i:=26) (n:=0) (qs:=[(0,(iV (m.s)))]) (rows:=[[(iV (m.s))]]) rfl (congrArg Blk.ver rfl) (bA (congrArg (fun v=>(0,v)) rfl) rfl) rfl (aC rfl (R_e (W_r ?_)))))))
 refine bD rfl rfl (aX rfl rfl rfl rfl (bR rfl (oI (i:=30) (n:=0) (m:=m.nx.length) (q:=m.nx.length) (f:=cI) (x:=0) rfl (congrArg Blk.ver rfl) (@rfl V (iV ((m.nx.length:Nat):Int))) (@rfl V (iV ((m.nx.length:Nat):Int))) rfl (by first|omega|(simp only [List.length_replicate]; omega)|(rw [aF]; omega)|(rw [List.length_set]; omega)|(rw [List.length_append]; omega)|(rw [e9]; omega)) (by first|omega|(simp only [List.length_replicate]; omega)|(rw [aF]; omega)|(rw [List.length_set]; omega)|(rw [List.length_append]; omega)|(rw [e9]; omega)) (by first|omega|(simp only [List.length_replicate]; omega)|(rw [aF]; omega)|(rw [List.length_set]; omega)|(rw [List.length_append]; omega)|(rw [e9]; omega)) (aC rfl (R_e (aE (W_r ?_)))))))
 refine aC rfl (R_e (aH fun Q2 n2 x2 y2 z2=>?_))
 refine bW (fun mm T H=> ∃ (k:Nat),mm=m.nx.length - k∧T 1=(V.mp 1 1 0 0)∧T 2=(V.mp 2 1 0 0)∧T 4=(aM (clR m))∧T 6=(V.ms 26 1 0 (1))∧T 7=(V.ms 30 1 0 (m.nx.length))∧T 8=(iV ((k:Nat):Int))∧H 1=(bk 1 24 4 [[(iV (m.i)),(iV (m.s)),(aA m.nx),(aA m.ot)]])∧H 2=(bk 1 24 4 [[(iV (0:Int)),(iV (0:Int)),V.nilsl,V.nilsl]])∧H 9=(⟨0,false,false,0,0,[]⟩:Blk)∧H 11=(⟨0,false,false,0,0,[]⟩:Blk)∧H 12=(⟨0,false,false,0,0,[]⟩:Blk)∧H 26=(bk 1 3 1 (List.map cI ([m.s])))∧H 30=(bk 1 3 1 (List.map cI (cZ (fun _=>(-1:Int)) 0 m.nx.length k)))∧H 812=(⟨0,false,false,0,0,[]⟩:Blk)∧H 813=(⟨0,false,false,0,0,[]⟩:Blk)∧(k≤m.nx.length)) ?_ ?_
 ·
  refine ⟨_,0,rfl,rfl,rfl,(Eq.trans (@rfl V (aM ((clR m)))) (by first|rfl|simp)),rfl,rfl,(Eq.trans (@rfl V (iV (0:Int))) rfl),rfl,rfl,rfl,rfl,rfl,(Eq.trans (@rfl Blk (bk 1 3 1 [[(iV (m.s))]])) (by first|rfl|(rw [← aS,List.map_replicate]; done)|(rw [← aS,List.map_replicate]; rfl)|(rw [← aY (f:=fun _=>(-1:Int)) (z:=0) (n:=m.nx.length) (j:=k) (by omega)]; first|done|rfl)|(rw [aB,g2]; first|done|rfl)|(rw [aB,eo]; first|done|rfl)|(rw [aB,e9,eo]; first|done|rfl)|(rw [aB,g2,List.map_append]; first|done|rfl)|(rw [aB,← eo,List.map_append]; first|done|rfl)|(rw [aB,ej,List.map_append]; first|done|rfl)|(rw [aB,ek,List.map_append]; first|done|rfl)|(simp; done))),(Eq.trans (@rfl Blk (bk 1 3 1 (List.map cI (List.replicate m.nx.length 0)))) (by first|rfl|(rw [← aS,List.map_replicate]; done)|(rw [← aS,List.map_replicate]; rfl)|(rw [← aY (f:=fun _=>(-1:Int)) (z:=0) (n:=m.nx.length) (j:=k) (by omega)]; first|done|rfl)|(rw [aB,g2]; first|done|rfl)|(rw [aB,eo]; first|done|rfl)|(rw [aB,e9,eo]; first|done|rfl)|(rw [aB,g2,List.map_append]; first|done|rfl)|(rw [aB,← eo,List.map_append]; first|done|rfl)|(rw [aB,ej,List.map_append]; first|done|rfl)|(rw [aB,ek,List.map_append]; first|done|rfl)|(simp; done))),rfl,rfl,?_⟩
  · exact Nat.zero_le _
 intro mm T H ⟨k,hmm,t1,t2,t4,t6,t7,t8,h1,h2,h9,h11,h12,h26,h30,h812,h813,hk⟩ Q3 p13 p23 p33
 unfold aKq
 refine aE (W_r (aC t8 (aC t7 (dX rfl h30 (by first|rfl|simp) (bU rfl rfl (R_e ?_))))))
 refine aP rfl (fun c4=>?_) fun c4=>?_
 ·
  refine aJ (aH fun Q5 n5 x5 y5 z5=>(W_t (aC t7 (aC t8 (cV (i:=k) (@rfl V (V.ms 30 1 0 (m.nx.length))) (@rfl V (iV ((k:Nat):Int))) h30 oB rfl (by first|omega|(simp only [List.length_replicate]; omega)|(rw [aF]; omega)|(rw [List.length_set]; omega)|(rw [List.length_append]; omega)|(rw [e9]; omega)) (bC (vs:=[(iV (-1:Int))]) (B':=(bk 1 3 1 (List.map cI ((cZ (fun _=>(-1:Int)) 0 m.nx.length k).set k ((-1)))))) rfl rfl rfl h30 (fY (x:=((-1))) (i:=k) (by first|omega|(simp only [List.length_replicate]; omega)|(rw [aF]; omega)|(rw [List.length_set]; omega)|(rw [List.length_append]; omega)|(rw [e9]; omega)) rfl rfl rfl rfl) (R_e ?_)))))))
  refine n5 _ _ (.done (W_t (aC t8 (bJ rfl (@rfl V (iV ((1:Nat):Int))) (by first|omega|(simp only [List.length_replicate]; omega)|(rw [aF]; omega)|(rw [List.length_set]; omega)|(rw [List.length_append]; omega)|(rw [e9]; omega)) (aC rfl (R_e ?_))))))
  refine p13 _ _ _ ?_ ⟨(k+1),rfl,t1,t2,t4,t6,t7,(Eq.trans (@rfl V (iV ((k+1:Nat):Int))) (by first|rfl|simp)),h1,h2,h9,h11,h12,h26,(Eq.trans (@rfl Blk (bk 1 3 1 (List.map cI ((cZ (fun _=>(-1:Int)) 0 m.nx.length k).set k ((-1)))))) (by first|rfl|(rw [← aS,List.map_replicate]; done)|(rw [← aS,List.map_replicate]; rfl)|(rw [← aY (f:=fun _=>(-1:Int)) (z:=0) (n:=m.nx.length) (j:=k) (by omega)]; first|done|rfl)|(rw [aB,g2]; first|done|rfl)|(rw [aB,eo]; first|done|rfl)|(rw [aB,e9,eo]; first|done|rfl)|(rw [aB,g2,List.map_append]; first|done|rfl)|(rw [aB,← eo,List.map_append]; first|done|rfl)|(rw [aB,ej,List.map_append]; first|done|rfl)|(rw [aB,ek,List.map_append]; first|done|rfl)|(simp; done))),h812,h813,?_⟩
  · omega
  · omega
 have e7:cZ (fun _=>(-1:Int)) 0 m.nx.length k=List.replicate m.nx.length (-1):=by rw [kO (by omega)]; unfold tbl; rw [List.map_const',List.length_range]
 refine aW (p33 _ _ _ (x2 _ _ (.done (W_r (aC t7 (aC t4 (bD t1 h1 ?_)))))))
 refine aX rfl h1 rfl rfl (eT (i:=(m.s)) (@rfl V (aM (clR m))) (@rfl V (iV (m.s))) (by first|omega|(simp only [List.length_replicate]; omega)|(rw [aF]; omega)|(rw [List.length_set]; omega)|(rw [List.length_append]; omega)|(rw [e9]; omega)) (by first|omega|(simp only [List.length_replicate]; omega)|(rw [aF]; omega)|(rw [List.length_set]; omega)|(rw [List.length_append]; omega)|(rw [e9]; omega)) rfl (aK rfl rfl (dL (i:=((nth (clR m) (m.s).toNat))) (@rfl V (V.ms 30 1 0 (m.nx.length))) (@rfl V (iV ((nth (clR m) (m.s).toNat)))) h30 oB rfl (by first|omega|(simp only [List.length_replicate]; omega)|(rw [aF]; omega)|(rw [List.length_set]; omega)|(rw [List.length_append]; omega)|(rw [e9]; omega)) (by first|omega|(simp only [List.length_replicate]; omega)|(rw [aF]; omega)|(rw [List.length_set]; omega)|(rw [List.length_append]; omega)|(rw [e9]; omega)) (bC (vs:=[(iV (0:Int))]) (B':=(bk 1 3 1 (List.map cI ((cZ (fun _=>(-1:Int)) 0 m.nx.length k).set ((((nth (clR m) (m.s).toNat))).toNat) 0)))) rfl rfl rfl h30 (fY (x:=0) (i:=((((nth (clR m) (m.s).toNat))).toNat)) (by first|omega|(simp only [List.length_replicate]; omega)|(rw [aF]; omega)|(rw [List.length_set]; omega)|(rw [List.length_append]; omega)|(rw [e9]; omega)) rfl rfl rfl rfl) (R_e (W_r (bD t1 h1 ?_)))))))
 refine aX rfl h1 rfl rfl (dO rfl rfl (dB (i:=9) (n:=0) (m:=4) rfl (congrArg Blk.ver h9) rfl (bC (vs:=[(iV (m.i)),(iV (0:Int)),V.nilsl,V.nilsl]) (B':=(bk 1 24 4 [[(iV (m.i)),(iV (0:Int)),V.nilsl,V.nilsl]])) rfl rfl rfl rfl (sB oB rfl rfl rfl rfl rfl) (R_e (aE ?_)))))
 refine gR (fun T H=>T 1=(V.mp 1 1 0 0)∧T 2=(V.mp 2 1 0 0)∧T 4=(aM (clR m))∧T 6=(V.ms 26 1 0 (1))∧T 7=(V.ms 30 1 0 (m.nx.length))∧T 9=(V.mp 9 1 0 0)∧T 10=(iV (0:Int))∧H 1=(bk 1 24 4 [[(iV (m.i)),(iV (m.s)),(aA m.nx),(aA m.ot)]])∧H 2=(bk 1 24 4 [[(iV (0:Int)),(iV (0:Int)),V.nilsl,V.nilsl]])∧H 9=(bk 1 24 4 [[(iV (m.i)),(iV (0:Int)),V.nilsl,V.nilsl]])∧H 11=(⟨0,false,false,0,0,[]⟩:Blk)∧H 12=(⟨0,false,false,0,0,[]⟩:Blk)∧H 26=(bk 1 3 1 (List.map cI ([m.s])))∧H 30=(bk 1 3 1 (List.map cI ((cZ (fun _=>(-1:Int)) 0 m.nx.length k).set ((((nth (clR m) (m.s).toNat))).toNat) 0)))∧H 812=(⟨0,false,false,0,0,[]⟩:Blk)∧H 813=(⟨0,false,false,0,0,[]⟩:Blk)∧True) ?_ ?_
 ·
  refine aC rfl ?_
  exact fM ⟨t1,t2,t4,t6,t7,rfl,rfl,h1,h2,rfl,h11,h12,h26,rfl,h812,h813,trivial⟩
 intro T H ⟨t1,t2,t4,t6,t7,t9,t10,h1,h2,h9,h11,h12,h26,h30,h812,h813,_⟩
 refine .lazyCell 812 25 1 9 0 2 [(iV (m.i)),(iV (0:Int)),V.nilsl,V.nilsl] (by decide) (by rw [h9]; rfl) (by rw [h9]; rfl) rfl (bQ (R:=fun T H=>T 1=(V.mp 1 1 0 0)∧T 2=(V.mp 2 1 0 0)∧T 4=(aM (clR m))∧T 6=(V.ms 26 1 0 (1))∧T 7=(V.ms 30 1 0 (m.nx.length))∧T 9=(V.mp 9 1 0 0)∧T 10=(iV (0:Int))∧H 1=(bk 1 24 4 [[(iV (m.i)),(iV (m.s)),(aA m.nx),(aA m.ot)]])∧H 2=(bk 1 24 4 [[(iV (0:Int)),(iV (0:Int)),V.nilsl,V.nilsl]])∧H 9=(bk 1 24 4 [[(iV (m.i)),(iV (0:Int)),(V.ms 812 1 0 (0)),V.nilsl]])∧H 11=(⟨0,false,false,0,0,[]⟩:Blk)∧H 12=(⟨0,false,false,0,0,[]⟩:Blk)∧H 26=(bk 1 3 1 (List.map cI ([m.s])))∧H 30=(bk 1 3 1 (List.map cI ((cZ (fun _=>(-1:Int)) 0 m.nx.length k).set ((((nth (clR m) (m.s).toNat))).toNat) 0)))∧H 812=(bz 1 25 1 [])∧H 813=(⟨0,false,false,0,0,[]⟩:Blk)∧True) ⟨t1,t2,t4,t6,t7,t9,t10,((aD _ _ (by decide)).trans ((aD _ _ (by decide)).trans h1)),((aD _ _ (by decide)).trans ((aD _ _ (by decide)).trans h2)),(by rw [aG,h9,(congrArg Blk.ver h812)]; rfl),((aD _ _ (by decide)).trans ((aD _ _ (by decide)).trans h11)),((aD _ _ (by decide)).trans ((aD _ _ (by decide)).trans h12)),((aD _ _ (by decide)).trans ((aD _ _ (by decide)).trans h26)),((aD _ _ (by decide)).trans ((aD _ _ (by decide)).trans h30)),(by rw [aD _ _ (by decide),aG,(congrArg Blk.ver h812)]),((aD _ _ (by decide)).trans ((aD _ _ (by decide)).trans h813)),trivial⟩ ?_)
 intro T H ⟨t1,t2,t4,t6,t7,t9,t10,h1,h2,h9,h11,h12,h26,h30,h812,h813,_⟩
 refine .lazyCell 813 25 1 9 0 3 [(iV (m.i)),(iV (0:Int)),(V.ms 812 1 0 (0)),V.nilsl] (by decide) (by rw [h9]; rfl) (by rw [h9]; rfl) rfl (.done ?_)
 refine bQ (R:=fun T H=>T 1=(V.mp 1 1 0 0)∧T 2=(V.mp 2 1 0 0)∧T 4=(aM (clR m))∧T 6=(V.ms 26 1 0 (1))∧T 7=(V.ms 30 1 0 (m.nx.length))∧T 9=(V.mp 9 1 0 0)∧T 10=(iV (0:Int))∧H 1=(bk 1 24 4 [[(iV (m.i)),(iV (m.s)),(aA m.nx),(aA m.ot)]])∧H 2=(bk 1 24 4 [[(iV (0:Int)),(iV (0:Int)),V.nilsl,V.nilsl]])∧H 9=(bk 1 24 4 [[(iV (m.i)),(iV (0:Int)),(V.ms 812 1 0 (0)),(V.ms 813 1 0 (0))]])∧H 11=(⟨0,false,false,0,0,[]⟩:Blk)∧H 12=(⟨0,false,false,0,0,[]⟩:Blk)∧H 26=(bk 1 3 1 (List.map cI ([m.s])))∧H 30=(bk 1 3 1 (List.map cI ((cZ (fun _=>(-1:Int)) 0 m.nx.length k).set ((((nth (clR m) (m.s).toNat))).toNat) 0)))∧H 812=(bz 1 25 1 [])∧H 813=(bz 1 25 1 [])∧True) ⟨t1,t2,t4,t6,t7,t9,t10,((aD _ _ (by decide)).trans ((aD _ _ (by decide)).trans h1)),((aD _ _ (by decide)).trans ((aD _ _ (by decide)).trans h2)),(by rw [aG,h9,(congrArg Blk.ver h813)]; rfl),((aD _ _ (by decide)).trans ((aD _ _ (by decide)).trans h11)),((aD _ _ (by decide)).trans ((aD _ _ (by decide)).trans h12)),((aD _ _ (by decide)).trans ((aD _ _ (by decide)).trans h26)),((aD _ _ (by decide)).trans ((aD _ _ (by decide)).trans h30)),((aD _ _ (by decide)).trans ((aD _ _ (by decide)).trans h812)),(by rw [aD _ _ (by decide),aG,(congrArg Blk.ver h813)]),trivial⟩ ?_
 intro T H ⟨t1,t2,t4,t6,t7,t9,t10,h1,h2,h9,h11,h12,h26,h30,h812,h813,_⟩
 refine aH fun Q6 n6 x6 y6 z6=>?_
 refine bW (fun mm T H=> ∃ (i:Nat) (v:Nat) (w:Nat) (u:Nat) (O:List Int) (N:List Int) (v11:Nat) (v12:Nat),mm=m.nx.length - i∧T 1=(V.mp 1 1 0 0)∧T 2=(V.mp 2 1 0 0)∧T 4=(aM (clR m))∧T 6=(V.ms 26 u 0 (O.length))∧T 7=(V.ms 30 1 0 (m.nx.length))∧T 9=(V.mp 9 1 0 0)∧T 10=(iV ((i:Nat):Int))∧H 1=(bk 1 24 4 [[(iV (m.i)),(iV (m.s)),(aA m.nx),(aA m.ot)]])∧H 2=(bk 1 24 4 [[(iV (0:Int)),(iV (0:Int)),V.nilsl,V.nilsl]])∧H 9=(bk 1 24 4 [[(iV (m.i)),(iV (0:Int)),(V.ms 812 v 0 (i)),(V.ms 813 w 0 (i))]])∧((H 11).ver=v11∧(H 11).live=false)∧((H 12).ver=v12∧(H 12).live=false)∧H 26=(bk u 3 1 (List.map cI (O)))∧H 30=(bk 1 3 1 (List.map cI (N)))∧H 812=(bz v 25 1 (List.map cL (tbl (rNx m) i)))∧H 813=(bz w 25 1 (List.map cL (tbl (rOt m) i)))∧(ROI m i O N)) ?_ ?_
 ·
  refine ⟨_,0,1,1,1,[m.s],((cZ (fun _=>(-1:Int)) 0 m.nx.length k).set ((((nth (clR m) (m.s).toNat))).toNat) 0),0,0,rfl,t1,t2,t4,(Eq.trans t6 (by first|rfl|simp)),t7,t9,(Eq.trans t10 rfl),h1,h2,h9,⟨(congrArg Blk.ver h11),congrArg Blk.live h11⟩,⟨(congrArg Blk.ver h12),congrArg Blk.live h12⟩,(Eq.trans h26 (by first|rfl|(rw [← aS,List.map_replicate]; done)|(rw [← aS,List.map_replicate]; rfl)|(rw [← aY (f:=fun _=>(-1:Int)) (z:=0) (n:=m.nx.length) (j:=k) (by omega)]; first|done|rfl)|(rw [aB,g2]; first|done|rfl)|(rw [aB,eo]; first|done|rfl)|(rw [aB,e9,eo]; first|done|rfl)|(rw [aB,g2,List.map_append]; first|done|rfl)|(rw [aB,← eo,List.map_append]; first|done|rfl)|(rw [aB,ej,List.map_append]; first|done|rfl)|(rw [aB,ek,List.map_append]; first|done|rfl)|(simp; done))),(Eq.trans h30 (by first|rfl|(rw [← aS,List.map_replicate]; done)|(rw [← aS,List.map_replicate]; rfl)|(rw [← aY (f:=fun _=>(-1:Int)) (z:=0) (n:=m.nx.length) (j:=k) (by omega)]; first|done|rfl)|(rw [aB,g2]; first|done|rfl)|(rw [aB,eo]; first|done|rfl)|(rw [aB,e9,eo]; first|done|rfl)|(rw [aB,g2,List.map_append]; first|done|rfl)|(rw [aB,← eo,List.map_append]; first|done|rfl)|(rw [aB,ej,List.map_append]; first|done|rfl)|(rw [aB,ek,List.map_append]; first|done|rfl)|(simp; done))),(Eq.trans h812 (by first|rfl|(rw [← aS,List.map_replicate]; done)|(rw [← aS,List.map_replicate]; rfl)|(rw [← aY (f:=fun _=>(-1:Int)) (z:=0) (n:=m.nx.length) (j:=k) (by omega)]; first|done|rfl)|(rw [aB,g2]; first|done|rfl)|(rw [aB,eo]; first|done|rfl)|(rw [aB,e9,eo]; first|done|rfl)|(rw [aB,g2,List.map_append]; first|done|rfl)|(rw [aB,← eo,List.map_append]; first|done|rfl)|(rw [aB,ej,List.map_append]; first|done|rfl)|(rw [aB,ek,List.map_append]; first|done|rfl)|(simp; done))),(Eq.trans h813 (by first|rfl|(rw [← aS,List.map_replicate]; done)|(rw [← aS,List.map_replicate]; rfl)|(rw [← aY (f:=fun _=>(-1:Int)) (z:=0) (n:=m.nx.length) (j:=k) (by omega)]; first|done|rfl)|(rw [aB,g2]; first|done|rfl)|(rw [aB,eo]; first|done|rfl)|(rw [aB,e9,eo]; first|done|rfl)|(rw [aB,g2,List.map_append]; first|done|rfl)|(rw [aB,← eo,List.map_append]; first|done|rfl)|(rw [aB,ej,List.map_append]; first|done|rfl)|(rw [aB,ek,List.map_append]; first|done|rfl)|(simp; done))),?_⟩
  · first|exact aKu hm|(rw [e7]; exact aKu hm)
 intro mm T H ⟨i,v,w,u,O,N,v11,v12,hmm,t1,t2,t4,t6,t7,t9,t10,h1,h2,h9,h11,h12,h26,h30,h812,h813,hO⟩ Q7 p17 p27 p37
 unfold aKE
 refine aE (W_r (aC t10 (aC t6 (dX rfl h26 (by first|rfl|simp) (bU rfl rfl (R_e ?_))))))
 refine aP rfl (fun c8=>?_) fun c8=>?_
 ·
  have ol:=hO.len hm
  obtain ⟨a1,a2,a3⟩:=hO.at hm (by omega)
  have rr:=mo.2.2.2.2.2.2.2 (nth O i).toNat (by omega)
  refine aJ (aH fun Q9 n9 x9 y9 z9=>(W_r (eS (i:=11) (n:=v11) rfl (h11).1 (eS (i:=12) (n:=v12) rfl (h12).1 (R_e (aE (W_r ?_)))))))
  refine aC rfl (R_e (aH fun Q10 n10 x10 y10 z10=>?_))
  refine bW (fun mm T H=> ∃ (j:Nat) (v2:Nat) (w2:Nat) (u2:Nat) (Q:List Int) (N2:List Int),mm=m.i.toNat - j∧T 1=(V.mp 1 1 0 0)∧T 2=(V.mp 2 1 0 0)∧T 4=(aM (clR m))∧T 6=(V.ms 26 u2 0 (Q.length))∧T 7=(V.ms 30 1 0 (m.nx.length))∧T 9=(V.mp 9 1 0 0)∧T 10=(iV ((i:Nat):Int))∧T 11=(V.ms 11 v2 0 (j))∧T 12=(V.ms 12 w2 0 (j))∧T 13=(iV ((j:Nat):Int))∧H 1=(bk 1 24 4 [[(iV (m.i)),(iV (m.s)),(aA m.nx),(aA m.ot)]])∧H 2=(bk 1 24 4 [[(iV (0:Int)),(iV (0:Int)),V.nilsl,V.nilsl]])∧H 9=(bk 1 24 4 [[(iV (m.i)),(iV (0:Int)),(V.ms 812 v 0 (i)),(V.ms 813 w 0 (i))]])∧H 11=(bz v2 3 1 (List.map cI (tbl (kZ m i) j)))∧H 12=(bz w2 3 1 (List.map cI (tbl (lF m i) j)))∧H 26=(bk u2 3 1 (List.map cI (Q)))∧H 30=(bk 1 3 1 (List.map cI (N2)))∧H 812=(bz v 25 1 (List.map cL (tbl (rNx m) i)))∧H 813=(bz w 25 1 (List.map cL (tbl (rOt m) i)))∧(j≤m.i.toNat)∧(RQI m i j O Q N2)) ?_ ?_
  ·
   refine ⟨_,0,(v11+1),(v12+1),u,O,N,rfl,t1,t2,t4,t6,t7,t9,t10,(Eq.trans (@rfl V (V.ms 11 (v11+1) 0 (0))) (by first|rfl|simp)),(Eq.trans (@rfl V (V.ms 12 (v12+1) 0 (0))) (by first|rfl|simp)),(Eq.trans (@rfl V (iV (0:Int))) rfl),h1,h2,h9,(Eq.trans (@rfl Blk (bz (v11+1) 3 1 [])) (by first|rfl|(rw [← aS,List.map_replicate]; done)|(rw [← aS,List.map_replicate]; rfl)|(rw [← aY (f:=fun _=>(-1:Int)) (z:=0) (n:=m.nx.length) (j:=k) (by omega)]; first|done|rfl)|(rw [aB,g2]; first|done|rfl)|(rw [aB,eo]; first|done|rfl)|(rw [aB,e9,eo]; first|done|rfl)|(rw [aB,g2,List.map_append]; first|done|rfl)|(rw [aB,← eo,List.map_append]; first|done|rfl)|(rw [aB,ej,List.map_append]; first|done|rfl)|(rw [aB,ek,List.map_append]; first|done|rfl)|(simp; done))),(Eq.trans (@rfl Blk (bz (v12+1) 3 1 [])) (by first|rfl|(rw [← aS,List.map_replicate]; done)|(rw [← aS,List.map_replicate]; rfl)|(rw [← aY (f:=fun _=>(-1:Int)) (z:=0) (n:=m.nx.length) (j:=k) (by omega)]; first|done|rfl)|(rw [aB,g2]; first|done|rfl)|(rw [aB,eo]; first|done|rfl)|(rw [aB,e9,eo]; first|done|rfl)|(rw [aB,g2,List.map_append]; first|done|rfl)|(rw [aB,← eo,List.map_append]; first|done|rfl)|(rw [aB,ej,List.map_append]; first|done|rfl)|(rw [aB,ek,List.map_append]; first|done|rfl)|(simp; done))),h26,h30,h812,h813,?_,?_⟩
   · exact Nat.zero_le _
   · exact aRl hO
  intro mm T H ⟨j,v2,w2,u2,Q,N2,hmm,t1,t2,t4,t6,t7,t9,t10,t11,t12,t13,h1,h2,h9,h11,h12,h26,h30,h812,h813,hj,hQ⟩ Q11 p111 p211 p311
  unfold aJ3
  refine aE (W_r (aC t13 (bD t1 h1 (aX rfl h1 rfl rfl (bU rfl rfl (R_e ?_))))))
  refine aP rfl (fun c12=>?_) fun c12=>?_
  ·
   have q5:=hQ.2.2.2.2
   have ql:=hQ.2.2.2.1
   have qn:=hQ.2.2.1.1
   have rj:=rr.2.2 j (by omega)
   have rq:=mo.2.2.2.2.2.2.2 (nth Q i).toNat (by rw [q5]; omega)
   have rqj:=rq.2.2 j (by omega)
   have xr:=nH hm rqj.1 (by omega)
   obtain ⟨z1,z2,z3⟩:=hQ.step hm hO (by omega) (by omega)
   have eo:=hQ.out hm hO (j:=j) (by omega)
   refine aJ (aH fun Q13 n13 x13 y13 z13=>(W_r (bD t1 h1 (aX rfl h1 rfl rfl (aC t6 (aC t10 (cV (i:=i) (@rfl V (V.ms 26 u2 0 (Q.length))) (@rfl V (iV ((i:Nat):Int))) h26 oB rfl (by first|omega|(simp only [List.length_replicate]; omega)|(rw [aF]; omega)|(rw [List.length_set]; omega)|(rw [List.length_append]; omega)|(rw [e9]; omega)) ?_)))))))
   refine bV (v:=(iV ((nth (Q) (i))))) rfl h26 (dN (by first|omega|(simp only [List.length_replicate]; omega)|(rw [aF]; omega)|(rw [List.length_set]; omega)|(rw [List.length_append]; omega)|(rw [e9]; omega)) (by first|rfl|(rw [cF_eq]; rfl)|simp [ldV,V.one])) (eT (i:=((nth (Q) (i)))) (@rfl V (aA m.nx)) (@rfl V (iV ((nth (Q) (i))))) (by first|omega|(simp only [List.length_replicate]; omega)|(rw [aF]; omega)|(rw [List.length_set]; omega)|(rw [List.length_append]; omega)|(rw [e9]; omega)) (by first|omega|(simp only [List.length_replicate]; omega)|(rw [aF]; omega)|(rw [List.length_set]; omega)|(rw [List.length_append]; omega)|(rw [e9]; omega)) rfl (aK rfl rfl (aC t13 (bO (i:=j) (@rfl V (aM ((nth (m.nx) ((nth (Q) (i))).toNat)))) (@rfl V (iV ((j:Nat):Int))) (by first|omega|(simp only [List.length_replicate]; omega)|(rw [aF]; omega)|(rw [List.length_set]; omega)|(rw [List.length_append]; omega)|(rw [e9]; omega)) rfl (aK rfl rfl (aC rfl (R_e ?_)))))))
   refine aE (W_r (aC t7 (aC t4 (aC rfl (eT (i:=((nth ((nth (m.nx) ((nth (Q) (i))).toNat)) (j)))) (@rfl V (aM (clR m))) (@rfl V (iV ((nth ((nth (m.nx) ((nth (Q) (i))).toNat)) (j))))) (by first|omega|(simp only [List.length_replicate]; omega)|(rw [aF]; omega)|(rw [List.length_set]; omega)|(rw [List.length_append]; omega)|(rw [e9]; omega)) (by first|omega|(simp only [List.length_replicate]; omega)|(rw [aF]; omega)|(rw [List.length_set]; omega)|(rw [List.length_append]; omega)|(rw [e9]; omega)) rfl (aK rfl rfl (dL (i:=((nth (clR m) ((nth ((nth (m.nx) ((nth (Q) (i))).toNat)) (j))).toNat))) (@rfl V (V.ms 30 1 0 (m.nx.length))) (@rfl V (iV ((nth (clR m) ((nth ((nth (m.nx) ((nth (Q) (i))).toNat)) (j))).toNat)))) h30 oB rfl (by first|omega|(simp only [List.length_replicate]; omega)|(rw [aF]; omega)|(rw [List.length_set]; omega)|(rw [List.length_append]; omega)|(rw [e9]; omega)) (by first|omega|(simp only [List.length_replicate]; omega)|(rw [aF]; omega)|(rw [List.length_set]; omega)|(rw [List.length_append]; omega)|(rw [e9]; omega)) ?_)))))))
   refine bV (v:=(iV ((nth (N2) ((((nth (clR m) ((nth ((nth (m.nx) ((nth (Q) (i))).toNat)) (j))).toNat))).toNat))))) rfl h30 (dN (by first|omega|(simp only [List.length_replicate]; omega)|(rw [aF]; omega)|(rw [List.length_set]; omega)|(rw [List.length_append]; omega)|(rw [e9]; omega)) (by first|rfl|(rw [cF_eq]; rfl)|simp [ldV,V.one])) (bU rfl rfl (R_e ?_))
   refine aP rfl (fun c14=>?_) fun c14=>?_
   ·
    obtain ⟨g1,g2⟩:=z1 c14
    have e9:nth (Q++[nth (nth m.nx (nth Q i).toNat) j]) i=nth Q i:=bY (by omega)
    refine aE (W_r (aC t7 (aC t4 (aC rfl (eT (i:=((nth ((nth (m.nx) ((nth (Q) (i))).toNat)) (j)))) (@rfl V (aM (clR m))) (@rfl V (iV ((nth ((nth (m.nx) ((nth (Q) (i))).toNat)) (j))))) (by first|omega|(simp only [List.length_replicate]; omega)|(rw [aF]; omega)|(rw [List.length_set]; omega)|(rw [List.length_append]; omega)|(rw [e9]; omega)) (by first|omega|(simp only [List.length_replicate]; omega)|(rw [aF]; omega)|(rw [List.length_set]; omega)|(rw [List.length_append]; omega)|(rw [e9]; omega)) rfl (aK rfl rfl (aC t6 ?_)))))))
    refine dX rfl h26 (by first|rfl|simp) (dL (i:=((nth (clR m) ((nth ((nth (m.nx) ((nth (Q) (i))).toNat)) (j))).toNat))) (@rfl V (V.ms 30 1 0 (m.nx.length))) (@rfl V (iV ((nth (clR m) ((nth ((nth (m.nx) ((nth (Q) (i))).toNat)) (j))).toNat)))) h30 oB rfl (by first|omega|(simp only [List.length_replicate]; omega)|(rw [aF]; omega)|(rw [List.length_set]; omega)|(rw [List.length_append]; omega)|(rw [e9]; omega)) (by first|omega|(simp only [List.length_replicate]; omega)|(rw [aF]; omega)|(rw [List.length_set]; omega)|(rw [List.length_append]; omega)|(rw [e9]; omega)) (bC (vs:=[(iV ((Q.length:Nat):Int))]) (B':=(bk 1 3 1 (List.map cI ((N2).set ((((nth (clR m) ((nth ((nth (m.nx) ((nth (Q) (i))).toNat)) (j))).toNat))).toNat) (((Q.length:Nat):Int)))))) rfl rfl rfl h30 (fY (x:=(((Q.length:Nat):Int))) (i:=((((nth (clR m) ((nth ((nth (m.nx) ((nth (Q) (i))).toNat)) (j))).toNat))).toNat)) (by first|omega|(simp only [List.length_replicate]; omega)|(rw [aF]; omega)|(rw [List.length_set]; omega)|(rw [List.length_append]; omega)|(rw [e9]; omega)) rfl rfl rfl rfl) (R_e (W_r (aC t6 (aC rfl (bZ rfl rfl ?_)))))))
    refine cA (l:=Q) (f:=cI) (x:=(((nth ((nth (m.nx) ((nth (Q) (i))).toNat)) (j))))) (@rfl V (V.ms 26 u2 0 (Q.length))) h26 (by first|rfl|exact (aL _ _).symm|simp|omega) (@rfl V (V.sl [[(iV ((nth ((nth (m.nx) ((nth (Q) (i))).toNat)) (j))))]])) rfl rfl (by first|omega|(simp only [List.length_replicate]; omega)|(rw [aF]; omega)|(rw [List.length_set]; omega)|(rw [List.length_append]; omega)|(rw [e9]; omega)) (by first|omega|(simp only [List.length_replicate]; omega)|(rw [aF]; omega)|(rw [List.length_set]; omega)|(rw [List.length_append]; omega)|(rw [e9]; omega)) (aC rfl (R_e ?_))
    refine oH (fun T H=>T 1=(V.mp 1 1 0 0)∧T 2=(V.mp 2 1 0 0)∧T 4=(aM (clR m))∧T 6=(V.ms 26 (u2+1) 0 (Q.length+1))∧T 7=(V.ms 30 1 0 (m.nx.length))∧T 9=(V.mp 9 1 0 0)∧T 10=(iV ((i:Nat):Int))∧T 11=(V.ms 11 (v2+1) 0 (j+1))∧T 12=(V.ms 12 w2 0 (j))∧T 13=(iV ((j:Nat):Int))∧H 1=(bk 1 24 4 [[(iV (m.i)),(iV (m.s)),(aA m.nx),(aA m.ot)]])∧H 2=(bk 1 24 4 [[(iV (0:Int)),(iV (0:Int)),V.nilsl,V.nilsl]])∧H 9=(bk 1 24 4 [[(iV (m.i)),(iV (0:Int)),(V.ms 812 v 0 (i)),(V.ms 813 w 0 (i))]])∧H 11=(bz (v2+1) 3 1 (List.map cI (tbl (kZ m i) j++[((nth ((N2).set ((((nth (clR m) ((nth ((nth (m.nx) ((nth (Q) (i))).toNat)) (j))).toNat))).toNat) (((Q.length:Nat):Int))) ((((nth (clR m) ((nth ((nth (m.nx) ((nth (Q) (i))).toNat)) (j))).toNat))).toNat)))])))∧H 12=(bz w2 3 1 (List.map cI (tbl (lF m i) j)))∧H 26=(bk (u2+1) 3 1 (List.map cI (Q++[((nth ((nth (m.nx) ((nth (Q) (i))).toNat)) (j)))])))∧H 30=(bk 1 3 1 (List.map cI ((N2).set ((((nth (clR m) ((nth ((nth (m.nx) ((nth (Q) (i))).toNat)) (j))).toNat))).toNat) (((Q.length:Nat):Int)))))∧H 812=(bz v 25 1 (List.map cL (tbl (rNx m) i)))∧H 813=(bz w 25 1 (List.map cL (tbl (rOt m) i)))∧True) ?_ ?_
    ·
     refine aC t11 (aC t7 (aC t4 (aC rfl (eT (i:=((nth ((nth (m.nx) ((nth (Q) (i))).toNat)) (j)))) (@rfl V (aM (clR m))) (@rfl V (iV ((nth ((nth (m.nx) ((nth (Q) (i))).toNat)) (j))))) (by first|omega|(simp only [List.length_replicate]; omega)|(rw [aF]; omega)|(rw [List.length_set]; omega)|(rw [List.length_append]; omega)|(rw [e9]; omega)) (by first|omega|(simp only [List.length_replicate]; omega)|(rw [aF]; omega)|(rw [List.length_set]; omega)|(rw [List.length_append]; omega)|(rw [e9]; omega)) rfl (aK rfl rfl (dL (i:=((nth (clR m) ((nth ((nth (m.nx) ((nth (Q) (i))).toNat)) (j))).toNat))) (@rfl V (V.ms 30 1 0 (m.nx.length))) (@rfl V (iV ((nth (clR m) ((nth ((nth (m.nx) ((nth (Q) (i))).toNat)) (j))).toNat)))) (@rfl Blk (bk 1 3 1 (List.map cI ((N2).set ((((nth (clR m) ((nth ((nth (m.nx) ((nth (Q) (i))).toNat)) (j))).toNat))).toNat) (((Q.length:Nat):Int)))))) oB rfl (by first|omega|(simp only [List.length_replicate]; omega)|(rw [aF]; omega)|(rw [List.length_set]; omega)|(rw [List.length_append]; omega)|(rw [e9]; omega)) (by first|omega|(simp only [List.length_replicate]; omega)|(rw [aF]; omega)|(rw [List.length_set]; omega)|(rw [List.length_append]; omega)|(rw [e9]; omega)) (bV (v:=(iV ((nth ((N2).set ((((nth (clR m) ((nth ((nth (m.nx) ((nth (Q) (i))).toNat)) (j))).toNat))).toNat) (((Q.length:Nat):Int))) ((((nth (clR m) ((nth ((nth (m.nx) ((nth (Q) (i))).toNat)) (j))).toNat))).toNat))))) rfl (@rfl Blk (bk 1 3 1 (List.map cI ((N2).set ((((nth (clR m) ((nth ((nth (m.nx) ((nth (Q) (i))).toNat)) (j))).toNat))).toNat) (((Q.length:Nat):Int)))))) (dN (by first|omega|(simp only [List.length_replicate]; omega)|(rw [aF]; omega)|(rw [List.length_set]; omega)|(rw [List.length_append]; omega)|(rw [e9]; omega)) (by first|rfl|(rw [cF_eq]; rfl)|simp [ldV,V.one])) ?_)))))))
     refine bZ rfl rfl (cA (l:=(tbl (kZ m i) j)) (f:=cI) (x:=(((nth ((N2).set ((((nth (clR m) ((nth ((nth (m.nx) ((nth (Q) (i))).toNat)) (j))).toNat))).toNat) (((Q.length:Nat):Int))) ((((nth (clR m) ((nth ((nth (m.nx) ((nth (Q) (i))).toNat)) (j))).toNat))).toNat))))) (@rfl V (V.ms 11 v2 0 (j))) h11 (by first|rfl|exact (aL _ _).symm|simp|omega) (@rfl V (V.sl [[(iV ((nth ((N2).set ((((nth (clR m) ((nth ((nth (m.nx) ((nth (Q) (i))).toNat)) (j))).toNat))).toNat) (((Q.length:Nat):Int))) ((((nth (clR m) ((nth ((nth (m.nx) ((nth (Q) (i))).toNat)) (j))).toNat))).toNat))))]])) rfl rfl (by first|omega|(simp only [List.length_replicate]; omega)|(rw [aF]; omega)|(rw [List.length_set]; omega)|(rw [List.length_append]; omega)|(rw [e9]; omega)) (by first|omega|(simp only [List.length_replicate]; omega)|(rw [aF]; omega)|(rw [List.length_set]; omega)|(rw [List.length_append]; omega)|(rw [e9]; omega)) (aC rfl ?_))
     exact fM ⟨t1,t2,t4,rfl,t7,t9,t10,rfl,t12,t13,h1,h2,h9,rfl,h12,rfl,rfl,h812,h813,trivial⟩
    intro T H ⟨t1,t2,t4,t6,t7,t9,t10,t11,t12,t13,h1,h2,h9,h11,h12,h26,h30,h812,h813,_⟩
    refine W_t (aC t12 (bD t1 h1 (aX rfl h1 rfl rfl (aC t6 (aC t10 (cV (i:=i) (@rfl V (V.ms 26 (u2+1) 0 (Q.length+1))) (@rfl V (iV ((i:Nat):Int))) h26 oB rfl (by first|omega|(simp only [List.length_replicate]; omega)|(rw [aF]; omega)|(rw [List.length_set]; omega)|(rw [List.length_append]; omega)|(rw [e9]; omega)) (bV (v:=(iV ((nth (Q++[((nth ((nth (m.nx) ((nth (Q) (i))).toNat)) (j)))]) (i))))) rfl h26 (dN (by first|omega|(simp only [List.length_replicate]; omega)|(rw [aF]; omega)|(rw [List.length_set]; omega)|(rw [List.length_append]; omega)|(rw [e9]; omega)) (by first|rfl|(rw [cF_eq]; rfl)|simp [ldV,V.one])) ?_)))))))
    refine eT (i:=((nth (Q++[((nth ((nth (m.nx) ((nth (Q) (i))).toNat)) (j)))]) (i)))) (@rfl V (aA m.ot)) (@rfl V (iV ((nth (Q++[((nth ((nth (m.nx) ((nth (Q) (i))).toNat)) (j)))]) (i))))) (by first|omega|(simp only [List.length_replicate]; omega)|(rw [aF]; omega)|(rw [List.length_set]; omega)|(rw [List.length_append]; omega)|(rw [e9]; omega)) (by first|omega|(simp only [List.length_replicate]; omega)|(rw [aF]; omega)|(rw [List.length_set]; omega)|(rw [List.length_append]; omega)|(rw [e9]; omega)) rfl (aK rfl rfl (aC t13 (bO (i:=j) (@rfl V (aM ((nth (m.ot) ((nth (Q++[((nth ((nth (m.nx) ((nth (Q) (i))).toNat)) (j)))]) (i))).toNat)))) (@rfl V (iV ((j:Nat):Int))) (by first|omega|(simp only [List.length_replicate]; omega)|(rw [aF]; omega)|(rw [List.length_set]; omega)|(rw [List.length_append]; omega)|(rw [e9]; omega)) rfl (aK rfl rfl (bZ rfl rfl (cA (l:=(tbl (lF m i) j)) (f:=cI) (x:=(((nth ((nth (m.ot) ((nth (Q++[((nth ((nth (m.nx) ((nth (Q) (i))).toNat)) (j)))]) (i))).toNat)) (j))))) (@rfl V (V.ms 12 w2 0 (j))) h12 (by first|rfl|exact (aL _ _).symm|simp|omega) (@rfl V (V.sl [[(iV ((nth ((nth (m.ot) ((nth (Q++[((nth ((nth (m.nx) ((nth (Q) (i))).toNat)) (j)))]) (i))).toNat)) (j))))]])) rfl rfl (by first|omega|(simp only [List.length_replicate]; omega)|(rw [aF]; omega)|(rw [List.length_set]; omega)|(rw [List.length_append]; omega)|(rw [e9]; omega)) (by first|omega|(simp only [List.length_replicate]; omega)|(rw [aF]; omega)|(rw [List.length_set]; omega)|(rw [List.length_append]; omega)|(rw [e9]; omega)) (aC rfl ?_)))))))
    refine R_e (n13 _ _ (.done (W_t (aC t13 (bJ rfl (@rfl V (iV ((1:Nat):Int))) (by first|omega|(simp only [List.length_replicate]; omega)|(rw [aF]; omega)|(rw [List.length_set]; omega)|(rw [List.length_append]; omega)|(rw [e9]; omega)) (aC rfl (R_e ?_)))))))
    refine p111 _ _ _ ?_ ⟨(j+1),(v2+1),(w2+1),(u2+1),(Q++[((nth ((nth (m.nx) ((nth (Q) (i))).toNat)) (j)))]),((N2).set ((((nth (clR m) ((nth ((nth (m.nx) ((nth (Q) (i))).toNat)) (j))).toNat))).toNat) (((Q.length:Nat):Int))),rfl,t1,t2,t4,(Eq.trans t6 (by first|rfl|simp)),t7,t9,t10,(Eq.trans t11 (by first|rfl|simp)),(Eq.trans (@rfl V (V.ms 12 (w2+1) 0 (j+1))) (by first|rfl|simp)),(Eq.trans (@rfl V (iV ((j+1:Nat):Int))) (by first|rfl|simp)),h1,h2,h9,(Eq.trans h11 (by first|rfl|(rw [← aS,List.map_replicate]; done)|(rw [← aS,List.map_replicate]; rfl)|(rw [← aY (f:=fun _=>(-1:Int)) (z:=0) (n:=m.nx.length) (j:=k) (by omega)]; first|done|rfl)|(rw [aB,g2]; first|done|rfl)|(rw [aB,eo]; first|done|rfl)|(rw [aB,e9,eo]; first|done|rfl)|(rw [aB,g2,List.map_append]; first|done|rfl)|(rw [aB,← eo,List.map_append]; first|done|rfl)|(rw [aB,ej,List.map_append]; first|done|rfl)|(rw [aB,ek,List.map_append]; first|done|rfl)|(simp; done))),(Eq.trans (@rfl Blk (bz (w2+1) 3 1 (List.map cI (tbl (lF m i) j++[((nth ((nth (m.ot) ((nth (Q++[((nth ((nth (m.nx) ((nth (Q) (i))).toNat)) (j)))]) (i))).toNat)) (j)))])))) (by first|rfl|(rw [← aS,List.map_replicate]; done)|(rw [← aS,List.map_replicate]; rfl)|(rw [← aY (f:=fun _=>(-1:Int)) (z:=0) (n:=m.nx.length) (j:=k) (by omega)]; first|done|rfl)|(rw [aB,g2]; first|done|rfl)|(rw [aB,eo]; first|done|rfl)|(rw [aB,e9,eo]; first|done|rfl)|(rw [aB,g2,List.map_append]; first|done|rfl)|(rw [aB,← eo,List.map_append]; first|done|rfl)|(rw [aB,ej,List.map_append]; first|done|rfl)|(rw [aB,ek,List.map_append]; first|done|rfl)|(simp; done))),(Eq.trans h26 (by first|rfl|(rw [← aS,List.map_replicate]; done)|(rw [← aS,List.map_replicate]; rfl)|(rw [← aY (f:=fun _=>(-1:Int)) (z:=0) (n:=m.nx.length) (j:=k) (by omega)]; first|done|rfl)|(rw [aB,g2]; first|done|rfl)|(rw [aB,eo]; first|done|rfl)|(rw [aB,e9,eo]; first|done|rfl)|(rw [aB,g2,List.map_append]; first|done|rfl)|(rw [aB,← eo,List.map_append]; first|done|rfl)|(rw [aB,ej,List.map_append]; first|done|rfl)|(rw [aB,ek,List.map_append]; first|done|rfl)|(simp; done))),(Eq.trans h30 (by first|rfl|(rw [← aS,List.map_replicate]; done)|(rw [← aS,List.map_replicate]; rfl)|(rw [← aY (f:=fun _=>(-1:Int)) (z:=0) (n:=m.nx.length) (j:=k) (by omega)]; first|done|rfl)|(rw [aB,g2]; first|done|rfl)|(rw [aB,eo]; first|done|rfl)|(rw [aB,e9,eo]; first|done|rfl)|(rw [aB,g2,List.map_append]; first|done|rfl)|(rw [aB,← eo,List.map_append]; first|done|rfl)|(rw [aB,ej,List.map_append]; first|done|rfl)|(rw [aB,ek,List.map_append]; first|done|rfl)|(simp; done))),h812,h813,?_,?_⟩
    · omega
    · omega
    · exact g1
   obtain ⟨g1,g2⟩:=z2 c14
   refine aJ (W_r (aC t11 (aC t7 (aC t4 (aC rfl (eT (i:=((nth ((nth (m.nx) ((nth (Q) (i))).toNat)) (j)))) (@rfl V (aM (clR m))) (@rfl V (iV ((nth ((nth (m.nx) ((nth (Q) (i))).toNat)) (j))))) (by first|omega|(simp only [List.length_replicate]; omega)|(rw [aF]; omega)|(rw [List.length_set]; omega)|(rw [List.length_append]; omega)|(rw [e9]; omega)) (by first|omega|(simp only [List.length_replicate]; omega)|(rw [aF]; omega)|(rw [List.length_set]; omega)|(rw [List.length_append]; omega)|(rw [e9]; omega)) rfl (aK rfl rfl ?_)))))))
   refine dL (i:=((nth (clR m) ((nth ((nth (m.nx) ((nth (Q) (i))).toNat)) (j))).toNat))) (@rfl V (V.ms 30 1 0 (m.nx.length))) (@rfl V (iV ((nth (clR m) ((nth ((nth (m.nx) ((nth (Q) (i))).toNat)) (j))).toNat)))) h30 oB rfl (by first|omega|(simp only [List.length_replicate]; omega)|(rw [aF]; omega)|(rw [List.length_set]; omega)|(rw [List.length_append]; omega)|(rw [e9]; omega)) (by first|omega|(simp only [List.length_replicate]; omega)|(rw [aF]; omega)|(rw [List.length_set]; omega)|(rw [List.length_append]; omega)|(rw [e9]; omega)) (bV (v:=(iV ((nth (N2) ((((nth (clR m) ((nth ((nth (m.nx) ((nth (Q) (i))).toNat)) (j))).toNat))).toNat))))) rfl h30 (dN (by first|omega|(simp only [List.length_replicate]; omega)|(rw [aF]; omega)|(rw [List.length_set]; omega)|(rw [List.length_append]; omega)|(rw [e9]; omega)) (by first|rfl|(rw [cF_eq]; rfl)|simp [ldV,V.one])) (bZ rfl rfl (cA (l:=(tbl (kZ m i) j)) (f:=cI) (x:=(((nth (N2) ((((nth (clR m) ((nth ((nth (m.nx) ((nth (Q) (i))).toNat)) (j))).toNat))).toNat))))) (@rfl V (V.ms 11 v2 0 (j))) h11 (by first|rfl|exact (aL _ _).symm|simp|omega) (@rfl V (V.sl [[(iV ((nth (N2) ((((nth (clR m) ((nth ((nth (m.nx) ((nth (Q) (i))).toNat)) (j))).toNat))).toNat))))]])) rfl rfl (by first|omega|(simp only [List.length_replicate]; omega)|(rw [aF]; omega)|(rw [List.length_set]; omega)|(rw [List.length_append]; omega)|(rw [e9]; omega)) (by first|omega|(simp only [List.length_replicate]; omega)|(rw [aF]; omega)|(rw [List.length_set]; omega)|(rw [List.length_append]; omega)|(rw [e9]; omega)) (aC rfl (R_e ?_)))))
   refine aCL (fun T H=>T 1=(V.mp 1 1 0 0)∧T 2=(V.mp 2 1 0 0)∧T 4=(aM (clR m))∧T 6=(V.ms 26 u2 0 (Q.length))∧T 7=(V.ms 30 1 0 (m.nx.length))∧T 9=(V.mp 9 1 0 0)∧T 10=(iV ((i:Nat):Int))∧T 11=(V.ms 11 (v2+1) 0 (j+1))∧T 12=(V.ms 12 (w2+1) 0 (j+1))∧T 13=(iV ((j:Nat):Int))∧H 1=(bk 1 24 4 [[(iV (m.i)),(iV (m.s)),(aA m.nx),(aA m.ot)]])∧H 2=(bk 1 24 4 [[(iV (0:Int)),(iV (0:Int)),V.nilsl,V.nilsl]])∧H 9=(bk 1 24 4 [[(iV (m.i)),(iV (0:Int)),(V.ms 812 v 0 (i)),(V.ms 813 w 0 (i))]])∧H 11=(bz (v2+1) 3 1 (List.map cI (tbl (kZ m i) j++[((nth (N2) ((((nth (clR m) ((nth ((nth (m.nx) ((nth (Q) (i))).toNat)) (j))).toNat))).toNat)))])))∧H 12=(bz (w2+1) 3 1 (List.map cI (tbl (lF m i) j++[((nth ((nth (m.ot) ((nth (Q) (i))).toNat)) (j)))])))∧H 26=(bk u2 3 1 (List.map cI (Q)))∧H 30=(bk 1 3 1 (List.map cI (N2)))∧H 812=(bz v 25 1 (List.map cL (tbl (rNx m) i)))∧H 813=(bz w 25 1 (List.map cL (tbl (rOt m) i)))∧True) ?_ ?_
   ·
    refine aC t12 (bD t1 h1 (aX rfl h1 rfl rfl (aC t6 (aC t10 (cV (i:=i) (@rfl V (V.ms 26 u2 0 (Q.length))) (@rfl V (iV ((i:Nat):Int))) h26 oB rfl (by first|omega|(simp only [List.length_replicate]; omega)|(rw [aF]; omega)|(rw [List.length_set]; omega)|(rw [List.length_append]; omega)|(rw [e9]; omega)) (bV (v:=(iV ((nth (Q) (i))))) rfl h26 (dN (by first|omega|(simp only [List.length_replicate]; omega)|(rw [aF]; omega)|(rw [List.length_set]; omega)|(rw [List.length_append]; omega)|(rw [e9]; omega)) (by first|rfl|(rw [cF_eq]; rfl)|simp [ldV,V.one])) (eT (i:=((nth (Q) (i)))) (@rfl V (aA m.ot)) (@rfl V (iV ((nth (Q) (i))))) (by first|omega|(simp only [List.length_replicate]; omega)|(rw [aF]; omega)|(rw [List.length_set]; omega)|(rw [List.length_append]; omega)|(rw [e9]; omega)) (by first|omega|(simp only [List.length_replicate]; omega)|(rw [aF]; omega)|(rw [List.length_set]; omega)|(rw [List.length_append]; omega)|(rw [e9]; omega)) rfl ?_)))))))
    refine aK rfl rfl (aC t13 (bO (i:=j) (@rfl V (aM ((nth (m.ot) ((nth (Q) (i))).toNat)))) (@rfl V (iV ((j:Nat):Int))) (by first|omega|(simp only [List.length_replicate]; omega)|(rw [aF]; omega)|(rw [List.length_set]; omega)|(rw [List.length_append]; omega)|(rw [e9]; omega)) rfl (aK rfl rfl (bZ rfl rfl (cA (l:=(tbl (lF m i) j)) (f:=cI) (x:=(((nth ((nth (m.ot) ((nth (Q) (i))).toNat)) (j))))) (@rfl V (V.ms 12 w2 0 (j))) h12 (by first|rfl|exact (aL _ _).symm|simp|omega) (@rfl V (V.sl [[(iV ((nth ((nth (m.ot) ((nth (Q) (i))).toNat)) (j))))]])) rfl rfl (by first|omega|(simp only [List.length_replicate]; omega)|(rw [aF]; omega)|(rw [List.length_set]; omega)|(rw [List.length_append]; omega)|(rw [e9]; omega)) (by first|omega|(simp only [List.length_replicate]; omega)|(rw [aF]; omega)|(rw [List.length_set]; omega)|(rw [List.length_append]; omega)|(rw [e9]; omega)) (aC rfl ?_))))))
    exact fM ⟨t1,t2,t4,t6,t7,t9,t10,rfl,rfl,t13,h1,h2,h9,rfl,rfl,h26,h30,h812,h813,trivial⟩
   intro T H ⟨t1,t2,t4,t6,t7,t9,t10,t11,t12,t13,h1,h2,h9,h11,h12,h26,h30,h812,h813,_⟩
   refine n13 _ _ (.done (W_t (aC t13 (bJ rfl (@rfl V (iV ((1:Nat):Int))) (by first|omega|(simp only [List.length_replicate]; omega)|(rw [aF]; omega)|(rw [List.length_set]; omega)|(rw [List.length_append]; omega)|(rw [e9]; omega)) (aC rfl (R_e ?_))))))
   refine p111 _ _ _ ?_ ⟨(j+1),(v2+1),(w2+1),u2,Q,N2,rfl,t1,t2,t4,t6,t7,t9,t10,(Eq.trans t11 (by first|rfl|simp)),(Eq.trans t12 (by first|rfl|simp)),(Eq.trans (@rfl V (iV ((j+1:Nat):Int))) (by first|rfl|simp)),h1,h2,h9,(Eq.trans h11 (by first|rfl|(rw [← aS,List.map_replicate]; done)|(rw [← aS,List.map_replicate]; rfl)|(rw [← aY (f:=fun _=>(-1:Int)) (z:=0) (n:=m.nx.length) (j:=k) (by omega)]; first|done|rfl)|(rw [aB,g2]; first|done|rfl)|(rw [aB,eo]; first|done|rfl)|(rw [aB,e9,eo]; first|done|rfl)|(rw [aB,g2,List.map_append]; first|done|rfl)|(rw [aB,← eo,List.map_append]; first|done|rfl)|(rw [aB,ej,List.map_append]; first|done|rfl)|(rw [aB,ek,List.map_append]; first|done|rfl)|(simp; done))),(Eq.trans h12 (by first|rfl|(rw [← aS,List.map_replicate]; done)|(rw [← aS,List.map_replicate]; rfl)|(rw [← aY (f:=fun _=>(-1:Int)) (z:=0) (n:=m.nx.length) (j:=k) (by omega)]; first|done|rfl)|(rw [aB,g2]; first|done|rfl)|(rw [aB,eo]; first|done|rfl)|(rw [aB,e9,eo]; first|done|rfl)|(rw [aB,g2,List.map_append]; first|done|rfl)|(rw [aB,← eo,List.map_append]; first|done|rfl)|(rw [aB,ej,List.map_append]; first|done|rfl)|(rw [aB,ek,List.map_append]; first|done|rfl)|(simp; done))),h26,h30,h812,h813,?_,?_⟩
   · omega
   · omega
   · exact g1
  have f1:=hQ.fin hm hO (by omega) (by omega)
  have ej:rNx m i=tbl (kZ m i) j:=by unfold rNx; rw [show m.i.toNat=j by omega]
  have ek:rOt m i=tbl (lF m i) j:=by unfold rOt; rw [show m.i.toNat=j by omega]
  refine aW (p311 _ _ _ (x10 _ _ (bQ (R:=fun T H=>T 1=(V.mp 1 1 0 0)∧T 2=(V.mp 2 1 0 0)∧T 4=(aM (clR m))∧T 6=(V.ms 26 u2 0 (Q.length))∧T 7=(V.ms 30 1 0 (m.nx.length))∧T 9=(V.mp 9 1 0 0)∧T 10=(iV ((i:Nat):Int))∧T 11=(V.ms 11 v2 0 (j))∧T 12=(V.ms 12 w2 0 (j))∧T 13=(iV ((j:Nat):Int))∧T 59=(V.bool (decide (((j:Nat):Int) < (m.i))))∧H 1=(bk 1 24 4 [[(iV (m.i)),(iV (m.s)),(aA m.nx),(aA m.ot)]])∧H 2=(bk 1 24 4 [[(iV (0:Int)),(iV (0:Int)),V.nilsl,V.nilsl]])∧H 9=(bk 1 24 4 [[(iV (m.i)),(iV (0:Int)),(V.ms 812 v 0 (i)),(V.ms 813 w 0 (i))]])∧H 11=(bz v2 3 1 (List.map cI (tbl (kZ m i) j)))∧H 12=(bz w2 3 1 (List.map cI (tbl (lF m i) j)))∧H 26=(bk u2 3 1 (List.map cI (Q)))∧H 30=(bk 1 3 1 (List.map cI (N2)))∧H 812=(bz v 25 1 (List.map cL (tbl (rNx m) i)))∧H 813=(bz w 25 1 (List.map cL (tbl (rOt m) i)))∧True) ⟨t1,t2,t4,t6,t7,t9,t10,t11,t12,t13,(@rfl V (V.bool (decide (((j:Nat):Int) < (m.i))))),h1,h2,h9,h11,h12,h26,h30,h812,h813,trivial⟩ ?_)))
  intro T H ⟨t1,t2,t4,t6,t7,t9,t10,t11,t12,t13,t59,h1,h2,h9,h11,h12,h26,h30,h812,h813,_⟩
  refine .freeze 11 (.done ?_)
  refine bQ (R:=fun T H=>T 1=(V.mp 1 1 0 0)∧T 2=(V.mp 2 1 0 0)∧T 4=(aM (clR m))∧T 6=(V.ms 26 u2 0 (Q.length))∧T 7=(V.ms 30 1 0 (m.nx.length))∧T 9=(V.mp 9 1 0 0)∧T 10=(iV ((i:Nat):Int))∧T 11=(aM (tbl (kZ m i) j))∧T 12=(V.ms 12 w2 0 (j))∧T 13=(iV ((j:Nat):Int))∧T 59=(V.bool (decide (((j:Nat):Int) < (m.i))))∧H 1=(bk 1 24 4 [[(iV (m.i)),(iV (m.s)),(aA m.nx),(aA m.ot)]])∧H 2=(bk 1 24 4 [[(iV (0:Int)),(iV (0:Int)),V.nilsl,V.nilsl]])∧H 9=(bk 1 24 4 [[(iV (m.i)),(iV (0:Int)),(V.ms 812 v 0 (i)),(V.ms 813 w 0 (i))]])∧((H 11).ver=v2∧(H 11).live=false)∧H 12=(bz w2 3 1 (List.map cI (tbl (lF m i) j)))∧H 26=(bk u2 3 1 (List.map cI (Q)))∧H 30=(bk 1 3 1 (List.map cI (N2)))∧H 812=(bz v 25 1 (List.map cL (tbl (rNx m) i)))∧H 813=(bz w 25 1 (List.map cL (tbl (rOt m) i)))∧True) ⟨(aO t1 rfl),(aO t2 rfl),(aO t4 rfl),(aO t6 (fW (by decide))),(aO t7 (fW (by decide))),(aO t9 rfl),(aO t10 rfl),(aO t11 (gE h11 (by first|rfl|simp) (l:=(tbl (kZ m i) j)) rfl (by first|rfl|exact (aL _ _).symm|simp|omega))),(aO t12 (fW (by decide))),(aO t13 rfl),(aO t59 rfl),(aN h1 (by decide)),(aN h2 (by decide)),(aN h9 (by decide)),(bL (congrArg Blk.ver h11)),(aN h12 (by decide)),(aN h26 (by decide)),(aN h30 (by decide)),(aN h812 (by decide)),(aN h813 (by decide)),trivial⟩ ?_
  intro T H ⟨t1,t2,t4,t6,t7,t9,t10,t11,t12,t13,t59,h1,h2,h9,h11,h12,h26,h30,h812,h813,_⟩
  refine gR (fun T H=>T 1=(V.mp 1 1 0 0)∧T 2=(V.mp 2 1 0 0)∧T 4=(aM (clR m))∧T 6=(V.ms 26 u2 0 (Q.length))∧T 7=(V.ms 30 1 0 (m.nx.length))∧T 9=(V.mp 9 1 0 0)∧T 10=(iV ((i:Nat):Int))∧T 12=(V.ms 12 w2 0 (j))∧H 1=(bk 1 24 4 [[(iV (m.i)),(iV (m.s)),(aA m.nx),(aA m.ot)]])∧H 2=(bk 1 24 4 [[(iV (0:Int)),(iV (0:Int)),V.nilsl,V.nilsl]])∧H 9=(bk 1 24 4 [[(iV (m.i)),(iV (0:Int)),(V.ms 812 (v+1) 0 (i+1)),(V.ms 813 w 0 (i))]])∧((H 11).ver=v2∧(H 11).live=false)∧H 12=(bz w2 3 1 (List.map cI (tbl (lF m i) j)))∧H 26=(bk u2 3 1 (List.map cI (Q)))∧H 30=(bk 1 3 1 (List.map cI (N2)))∧H 812=(bz (v+1) 25 1 (List.map cL (tbl (rNx m) i++[tbl (kZ m i) j])))∧H 813=(bz w 25 1 (List.map cL (tbl (rOt m) i)))∧True) ?_ ?_
  ·
   refine bD t9 h9 (aX rfl h9 rfl rfl (aC t11 (bZ rfl rfl (cA (l:=(tbl (rNx m) i)) (f:=cL) (x:=(tbl (kZ m i) j)) (@rfl V (V.ms 812 v 0 (i))) h812 (by first|rfl|exact (aL _ _).symm|simp|omega) (@rfl V (V.sl [[(aM (tbl (kZ m i) j))]])) rfl rfl (by first|omega|(simp only [List.length_replicate]; omega)|(rw [aF]; omega)|(rw [List.length_set]; omega)|(rw [List.length_append]; omega)|(rw [e9]; omega)) (by first|omega|(simp only [List.length_replicate]; omega)|(rw [aF]; omega)|(rw [List.length_set]; omega)|(rw [List.length_append]; omega)|(rw [e9]; omega)) (bD t9 h9 (bC (vs:=[(V.ms 812 (v+1) 0 (i+1))]) (B':=(bk 1 24 4 [[(iV (m.i)),(iV (0:Int)),(V.ms 812 (v+1) 0 (i+1)),(V.ms 813 w 0 (i))]])) rfl rfl rfl h9 (sB oB rfl rfl rfl rfl rfl) ?_))))))
   exact fM ⟨t1,t2,t4,t6,t7,t9,t10,t12,h1,h2,rfl,h11,h12,h26,h30,rfl,h813,trivial⟩
  intro T H ⟨t1,t2,t4,t6,t7,t9,t10,t12,h1,h2,h9,h11,h12,h26,h30,h812,h813,_⟩
  refine .freeze 12 (.done ?_)
  refine bQ (R:=fun T H=>T 1=(V.mp 1 1 0 0)∧T 2=(V.mp 2 1 0 0)∧T 4=(aM (clR m))∧T 6=(V.ms 26 u2 0 (Q.length))∧T 7=(V.ms 30 1 0 (m.nx.length))∧T 9=(V.mp 9 1 0 0)∧T 10=(iV ((i:Nat):Int))∧T 12=(aM (tbl (lF m i) j))∧H 1=(bk 1 24 4 [[(iV (m.i)),(iV (m.s)),(aA m.nx),(aA m.ot)]])∧H 2=(bk 1 24 4 [[(iV (0:Int)),(iV (0:Int)),V.nilsl,V.nilsl]])∧H 9=(bk 1 24 4 [[(iV (m.i)),(iV (0:Int)),(V.ms 812 (v+1) 0 (i+1)),(V.ms 813 w 0 (i))]])∧((H 11).ver=v2∧(H 11).live=false)∧((H 12).ver=w2∧(H 12).live=false)∧H 26=(bk u2 3 1 (List.map cI (Q)))∧H 30=(bk 1 3 1 (List.map cI (N2)))∧H 812=(bz (v+1) 25 1 (List.map cL (tbl (rNx m) i++[tbl (kZ m i) j])))∧H 813=(bz w 25 1 (List.map cL (tbl (rOt m) i)))∧True) ⟨(aO t1 rfl),(aO t2 rfl),(aO t4 rfl),(aO t6 (fW (by decide))),(aO t7 (fW (by decide))),(aO t9 rfl),(aO t10 rfl),(aO t12 (gE h12 (by first|rfl|simp) (l:=(tbl (lF m i) j)) rfl (by first|rfl|exact (aL _ _).symm|simp|omega))),(aN h1 (by decide)),(aN h2 (by decide)),(aN h9 (by decide)),(bK h11),(bL (congrArg Blk.ver h12)),(aN h26 (by decide)),(aN h30 (by decide)),(aN h812 (by decide)),(aN h813 (by decide)),trivial⟩ ?_
  intro T H ⟨t1,t2,t4,t6,t7,t9,t10,t12,h1,h2,h9,h11,h12,h26,h30,h812,h813,_⟩
  refine W_t (bD t9 h9 (aX rfl h9 rfl rfl (aC t12 (bZ rfl rfl (cA (l:=(tbl (rOt m) i)) (f:=cL) (x:=(tbl (lF m i) j)) (@rfl V (V.ms 813 w 0 (i))) h813 (by first|rfl|exact (aL _ _).symm|simp|omega) (@rfl V (V.sl [[(aM (tbl (lF m i) j))]])) rfl rfl (by first|omega|(simp only [List.length_replicate]; omega)|(rw [aF]; omega)|(rw [List.length_set]; omega)|(rw [List.length_append]; omega)|(rw [e9]; omega)) (by first|omega|(simp only [List.length_replicate]; omega)|(rw [aF]; omega)|(rw [List.length_set]; omega)|(rw [List.length_append]; omega)|(rw [e9]; omega)) (bD t9 h9 (bC (vs:=[(V.ms 813 (w+1) 0 (i+1))]) (B':=(bk 1 24 4 [[(iV (m.i)),(iV (0:Int)),(V.ms 812 (v+1) 0 (i+1)),(V.ms 813 (w+1) 0 (i+1))]])) rfl rfl rfl h9 (sB oB rfl rfl rfl rfl rfl) ?_)))))))
  refine R_e (n9 _ _ (.done (W_t (aC t10 (bJ rfl (@rfl V (iV ((1:Nat):Int))) (by first|omega|(simp only [List.length_replicate]; omega)|(rw [aF]; omega)|(rw [List.length_set]; omega)|(rw [List.length_append]; omega)|(rw [e9]; omega)) (aC rfl (R_e ?_)))))))
  refine p17 _ _ _ ?_ ⟨(i+1),(v+1),(w+1),u2,Q,N2,v2,w2,rfl,t1,t2,t4,t6,t7,t9,(Eq.trans (@rfl V (iV ((i+1:Nat):Int))) (by first|rfl|simp)),h1,h2,(Eq.trans (@rfl Blk (bk 1 24 4 [[(iV (m.i)),(iV (0:Int)),(V.ms 812 (v+1) 0 (i+1)),(V.ms 813 (w+1) 0 (i+1))]])) (by first|rfl|(rw [← aS,List.map_replicate]; done)|(rw [← aS,List.map_replicate]; rfl)|(rw [← aY (f:=fun _=>(-1:Int)) (z:=0) (n:=m.nx.length) (j:=k) (by omega)]; first|done|rfl)|(rw [aB,g2]; first|done|rfl)|(rw [aB,eo]; first|done|rfl)|(rw [aB,e9,eo]; first|done|rfl)|(rw [aB,g2,List.map_append]; first|done|rfl)|(rw [aB,← eo,List.map_append]; first|done|rfl)|(rw [aB,ej,List.map_append]; first|done|rfl)|(rw [aB,ek,List.map_append]; first|done|rfl)|(simp; done))),h11,h12,h26,h30,(Eq.trans h812 (by first|rfl|(rw [← aS,List.map_replicate]; done)|(rw [← aS,List.map_replicate]; rfl)|(rw [← aY (f:=fun _=>(-1:Int)) (z:=0) (n:=m.nx.length) (j:=k) (by omega)]; first|done|rfl)|(rw [aB,g2]; first|done|rfl)|(rw [aB,eo]; first|done|rfl)|(rw [aB,e9,eo]; first|done|rfl)|(rw [aB,g2,List.map_append]; first|done|rfl)|(rw [aB,← eo,List.map_append]; first|done|rfl)|(rw [aB,ej,List.map_append]; first|done|rfl)|(rw [aB,ek,List.map_append]; first|done|rfl)|(simp; done))),(Eq.trans (@rfl Blk (bz (w+1) 25 1 (List.map cL (tbl (rOt m) i++[tbl (lF m i) j])))) (by first|rfl|(rw [← aS,List.map_replicate]; done)|(rw [← aS,List.map_replicate]; rfl)|(rw [← aY (f:=fun _=>(-1:Int)) (z:=0) (n:=m.nx.length) (j:=k) (by omega)]; first|done|rfl)|(rw [aB,g2]; first|done|rfl)|(rw [aB,eo]; first|done|rfl)|(rw [aB,e9,eo]; first|done|rfl)|(rw [aB,g2,List.map_append]; first|done|rfl)|(rw [aB,← eo,List.map_append]; first|done|rfl)|(rw [aB,ej,List.map_append]; first|done|rfl)|(rw [aB,ek,List.map_append]; first|done|rfl)|(simp; done))),?_⟩
  · omega
  · exact f1
 have e8:=hO.end hm (by omega)
 refine aW (p37 _ _ _ (x6 _ _ (.done (W_r (aX t9 h9 rfl rfl (bC (vs:=[(iV (m.i)),(iV (0:Int)),(V.ms 812 v 0 (i)),(V.ms 813 w 0 (i))]) (B':=(bk 1 24 4 [[(iV (m.i)),(iV (0:Int)),(V.ms 812 v 0 (i)),(V.ms 813 w 0 (i))]])) t2 rfl rfl h2 (sB oB rfl rfl rfl rfl rfl) (aC rfl ?_)))))))
 refine R_e (bS ?_)
 refine fF (eC (u:=(V.agg [(iV (m.i)),(iV (0:Int)),(V.ms 812 v 0 (i)),(V.ms 813 w 0 (i))])) t2 (@rfl Blk (bk 1 24 4 [[(iV (m.i)),(iV (0:Int)),(V.ms 812 v 0 (i)),(V.ms 813 w 0 (i))]])) (lB oB rfl rfl)) (fD (@rfl V (iV (0:Int)))) (dQ (bA (aV ?_) (bA (aV ?_) (bA (kQ h812 (by first|rfl|simp) (l:=(tbl (rNx m) i)) rfl (by first|rfl|exact (aL _ _).symm|simp|omega) (fun _=>by simp) ?_) (bA (kQ h813 (by first|rfl|simp) (l:=(tbl (rOt m) i)) rfl (by first|rfl|exact (aL _ _).symm|simp|omega) (fun _=>by simp) ?_) rfl))))) (aV ?_)
 · rw [mnR,if_pos hm,tE hm]; try first|rfl|(rw [← e8]; done)|(rw [← e8]; rfl)
 · rw [mnR,if_pos hm,tE hm]; try first|rfl|(rw [← e8]; done)|(rw [← e8]; rfl)
 · rw [mnR,if_pos hm,tE hm]; try first|rfl|(rw [← e8]; done)|(rw [← e8]; rfl)
 · rw [mnR,if_pos hm,tE hm]; try first|rfl|(rw [← e8]; done)|(rw [← e8]; rfl)
 · exact hm.symm
end Go.Proofs.YtmnnhjhkaepbaaaGreat
namespace Go.Proofs.YtmnnhjhkaepbaaaGreat
open Go Go.Proofs
theorem aBT (m:M):bE Tryz.prog 13 [(V.agg [(iV (m.i)),(iV (m.s)),(aA m.nx),(aA m.ot)])] (V.tup [(V.agg [(iV ((lwR m).i)),(iV ((lwR m).s)),(aA ((lwR m).nx)),(aA ((lwR m).ot))]),(iV (aZ m))]):=by
 refine pW Tryz.func13 aNh fun hB=>?_
 unfold s13
 dsimp only
 refine W_r (eR (i:=1) (n:=0) (m:=4) (cs:=[(iV (m.i)),(iV (m.s)),(aA m.nx),(aA m.ot)]) rfl (congrArg Blk.ver rfl) rfl rfl rfl (dB (i:=2) (n:=0) (m:=4) rfl (congrArg Blk.ver rfl) rfl (aC rfl (R_e (aE (W_r (aX rfl rfl rfl rfl ?_)))))))
 refine bH (mH m) rfl (aC rfl (R_e (aE (W_r (aC rfl (eV rfl rfl (R_e ?_)))))))
 refine aP rfl (fun c1=>?_) fun c1=>?_
 ·
  have d0:=c1
  refine aE (W_r (dO rfl rfl (aC rfl (bC (vs:=[(iV (0:Int)),(iV (0:Int)),V.nilsl,V.nilsl]) (B':=(bk 1 24 4 [[(iV (0:Int)),(iV (0:Int)),V.nilsl,V.nilsl]])) rfl rfl rfl rfl (sB oB rfl rfl rfl rfl rfl) (aC rfl (R_e (bF ?_)))))))
  refine fF (eC (u:=(V.agg [(iV (0:Int)),(iV (0:Int)),V.nilsl,V.nilsl])) rfl (@rfl Blk (bk 1 24 4 [[(iV (0:Int)),(iV (0:Int)),V.nilsl,V.nilsl]])) (lB oB rfl rfl)) (fD (@rfl V (iV (aZ m)))) (dQ (bA (aV ?_) (bA (aV ?_) (bA (dA ?_) (bA (dA ?_) rfl))))) (eD (by simp) rfl)
  · rw [lwR,if_neg d0]; try rfl
  · rw [lwR,if_neg d0]; try rfl
  · rw [lwR,if_neg d0]; try rfl
  · rw [lwR,if_neg d0]; try rfl
 have hm:aZ m=0:=by omega
 have mo:=cJ hm
 refine aJ (W_r (bD rfl rfl (aX rfl rfl rfl rfl (bD rfl rfl (aX rfl rfl rfl rfl (bD rfl rfl (aX rfl rfl rfl rfl ?_)))))))
 refine dO rfl rfl (dB (i:=5) (n:=0) (m:=4) rfl (congrArg Blk.ver rfl) rfl (bC (vs:=[(iV (m.i)),(iV (m.s)),(aA m.nx),V.nilsl]) (B':=(bk 1 24 4 [[(iV (m.i)),(iV (m.s)),(aA m.nx),V.nilsl]])) rfl rfl rfl rfl (sB oB rfl rfl rfl rfl rfl) (R_e (aE ?_))))
 refine gR (fun T H=>T 1=(V.mp 1 1 0 0)∧T 2=(V.mp 2 1 0 0)∧T 5=(V.mp 5 1 0 0)∧T 6=(iV (0:Int))∧H 1=(bk 1 24 4 [[(iV (m.i)),(iV (m.s)),(aA m.nx),(aA m.ot)]])∧H 2=(bk 1 24 4 [[(iV (0:Int)),(iV (0:Int)),V.nilsl,V.nilsl]])∧H 5=(bk 1 24 4 [[(iV (m.i)),(iV (m.s)),(aA m.nx),V.nilsl]])∧H 7=(⟨0,false,false,0,0,[]⟩:Blk)∧H 813=(⟨0,false,false,0,0,[]⟩:Blk)∧True) ?_ ?_
 ·
  refine aC rfl ?_
  exact fM ⟨rfl,rfl,rfl,rfl,rfl,rfl,rfl,rfl,rfl,trivial⟩
 intro T H ⟨t1,t2,t5,t6,h1,h2,h5,h7,h813,_⟩
 refine .lazyCell 813 25 1 5 0 3 [(iV (m.i)),(iV (m.s)),(aA m.nx),V.nilsl] (by decide) (by rw [h5]; rfl) (by rw [h5]; rfl) rfl (.done ?_)
 refine bQ (R:=fun T H=>T 1=(V.mp 1 1 0 0)∧T 2=(V.mp 2 1 0 0)∧T 5=(V.mp 5 1 0 0)∧T 6=(iV (0:Int))∧H 1=(bk 1 24 4 [[(iV (m.i)),(iV (m.s)),(aA m.nx),(aA m.ot)]])∧H 2=(bk 1 24 4 [[(iV (0:Int)),(iV (0:Int)),V.nilsl,V.nilsl]])∧H 5=(bk 1 24 4 [[(iV (m.i)),(iV (m.s)),(aA m.nx),(V.ms 813 1 0 (0))]])∧H 7=(⟨0,false,false,0,0,[]⟩:Blk)∧H 813=(bz 1 25 1 [])∧True) ⟨t1,t2,t5,t6,((aD _ _ (by decide)).trans ((aD _ _ (by decide)).trans h1)),((aD _ _ (by decide)).trans ((aD _ _ (by decide)).trans h2)),(by rw [aG,h5,(congrArg Blk.ver h813)]; rfl),((aD _ _ (by decide)).trans ((aD _ _ (by decide)).trans h7)),(by rw [aD _ _ (by decide),aG,(congrArg Blk.ver h813)]),trivial⟩ ?_
 intro T H ⟨t1,t2,t5,t6,h1,h2,h5,h7,h813,_⟩
 refine aH fun Q2 n2 x2 y2 z2=>?_
 refine bW (fun mm T H=> ∃ (k:Nat) (w:Nat) (v7:Nat),mm=m.nx.length - k∧T 1=(V.mp 1 1 0 0)∧T 2=(V.mp 2 1 0 0)∧T 5=(V.mp 5 1 0 0)∧T 6=(iV ((k:Nat):Int))∧H 1=(bk 1 24 4 [[(iV (m.i)),(iV (m.s)),(aA m.nx),(aA m.ot)]])∧H 2=(bk 1 24 4 [[(iV (0:Int)),(iV (0:Int)),V.nilsl,V.nilsl]])∧H 5=(bk 1 24 4 [[(iV (m.i)),(iV (m.s)),(aA m.nx),(V.ms 813 w 0 (k))]])∧((H 7).ver=v7∧(H 7).live=false)∧H 813=(bz w 25 1 (List.map cL (tbl (dU m) k)))∧(k≤m.nx.length)) ?_ ?_
 ·
  refine ⟨_,0,1,0,rfl,t1,t2,t5,(Eq.trans t6 rfl),h1,h2,h5,⟨(congrArg Blk.ver h7),congrArg Blk.live h7⟩,(Eq.trans h813 (by first|rfl|(rw [aB]; first|done|rfl)|(rw [aB,List.map_append]; first|done|rfl)|(rw [aB,ej]; first|done|rfl)|(rw [aB,eo]; first|done|rfl)|(rw [aB,List.map_append,ej]; first|done|rfl)|(rw [aB,List.map_append,eo]; first|done|rfl)|(simp; done))),?_⟩
  · exact Nat.zero_le _
 intro mm T H ⟨k,w,v7,hmm,t1,t2,t5,t6,h1,h2,h5,h7,h813,hk⟩ Q3 p13 p23 p33
 unfold aKe
 refine aE (W_r (aC t6 (bD t1 h1 (aX rfl h1 rfl rfl (bR rfl (bU rfl rfl (R_e ?_)))))))
 refine aP rfl (fun c4=>?_) fun c4=>?_
 ·
  have rr:=mo.2.2.2.2.2.2.2 k (by omega)
  refine aJ (aH fun Q5 n5 x5 y5 z5=>(W_r (eS (i:=7) (n:=v7) rfl (h7).1 (R_e (aE (W_r (aC rfl ?_)))))))
  refine R_e (aH fun Q6 n6 x6 y6 z6=>?_)
  refine bW (fun mm T H=> ∃ (j:Nat) (v2:Nat),mm=m.i.toNat - j∧T 1=(V.mp 1 1 0 0)∧T 2=(V.mp 2 1 0 0)∧T 5=(V.mp 5 1 0 0)∧T 6=(iV ((k:Nat):Int))∧T 7=(V.ms 7 v2 0 (j))∧T 8=(iV ((j:Nat):Int))∧H 1=(bk 1 24 4 [[(iV (m.i)),(iV (m.s)),(aA m.nx),(aA m.ot)]])∧H 2=(bk 1 24 4 [[(iV (0:Int)),(iV (0:Int)),V.nilsl,V.nilsl]])∧H 5=(bk 1 24 4 [[(iV (m.i)),(iV (m.s)),(aA m.nx),(V.ms 813 w 0 (k))]])∧H 7=(bz v2 3 1 (List.map cI (tbl (LwA m k) j)))∧H 813=(bz w 25 1 (List.map cL (tbl (dU m) k)))∧(j≤m.i.toNat)) ?_ ?_
  ·
   refine ⟨_,0,(v7+1),rfl,t1,t2,t5,t6,(Eq.trans (@rfl V (V.ms 7 (v7+1) 0 (0))) (by first|rfl|simp)),(Eq.trans (@rfl V (iV (0:Int))) rfl),h1,h2,h5,(Eq.trans (@rfl Blk (bz (v7+1) 3 1 [])) (by first|rfl|(rw [aB]; first|done|rfl)|(rw [aB,List.map_append]; first|done|rfl)|(rw [aB,ej]; first|done|rfl)|(rw [aB,eo]; first|done|rfl)|(rw [aB,List.map_append,ej]; first|done|rfl)|(rw [aB,List.map_append,eo]; first|done|rfl)|(simp; done))),h813,?_⟩
   · exact Nat.zero_le _
  intro mm T H ⟨j,v2,hmm,t1,t2,t5,t6,t7,t8,h1,h2,h5,h7,h813,hj⟩ Q7 p17 p27 p37
  unfold aKK
  refine aE (W_r (aC t8 (bD t1 h1 (aX rfl h1 rfl rfl (bU rfl rfl (R_e ?_))))))
  refine aP rfl (fun c8=>?_) fun c8=>?_
  ·
   have rj:=rr.2.2 j (by omega)
   refine aJ (aH fun Q9 n9 x9 y9 z9=>(W_t (aC t7 (bD t1 h1 (aX rfl h1 rfl rfl (aC t6 (bO (i:=k) (@rfl V (aA m.ot)) (@rfl V (iV ((k:Nat):Int))) (by omega) rfl ?_)))))))
   refine aK rfl rfl (aC t8 (bO (i:=j) (@rfl V (aM ((nth (m.ot) (k))))) (@rfl V (iV ((j:Nat):Int))) (by omega) rfl (aK rfl rfl (aGE (x:=((nth ((nth (m.ot) (k))) (j)))) (y:=(256:Int)) rfl rfl (by omega) (by omega) (bZ rfl rfl (cA (l:=(tbl (LwA m k) j)) (f:=cI) (x:=(((((nth ((nth (m.ot) (k))) (j)))) / ((256:Int))))) (@rfl V (V.ms 7 v2 0 (j))) h7 (by first|rfl|exact (aL _ _).symm|simp|omega) (@rfl V (V.sl [[(iV ((((nth ((nth (m.ot) (k))) (j)))) / ((256:Int))))]])) rfl rfl (by omega) (by omega) (aC rfl ?_)))))))
   refine R_e (n9 _ _ (.done (W_t (aC t8 (bJ rfl (@rfl V (iV ((1:Nat):Int))) (by omega) (aC rfl (R_e ?_)))))))
   refine p17 _ _ _ ?_ ⟨(j+1),(v2+1),rfl,t1,t2,t5,t6,(Eq.trans (@rfl V (V.ms 7 (v2+1) 0 (j+1))) (by first|rfl|simp)),(Eq.trans (@rfl V (iV ((j+1:Nat):Int))) (by first|rfl|simp)),h1,h2,h5,(Eq.trans (@rfl Blk (bz (v2+1) 3 1 (List.map cI (tbl (LwA m k) j++[((((nth ((nth (m.ot) (k))) (j)))) / ((256:Int)))])))) (by first|rfl|(rw [aB]; first|done|rfl)|(rw [aB,List.map_append]; first|done|rfl)|(rw [aB,ej]; first|done|rfl)|(rw [aB,eo]; first|done|rfl)|(rw [aB,List.map_append,ej]; first|done|rfl)|(rw [aB,List.map_append,eo]; first|done|rfl)|(simp; done))),h813,?_⟩
   · omega
   · omega
  have eo:dU m k=tbl (LwA m k) j:=by unfold dU; rw [show m.i.toNat=j by omega]
  refine aW (p37 _ _ _ (x6 _ _ (bQ (R:=fun T H=>T 1=(V.mp 1 1 0 0)∧T 2=(V.mp 2 1 0 0)∧T 5=(V.mp 5 1 0 0)∧T 6=(iV ((k:Nat):Int))∧T 7=(V.ms 7 v2 0 (j))∧T 8=(iV ((j:Nat):Int))∧T 32=(V.bool (decide (((j:Nat):Int) < (m.i))))∧H 1=(bk 1 24 4 [[(iV (m.i)),(iV (m.s)),(aA m.nx),(aA m.ot)]])∧H 2=(bk 1 24 4 [[(iV (0:Int)),(iV (0:Int)),V.nilsl,V.nilsl]])∧H 5=(bk 1 24 4 [[(iV (m.i)),(iV (m.s)),(aA m.nx),(V.ms 813 w 0 (k))]])∧H 7=(bz v2 3 1 (List.map cI (tbl (LwA m k) j)))∧H 813=(bz w 25 1 (List.map cL (tbl (dU m) k)))∧True) ⟨t1,t2,t5,t6,t7,t8,(@rfl V (V.bool (decide (((j:Nat):Int) < (m.i))))),h1,h2,h5,h7,h813,trivial⟩ ?_)))
  intro T H ⟨t1,t2,t5,t6,t7,t8,t32,h1,h2,h5,h7,h813,_⟩
  refine .freeze 7 (.done ?_)
  refine bQ (R:=fun T H=>T 1=(V.mp 1 1 0 0)∧T 2=(V.mp 2 1 0 0)∧T 5=(V.mp 5 1 0 0)∧T 6=(iV ((k:Nat):Int))∧T 7=(aM (tbl (LwA m k) j))∧T 8=(iV ((j:Nat):Int))∧T 32=(V.bool (decide (((j:Nat):Int) < (m.i))))∧H 1=(bk 1 24 4 [[(iV (m.i)),(iV (m.s)),(aA m.nx),(aA m.ot)]])∧H 2=(bk 1 24 4 [[(iV (0:Int)),(iV (0:Int)),V.nilsl,V.nilsl]])∧H 5=(bk 1 24 4 [[(iV (m.i)),(iV (m.s)),(aA m.nx),(V.ms 813 w 0 (k))]])∧((H 7).ver=v2∧(H 7).live=false)∧H 813=(bz w 25 1 (List.map cL (tbl (dU m) k)))∧True) ⟨(aO t1 rfl),(aO t2 rfl),(aO t5 rfl),(aO t6 rfl),(aO t7 (gE h7 (by first|rfl|simp) (l:=(tbl (LwA m k) j)) rfl (by first|rfl|exact (aL _ _).symm|simp|omega))),(aO t8 rfl),(aO t32 rfl),(aN h1 (by decide)),(aN h2 (by decide)),(aN h5 (by decide)),(bL (congrArg Blk.ver h7)),(aN h813 (by decide)),trivial⟩ ?_
  intro T H ⟨t1,t2,t5,t6,t7,t8,t32,h1,h2,h5,h7,h813,_⟩
  refine W_t (bD t5 h5 (aX rfl h5 rfl rfl (aC t7 (bZ rfl rfl (cA (l:=(tbl (dU m) k)) (f:=cL) (x:=(tbl (LwA m k) j)) (@rfl V (V.ms 813 w 0 (k))) h813 (by first|rfl|exact (aL _ _).symm|simp|omega) (@rfl V (V.sl [[(aM (tbl (LwA m k) j))]])) rfl rfl (by omega) (by omega) (bD t5 h5 (bC (vs:=[(V.ms 813 (w+1) 0 (k+1))]) (B':=(bk 1 24 4 [[(iV (m.i)),(iV (m.s)),(aA m.nx),(V.ms 813 (w+1) 0 (k+1))]])) rfl rfl rfl h5 (sB oB rfl rfl rfl rfl rfl) ?_)))))))
  refine R_e (n5 _ _ (.done (W_t (aC t6 (bJ rfl (@rfl V (iV ((1:Nat):Int))) (by omega) (aC rfl (R_e ?_)))))))
  refine p13 _ _ _ ?_ ⟨(k+1),(w+1),v2,rfl,t1,t2,t5,(Eq.trans (@rfl V (iV ((k+1:Nat):Int))) (by first|rfl|simp)),h1,h2,(Eq.trans (@rfl Blk (bk 1 24 4 [[(iV (m.i)),(iV (m.s)),(aA m.nx),(V.ms 813 (w+1) 0 (k+1))]])) (by first|rfl|(rw [aB]; first|done|rfl)|(rw [aB,List.map_append]; first|done|rfl)|(rw [aB,ej]; first|done|rfl)|(rw [aB,eo]; first|done|rfl)|(rw [aB,List.map_append,ej]; first|done|rfl)|(rw [aB,List.map_append,eo]; first|done|rfl)|(simp; done))),h7,(Eq.trans (@rfl Blk (bz (w+1) 25 1 (List.map cL (tbl (dU m) k++[tbl (LwA m k) j])))) (by first|rfl|(rw [aB]; first|done|rfl)|(rw [aB,List.map_append]; first|done|rfl)|(rw [aB,ej]; first|done|rfl)|(rw [aB,eo]; first|done|rfl)|(rw [aB,List.map_append,ej]; first|done|rfl)|(rw [aB,List.map_append,eo]; first|done|rfl)|(simp; done))),?_⟩
  · omega
  · omega
 have ek:k=m.nx.length:=by omega
 refine aW (p33 _ _ _ (x2 _ _ (bQ (R:=fun T H=>T 1=(V.mp 1 1 0 0)∧T 2=(V.mp 2 1 0 0)∧T 5=(V.mp 5 1 0 0)∧T 6=(iV ((k:Nat):Int))∧T 26=(V.bool (decide (((k:Nat):Int) < ((m.ot.length:Nat):Int))))∧H 1=(bk 1 24 4 [[(iV (m.i)),(iV (m.s)),(aA m.nx),(aA m.ot)]])∧H 2=(bk 1 24 4 [[(iV (0:Int)),(iV (0:Int)),V.nilsl,V.nilsl]])∧H 5=(bk 1 24 4 [[(iV (m.i)),(iV (m.s)),(aA m.nx),(V.ms 813 w 0 (k))]])∧((H 7).ver=v7∧(H 7).live=false)∧H 813=(bz w 25 1 (List.map cL (tbl (dU m) k)))∧True) ⟨t1,t2,t5,t6,(@rfl V (V.bool (decide (((k:Nat):Int) < ((m.ot.length:Nat):Int))))),h1,h2,h5,h7,h813,trivial⟩ ?_)))
 intro T H ⟨t1,t2,t5,t6,t26,h1,h2,h5,h7,h813,_⟩
 refine kM (id:=813) (id2:=5) (rows:=[[(iV (m.i)),(iV (m.s)),(aA m.nx),(V.ms 813 w 0 (k))]]) (i:=0) (off:=3) (r:=[(iV (m.i)),(iV (m.s)),(aA m.nx),(V.ms 813 w 0 (k))]) (m:=(tbl (dU m) k)) (g:=cL) (by decide) h813 h5 (by first|omega|(simp; omega)|(simp; done)) (by first|rfl|exact (aL _ _).symm|simp|omega) rfl (.done ?_)
 refine bQ (R:=fun T H=>T 1=(V.mp 1 1 0 0)∧T 2=(V.mp 2 1 0 0)∧T 5=(V.mp 5 1 0 0)∧T 6=(iV ((k:Nat):Int))∧T 26=(V.bool (decide (((k:Nat):Int) < ((m.ot.length:Nat):Int))))∧H 1=(bk 1 24 4 [[(iV (m.i)),(iV (m.s)),(aA m.nx),(aA m.ot)]])∧H 2=(bk 1 24 4 [[(iV (0:Int)),(iV (0:Int)),V.nilsl,V.nilsl]])∧H 5=(bk 1 24 4 [[(iV (m.i)),(iV (m.s)),(aA m.nx),(aA (tbl (dU m) k))]])∧((H 7).ver=v7∧(H 7).live=false)∧((H 813).ver=w∧(H 813).live=false)∧True) ⟨(aO t1 rfl),(aO t2 rfl),(aO t5 rfl),(aO t6 rfl),(aO t26 rfl),((aD _ _ (by decide)).trans (aN h1 (by decide))),((aD _ _ (by decide)).trans (aN h2 (by decide))),(aG _ _ _),⟨(congrArg Blk.ver (aD _ _ (by decide))).trans (bK h7).1,(congrArg Blk.live (aD _ _ (by decide))).trans (bK h7).2⟩,⟨(congrArg Blk.ver (aD _ _ (by decide))).trans (bL (congrArg Blk.ver h813)).1,(congrArg Blk.live (aD _ _ (by decide))).trans (bL (congrArg Blk.ver h813)).2⟩,trivial⟩ ?_
 intro T H ⟨t1,t2,t5,t6,t26,h1,h2,h5,h7,h813,_⟩
 refine W_r (aX t5 h5 rfl rfl (bH (aET (⟨((m.i)),((m.s)),m.nx,(tbl (dU m) k)⟩:M)) rfl (eK rfl rfl (eK rfl rfl (bC (vs:=[(iV ((mnR (⟨((m.i)),((m.s)),m.nx,(tbl (dU m) k)⟩:M)).i)),(iV ((mnR (⟨((m.i)),((m.s)),m.nx,(tbl (dU m) k)⟩:M)).s)),(aA ((mnR (⟨((m.i)),((m.s)),m.nx,(tbl (dU m) k)⟩:M)).nx)),(aA ((mnR (⟨((m.i)),((m.s)),m.nx,(tbl (dU m) k)⟩:M)).ot))]) (B':=(bk 1 24 4 [[(iV ((mnR (⟨((m.i)),((m.s)),m.nx,(tbl (dU m) k)⟩:M)).i)),(iV ((mnR (⟨((m.i)),((m.s)),m.nx,(tbl (dU m) k)⟩:M)).s)),(aA ((mnR (⟨((m.i)),((m.s)),m.nx,(tbl (dU m) k)⟩:M)).nx)),(aA ((mnR (⟨((m.i)),((m.s)),m.nx,(tbl (dU m) k)⟩:M)).ot))]])) t2 rfl rfl h2 (sB oB rfl rfl rfl rfl rfl) (aC rfl (R_e ?_)))))))
 refine bS ?_
 refine fF (eC (u:=(V.agg [(iV ((mnR (⟨((m.i)),((m.s)),m.nx,(tbl (dU m) k)⟩:M)).i)),(iV ((mnR (⟨((m.i)),((m.s)),m.nx,(tbl (dU m) k)⟩:M)).s)),(aA ((mnR (⟨((m.i)),((m.s)),m.nx,(tbl (dU m) k)⟩:M)).nx)),(aA ((mnR (⟨((m.i)),((m.s)),m.nx,(tbl (dU m) k)⟩:M)).ot))])) t2 (@rfl Blk (bk 1 24 4 [[(iV ((mnR (⟨((m.i)),((m.s)),m.nx,(tbl (dU m) k)⟩:M)).i)),(iV ((mnR (⟨((m.i)),((m.s)),m.nx,(tbl (dU m) k)⟩:M)).s)),(aA ((mnR (⟨((m.i)),((m.s)),m.nx,(tbl (dU m) k)⟩:M)).nx)),(aA ((mnR (⟨((m.i)),((m.s)),m.nx,(tbl (dU m) k)⟩:M)).ot))]])) (lB oB rfl rfl)) (fD (@rfl V (iV (aZ (⟨((m.i)),((m.s)),m.nx,(tbl (dU m) k)⟩:M))))) (dQ (bA (aV ?_) (bA (aV ?_) (bA (lQ ?_ (fun _=>by simp)) (bA (lQ ?_ (fun _=>by simp)) rfl))))) (aV ?_)
 · rw [lwR,if_pos hm]; try first|rfl|(rw [lwM,ek])
 · rw [lwR,if_pos hm]; try first|rfl|(rw [lwM,ek])
 · rw [lwR,if_pos hm]; try first|rfl|(rw [lwM,ek])
 · rw [lwR,if_pos hm]; try first|rfl|(rw [lwM,ek])
 · rw [show (⟨m.i,m.s,m.nx,tbl (dU m) k⟩:M)=lwM m by rw [ek]; rfl,aGu hm,hm]
theorem aD8 (a b:List Int):bE Tryz.prog 22 [(aM a),(aM b)] (V.bool (decide (a=b))):=by
 refine pW Tryz.func22 aGt fun hB=>?_
 unfold s22
 dsimp only
 refine W_r (aC rfl (R_e (aE (W_r (aC rfl (bR rfl (aC rfl ?_)))))))
 refine bR rfl (eV rfl rfl (R_e ?_))
 refine aP rfl (fun c1=>?_) fun c1=>?_
 ·
  refine aE (W_r (aC rfl (R_e (bF ?_))))
  refine cC (@rfl V (V.bool false)) (gA ?_)
  · exact (decide_eq_false (fun e=>by subst e; omega)).symm
 refine aJ (aE (W_r (aC rfl (R_e (aH fun Q2 n2 x2 y2 z2=>?_)))))
 refine bW (fun mm T H=> ∃ (k:Nat),mm=a.length - k∧T 0=(aM a)∧T 1=(aM b)∧T 5=(iV ((k:Nat):Int))∧(k≤a.length)∧(a.length=b.length)∧(∀ j,j < k→nth a j=nth b j)) ?_ ?_
 ·
  refine ⟨_,0,rfl,rfl,rfl,(Eq.trans (@rfl V (iV (0:Int))) rfl),?_,?_,?_⟩
  · omega
  · omega
  · intro j hj; omega
 intro mm T H ⟨k,hmm,t0,t1,t5,hk,hl,hc⟩ Q3 p13 p23 p33
 unfold aJ4
 refine aE (W_r (aC t5 (aC t0 (bR rfl (bU rfl rfl (R_e ?_))))))
 refine aP rfl (fun c4=>?_) fun c4=>?_
 ·
  refine aJ (aH fun Q5 n5 x5 y5 z5=>(W_r (aC t0 (aC t5 (bO (i:=k) (@rfl V (aM a)) (@rfl V (iV ((k:Nat):Int))) (by omega) rfl (aK rfl rfl (aC t1 ?_)))))))
  refine aC t5 (bO (i:=k) (@rfl V (aM b)) (@rfl V (iV ((k:Nat):Int))) (by omega) rfl (aK rfl rfl (eV rfl rfl (R_e ?_))))
  refine lD rfl (fun c6=>?_) fun c6=>?_
  ·
   refine W_r (aC rfl (R_e (bS (y5 _ _ (p23 _ _ (y2 _ _ ?_))))))
   refine cC (@rfl V (V.bool false)) (gA ?_)
   · exact (decide_eq_false (fun e=>by subst e; omega)).symm
  refine fQ (n5 _ _ (.done (W_t (aC t5 (bJ rfl (@rfl V (iV ((1:Nat):Int))) (by omega) (aC rfl (R_e ?_)))))))
  refine p13 _ _ _ ?_ ⟨(k+1),rfl,t0,t1,(Eq.trans (@rfl V (iV ((k+1:Nat):Int))) (by first|rfl|simp)),?_,?_,?_⟩
  · omega
  · omega
  · omega
  · intro j hj
    by_cases e:j=k
    · subst e; omega
    · exact hc j (by omega)
 refine aW (p33 _ _ _ (x2 _ _ (.done (W_r (aC rfl (R_e (bS ?_)))))))
 refine cC (@rfl V (V.bool true)) (gA ?_)
 · exact (decide_eq_true (eM hl fun j hj=>hc j (by omega))).symm
theorem uC (a b:List (List Int)):bE Tryz.prog 28 [(aA a),(aA b)] (V.bool (decide (a=b))):=by
 refine pW Tryz.func28 aGs fun hB=>?_
 unfold s28
 dsimp only
 refine W_r (aC rfl (R_e (aE (W_r (aC rfl (bR rfl (aC rfl ?_)))))))
 refine bR rfl (eV rfl rfl (R_e ?_))
 refine aP rfl (fun c1=>?_) fun c1=>?_
 ·
  refine aE (W_r (aC rfl (R_e (bF ?_))))
  refine cC (@rfl V (V.bool false)) (gA ?_)
  · exact (decide_eq_false (fun e=>by subst e; omega)).symm
 refine aJ (aE (W_r (aC rfl (R_e (aH fun Q2 n2 x2 y2 z2=>?_)))))
 refine bW (fun mm T H=> ∃ (k:Nat),mm=a.length - k∧T 0=(aA a)∧T 1=(aA b)∧T 5=(iV ((k:Nat):Int))∧(k≤a.length)∧(a.length=b.length)∧(∀ j,j < k→nth a j=nth b j)) ?_ ?_
 ·
  refine ⟨_,0,rfl,rfl,rfl,(Eq.trans (@rfl V (iV (0:Int))) rfl),?_,?_,?_⟩
  · omega
  · omega
  · intro j hj; omega
 intro mm T H ⟨k,hmm,t0,t1,t5,hk,hl,hc⟩ Q3 p13 p23 p33
 unfold aKd
 refine aE (W_r (aC t5 (aC t0 (bR rfl (bU rfl rfl (R_e ?_))))))
 refine aP rfl (fun c4=>?_) fun c4=>?_
 ·
  refine aJ (aH fun Q5 n5 x5 y5 z5=>(W_r (aC t0 (aC t5 (bO (i:=k) (@rfl V (aA a)) (@rfl V (iV ((k:Nat):Int))) (by omega) rfl (aK rfl rfl (aC t1 ?_)))))))
  refine aC t5 (bO (i:=k) (@rfl V (aA b)) (@rfl V (iV ((k:Nat):Int))) (by omega) rfl (aK rfl rfl (bH (aD8 ((nth (a) (k))) ((nth (b) (k)))) rfl (aDW rfl (R_e ?_)))))
  refine lD rfl (fun c6=>?_) fun c6=>?_
  ·
   have d1:=c6
   refine W_r (aC rfl (R_e (bS (y5 _ _ (p23 _ _ (y2 _ _ ?_))))))
   refine cC (@rfl V (V.bool false)) (gA ?_)
   · exact (decide_eq_false (fun e=>d1 (by subst e; rfl))).symm
  have d1:=Decidable.not_not.1 c6
  refine fQ (n5 _ _ (.done (W_t (aC t5 (bJ rfl (@rfl V (iV ((1:Nat):Int))) (by omega) (aC rfl (R_e ?_)))))))
  refine p13 _ _ _ ?_ ⟨(k+1),rfl,t0,t1,(Eq.trans (@rfl V (iV ((k+1:Nat):Int))) (by first|rfl|simp)),?_,?_,?_⟩
  · omega
  · omega
  · omega
  · intro j hj
    by_cases e:j=k
    · subst e; exact d1
    · exact hc j (by omega)
 refine aW (p33 _ _ _ (x2 _ _ (.done (W_r (aC rfl (R_e (bS ?_)))))))
 refine cC (@rfl V (V.bool true)) (gA ?_)
 · exact (decide_eq_true (eM hl fun j hj=>hc j (by omega))).symm
theorem vJ (a b:M):bE Tryz.prog 14 [(V.agg [(iV (a.i)),(iV (a.s)),(aA a.nx),(aA a.ot)]),(V.agg [(iV (b.i)),(iV (b.s)),(aA b.nx),(aA b.ot)])] (V.bool (decide (a=b))):=by
 refine pW Tryz.func14 aGc fun hB=>?_
 unfold s14
 dsimp only
 refine W_r (eR (i:=2) (n:=0) (m:=4) (cs:=[(iV (a.i)),(iV (a.s)),(aA a.nx),(aA a.ot)]) rfl (congrArg Blk.ver rfl) rfl rfl rfl (eR (i:=3) (n:=0) (m:=4) (cs:=[(iV (b.i)),(iV (b.s)),(aA b.nx),(aA b.ot)]) rfl (congrArg Blk.ver rfl) rfl rfl rfl (aC rfl (R_e (W_r (bD rfl rfl (aX rfl rfl rfl rfl ?_)))))))
 refine bD rfl rfl (aX rfl rfl rfl rfl (jY rfl rfl (aC rfl ?_)))
 refine cF 6 (fun T H=>T 2=(V.mp 2 1 0 0)∧T 3=(V.mp 3 1 0 0)∧T 16=(V.bool (decide (((a.i)=(b.i))∧((a.s)=(b.s)))))∧H 2=(bk 1 24 4 [[(iV (a.i)),(iV (a.s)),(aA a.nx),(aA a.ot)]])∧H 3=(bk 1 24 4 [[(iV (b.i)),(iV (b.s)),(aA b.nx),(aA b.ot)]])∧True) ?_ ?_
 ·
  by_cases g1:(a.i)=(b.i)
  ·
   refine aQ (edT g1 rfl) (bD rfl rfl (aQ (edT g1 rfl) (aX rfl rfl rfl rfl (aQ (edT g1 rfl) (bD rfl rfl (aQ (edT g1 rfl) (aX rfl rfl rfl rfl ?_)))))))
   refine aQ (edT g1 rfl) (jY rfl rfl (cK (edT g1 rfl) rfl ?_))
   exact ⟨rfl,rfl,(iN g1),rfl,rfl,trivial⟩
  ·
   refine G_n (edF g1 rfl) (G_n (edF g1 rfl) (G_n (edF g1 rfl) (G_n (edF g1 rfl) (G_n (edF g1 rfl) (cG (edF g1 rfl) rfl ?_)))))
   exact ⟨rfl,rfl,(iI g1),rfl,rfl,trivial⟩
 intro T H ⟨t2,t3,t16,h2,h3,_⟩
 refine aC t16 ?_
 refine cF 6 (fun T H=>T 2=(V.mp 2 1 0 0)∧T 3=(V.mp 3 1 0 0)∧T 23=(V.bool (decide ((((a.i)=(b.i))∧((a.s)=(b.s)))∧(a.nx=b.nx))))∧H 2=(bk 1 24 4 [[(iV (a.i)),(iV (a.s)),(aA a.nx),(aA a.ot)]])∧H 3=(bk 1 24 4 [[(iV (b.i)),(iV (b.s)),(aA b.nx),(aA b.ot)]])∧True) ?_ ?_
 ·
  by_cases g2:((a.i)=(b.i))∧((a.s)=(b.s))
  ·
   refine aQ (edT g2 rfl) (bD t2 h2 (aQ (edT g2 rfl) (aX rfl h2 rfl rfl (aQ (edT g2 rfl) (bD t3 h3 (aQ (edT g2 rfl) (aX rfl h3 rfl rfl ?_)))))))
   refine aQ (edT g2 rfl) (bH (uC a.nx b.nx) rfl (cK (edT g2 rfl) rfl ?_))
   exact ⟨t2,t3,(iN g2),h2,h3,trivial⟩
  ·
   refine G_n (edF g2 rfl) (G_n (edF g2 rfl) (G_n (edF g2 rfl) (G_n (edF g2 rfl) (G_n (edF g2 rfl) (cG (edF g2 rfl) rfl ?_)))))
   exact ⟨t2,t3,(iI g2),h2,h3,trivial⟩
 intro T H ⟨t2,t3,t23,h2,h3,_⟩
 refine aC t23 ?_
 refine cF 6 (fun T H=>T 30=(V.bool (decide (((((a.i)=(b.i))∧((a.s)=(b.s)))∧(a.nx=b.nx))∧(a.ot=b.ot))))∧H 2=(bk 1 24 4 [[(iV (a.i)),(iV (a.s)),(aA a.nx),(aA a.ot)]])∧H 3=(bk 1 24 4 [[(iV (b.i)),(iV (b.s)),(aA b.nx),(aA b.ot)]])∧True) ?_ ?_
 ·
  by_cases g3:(((a.i)=(b.i))∧((a.s)=(b.s)))∧(a.nx=b.nx)
  ·
   refine aQ (edT g3 rfl) (bD t2 h2 (aQ (edT g3 rfl) (aX rfl h2 rfl rfl (aQ (edT g3 rfl) (bD t3 h3 (aQ (edT g3 rfl) (aX rfl h3 rfl rfl ?_)))))))
   refine aQ (edT g3 rfl) (bH (uC a.ot b.ot) rfl (cK (edT g3 rfl) rfl ?_))
   exact ⟨(iN g3),h2,h3,trivial⟩
  ·
   refine G_n (edF g3 rfl) (G_n (edF g3 rfl) (G_n (edF g3 rfl) (G_n (edF g3 rfl) (G_n (edF g3 rfl) (cG (edF g3 rfl) rfl ?_)))))
   exact ⟨(iI g3),h2,h3,trivial⟩
 intro T H ⟨t30,h2,h3,_⟩
 refine aC t30 (R_e (bS ?_))
 refine cC (@rfl V (V.bool (decide (((((a.i)=(b.i))∧((a.s)=(b.s)))∧(a.nx=b.nx))∧(a.ot=b.ot))))) (gA ?_)
 · first|rfl|(rw [decide_eq_decide]; rw [M.eq_iff]; simp [and_assoc])|(simp [M.eq_iff,and_assoc])
theorem aEx (m:M) (tg:List Int):bE Tryz.prog 3 [(V.agg [(iV (m.i)),(iV (m.s)),(aA m.nx),(aA m.ot)]),(aM tg)] (V.bool true):=by
 refine pW Tryz.func3 aRh fun hB=>?_
 unfold s3
 dsimp only
 refine W_r (eR (i:=2) (n:=0) (m:=4) (cs:=[(iV (m.i)),(iV (m.s)),(aA m.nx),(aA m.ot)]) rfl (congrArg Blk.ver rfl) rfl rfl rfl (aC rfl (R_e (aE (W_r (aX rfl rfl rfl rfl (bH (zH m) rfl ?_)))))))
 refine aC rfl ?_
 refine cF 4 (fun T H=>T 1=(aM tg)∧T 2=(V.mp 2 1 0 0)∧T 19=(V.bool (((ggr m)||decide ((300:Int) < ((tg.length:Nat):Int)))))∧H 2=(bk 1 24 4 [[(iV (m.i)),(iV (m.s)),(aA m.nx),(aA m.ot)]])∧H 5=(⟨0,false,false,0,0,[]⟩:Blk)∧H 7=(⟨0,false,false,0,0,[]⟩:Blk)∧H 9=(⟨0,false,false,0,0,[]⟩:Blk)∧H 11=(⟨0,false,false,0,0,[]⟩:Blk)∧True) ?_ ?_
 ·
  by_cases g1:(ggr m)=true
  ·
   refine G_n (ebT g1 rfl) (G_n (ebT g1 rfl) (G_n (ebT g1 rfl) (cK (ebT g1 rfl) rfl ?_)))
   exact ⟨rfl,rfl,(aRg g1),rfl,rfl,rfl,rfl,rfl,trivial⟩
  ·
   refine aQ (ebF g1 rfl) (aC rfl (aQ (ebF g1 rfl) (bR rfl (aQ (ebF g1 rfl) (jO rfl rfl (cG (ebF g1 rfl) rfl ?_))))))
   exact ⟨rfl,rfl,(aP9 g1),rfl,rfl,rfl,rfl,rfl,trivial⟩
 intro T H ⟨t1,t2,t19,h2,h5,h7,h9,h11,_⟩
 refine R_e ?_
 refine fA t19 (fun c2=>?_) (fun c2=>?_)
 ·
  refine aE (W_r (bH (fT) rfl (aC rfl (R_e (bF ?_)))))
  refine cC (@rfl V (V.bool true)) (eD (by simp) rfl)
 refine aJ (W_r (aX t2 h2 rfl rfl (aC t1 (bH (aEs m tg) rfl (aC rfl (eK rfl rfl (eK rfl rfl ?_)))))))
 refine dB (i:=5) (n:=0) (m:=4) rfl (congrArg Blk.ver h5) rfl (qV rfl rfl rfl rfl rfl rfl rfl rfl rfl (aC rfl (R_e (W_r (aX t2 h2 rfl rfl (aC t1 (bH (aCw m tg) rfl ?_)))))))
 refine aC rfl (eK rfl rfl (eK rfl rfl (dB (i:=7) (n:=0) (m:=4) rfl (congrArg Blk.ver h7) rfl (qV rfl rfl rfl rfl rfl rfl rfl rfl rfl (aC rfl (R_e (W_r ?_)))))))
 refine aX t2 h2 rfl rfl (bH (aCg m) rfl (aC rfl (eK rfl rfl (eK rfl rfl (dB (i:=9) (n:=0) (m:=4) rfl (congrArg Blk.ver h9) rfl (qV rfl rfl rfl rfl rfl rfl rfl rfl rfl (aC rfl ?_)))))))
 refine R_e ?_
 refine oH (fun T H=>T 5=(V.mp 5 1 0 0)∧T 6=(iV ((cO m tg)))∧T 7=(V.mp 7 1 0 0)∧T 8=(iV ((cO m tg)))∧T 9=(V.mp 9 1 0 0)∧T 10=(iV (aZ m))∧T 11=(V.mp 11 1 0 0)∧T 12=(iV (aZ m))∧H 2=(bk 1 24 4 [[(iV (m.i)),(iV (m.s)),(aA m.nx),(aA m.ot)]])∧H 5=(bk 1 24 4 [[(iV ((lfR m tg).i)),(iV ((lfR m tg).s)),(aA ((lfR m tg).nx)),(aA ((lfR m tg).ot))]])∧H 7=(bk 1 24 4 [[(iV ((lfR m tg).i)),(iV ((lfR m tg).s)),(aA ((lfR m tg).nx)),(aA ((lfR m tg).ot))]])∧H 9=(bk 1 24 4 [[(iV ((lwR m).i)),(iV ((lwR m).s)),(aA ((lwR m).nx)),(aA ((lwR m).ot))]])∧H 11=(bk 1 24 4 [[(iV ((lwR m).i)),(iV ((lwR m).s)),(aA ((lwR m).nx)),(aA ((lwR m).ot))]])∧True) ?_ ?_
 ·
  refine aX t2 h2 rfl rfl (bH (aBT m) rfl (aC rfl (eK rfl rfl (eK rfl rfl (dB (i:=11) (n:=0) (m:=4) rfl (congrArg Blk.ver h11) rfl (qV rfl rfl rfl rfl rfl rfl rfl rfl rfl (aC rfl ?_)))))))
  exact fM ⟨rfl,rfl,rfl,rfl,rfl,rfl,rfl,rfl,h2,rfl,rfl,rfl,rfl,trivial⟩
 intro T H ⟨t5,t6,t7,t8,t9,t10,t11,t12,h2,h5,h7,h9,h11,_⟩
 refine W_r (aX t5 h5 rfl rfl (aX t7 h7 rfl rfl (bH (vJ ((lfR m tg)) ((lfR m tg))) rfl (aC rfl ?_))))
 refine cF 4 (fun T H=>T 9=(V.mp 9 1 0 0)∧T 10=(iV (aZ m))∧T 11=(V.mp 11 1 0 0)∧T 12=(iV (aZ m))∧T 50=(V.bool (decide ((((lfR m tg))=((lfR m tg)))∧(((cO m tg))=((cO m tg))))))∧H 2=(bk 1 24 4 [[(iV (m.i)),(iV (m.s)),(aA m.nx),(aA m.ot)]])∧H 5=(bk 1 24 4 [[(iV ((lfR m tg).i)),(iV ((lfR m tg).s)),(aA ((lfR m tg).nx)),(aA ((lfR m tg).ot))]])∧H 7=(bk 1 24 4 [[(iV ((lfR m tg).i)),(iV ((lfR m tg).s)),(aA ((lfR m tg).nx)),(aA ((lfR m tg).ot))]])∧H 9=(bk 1 24 4 [[(iV ((lwR m).i)),(iV ((lwR m).s)),(aA ((lwR m).nx)),(aA ((lwR m).ot))]])∧H 11=(bk 1 24 4 [[(iV ((lwR m).i)),(iV ((lwR m).s)),(aA ((lwR m).nx)),(aA ((lwR m).ot))]])∧True) ?_ ?_
 ·
  by_cases g3:((lfR m tg))=((lfR m tg))
  ·
   refine aQ (edT g3 rfl) (aC t6 (aQ (edT g3 rfl) (aC t8 (aQ (edT g3 rfl) (jY rfl rfl (cK (edT g3 rfl) rfl ?_))))))
   exact ⟨t9,t10,t11,t12,(iN g3),h2,h5,h7,h9,h11,trivial⟩
  ·
   refine G_n (edF g3 rfl) (G_n (edF g3 rfl) (G_n (edF g3 rfl) (cG (edF g3 rfl) rfl ?_)))
   exact ⟨t9,t10,t11,t12,(iI g3),h2,h5,h7,h9,h11,trivial⟩
 intro T H ⟨t9,t10,t11,t12,t50,h2,h5,h7,h9,h11,_⟩
 refine aC t50 ?_
 refine cF 4 (fun T H=>T 10=(iV (aZ m))∧T 12=(iV (aZ m))∧T 55=(V.bool (decide (((((lfR m tg))=((lfR m tg)))∧(((cO m tg))=((cO m tg))))∧(((lwR m))=((lwR m))))))∧H 2=(bk 1 24 4 [[(iV (m.i)),(iV (m.s)),(aA m.nx),(aA m.ot)]])∧H 5=(bk 1 24 4 [[(iV ((lfR m tg).i)),(iV ((lfR m tg).s)),(aA ((lfR m tg).nx)),(aA ((lfR m tg).ot))]])∧H 7=(bk 1 24 4 [[(iV ((lfR m tg).i)),(iV ((lfR m tg).s)),(aA ((lfR m tg).nx)),(aA ((lfR m tg).ot))]])∧H 9=(bk 1 24 4 [[(iV ((lwR m).i)),(iV ((lwR m).s)),(aA ((lwR m).nx)),(aA ((lwR m).ot))]])∧H 11=(bk 1 24 4 [[(iV ((lwR m).i)),(iV ((lwR m).s)),(aA ((lwR m).nx)),(aA ((lwR m).ot))]])∧True) ?_ ?_
 ·
  by_cases g4:(((lfR m tg))=((lfR m tg)))∧(((cO m tg))=((cO m tg)))
  ·
   refine aQ (edT g4 rfl) (aX t9 h9 rfl rfl (aQ (edT g4 rfl) (aX t11 h11 rfl rfl (aQ (edT g4 rfl) (bH (vJ ((lwR m)) ((lwR m))) rfl (cK (edT g4 rfl) rfl ?_))))))
   exact ⟨t10,t12,(iN g4),h2,h5,h7,h9,h11,trivial⟩
  ·
   refine G_n (edF g4 rfl) (G_n (edF g4 rfl) (G_n (edF g4 rfl) (cG (edF g4 rfl) rfl ?_)))
   exact ⟨t10,t12,(iI g4),h2,h5,h7,h9,h11,trivial⟩
 intro T H ⟨t10,t12,t55,h2,h5,h7,h9,h11,_⟩
 refine aC t55 ?_
 refine cF 4 (fun T H=>T 60=(V.bool (decide ((((((lfR m tg))=((lfR m tg)))∧(((cO m tg))=((cO m tg))))∧(((lwR m))=((lwR m))))∧((aZ m)=(aZ m)))))∧H 2=(bk 1 24 4 [[(iV (m.i)),(iV (m.s)),(aA m.nx),(aA m.ot)]])∧H 5=(bk 1 24 4 [[(iV ((lfR m tg).i)),(iV ((lfR m tg).s)),(aA ((lfR m tg).nx)),(aA ((lfR m tg).ot))]])∧H 7=(bk 1 24 4 [[(iV ((lfR m tg).i)),(iV ((lfR m tg).s)),(aA ((lfR m tg).nx)),(aA ((lfR m tg).ot))]])∧H 9=(bk 1 24 4 [[(iV ((lwR m).i)),(iV ((lwR m).s)),(aA ((lwR m).nx)),(aA ((lwR m).ot))]])∧H 11=(bk 1 24 4 [[(iV ((lwR m).i)),(iV ((lwR m).s)),(aA ((lwR m).nx)),(aA ((lwR m).ot))]])∧True) ?_ ?_
 ·
  by_cases g5:((((lfR m tg))=((lfR m tg)))∧(((cO m tg))=((cO m tg))))∧(((lwR m))=((lwR m)))
  ·
   refine aQ (edT g5 rfl) (aC t10 (aQ (edT g5 rfl) (aC t12 (aQ (edT g5 rfl) (jY rfl rfl (cK (edT g5 rfl) rfl ?_))))))
   exact ⟨(iN g5),h2,h5,h7,h9,h11,trivial⟩
  ·
   refine G_n (edF g5 rfl) (G_n (edF g5 rfl) (G_n (edF g5 rfl) (cG (edF g5 rfl) rfl ?_)))
   exact ⟨(iI g5),h2,h5,h7,h9,h11,trivial⟩
 intro T H ⟨t60,h2,h5,h7,h9,h11,_⟩
 refine aC t60 ?_
 refine cF 2 (fun T H=>T 63=(V.bool (decide ((((((lfR m tg))=((lfR m tg)))∧(((cO m tg))=((cO m tg))))∧(((lwR m))=((lwR m))))∧((aZ m)=(aZ m)))))∧H 2=(bk 1 24 4 [[(iV (m.i)),(iV (m.s)),(aA m.nx),(aA m.ot)]])∧H 5=(bk 1 24 4 [[(iV ((lfR m tg).i)),(iV ((lfR m tg).s)),(aA ((lfR m tg).nx)),(aA ((lfR m tg).ot))]])∧H 7=(bk 1 24 4 [[(iV ((lfR m tg).i)),(iV ((lfR m tg).s)),(aA ((lfR m tg).nx)),(aA ((lfR m tg).ot))]])∧H 9=(bk 1 24 4 [[(iV ((lwR m).i)),(iV ((lwR m).s)),(aA ((lwR m).nx)),(aA ((lwR m).ot))]])∧H 11=(bk 1 24 4 [[(iV ((lwR m).i)),(iV ((lwR m).s)),(aA ((lwR m).nx)),(aA ((lwR m).ot))]])∧True) ?_ ?_
 ·
  by_cases g6:(((((lfR m tg))=((lfR m tg)))∧(((cO m tg))=((cO m tg))))∧(((lwR m))=((lwR m))))∧((aZ m)=(aZ m))
  ·
   refine aQ (edT g6 rfl) (bH (fT) rfl (cK (edT g6 rfl) rfl ?_))
   exact ⟨(aRD g6),h2,h5,h7,h9,h11,trivial⟩
  ·
   refine G_n (edF g6 rfl) (cG (edF g6 rfl) rfl ?_)
   exact ⟨(aRQ g6),h2,h5,h7,h9,h11,trivial⟩
 intro T H ⟨t63,h2,h5,h7,h9,h11,_⟩
 refine aC t63 (R_e (bS ?_))
 refine cC (@rfl V (V.bool (decide ((((((lfR m tg))=((lfR m tg)))∧(((cO m tg))=((cO m tg))))∧(((lwR m))=((lwR m))))∧((aZ m)=(aZ m)))))) (gA ?_)
 · first|rfl|simp
end Go.Proofs.YtmnnhjhkaepbaaaGreat
namespace Go.Proofs.YtmnnhjhkaepbaaaGreat
open Go Go.Proofs Go.Proofs.YtmnnhjhkaepbaaaGreat Go.ChangeShapes Go.WideShapes Go.ChangeAt Go.RowKit
structure UT (P:Program):Prop where
  u3:P.underlying 3=some (.int .i64)
  u22:P.underlying 22=some (.slice 25)
  u25:P.underlying 25=some (.slice 3)
  u24: ∃ f0 f1 f2 f3:Field,P.underlying 24=some (.struct #[f0,f1,f2,f3])∧f0.type=3∧f1.type=3∧f2.type=22∧f3.type=22
theorem sh3 {P:Program} (U:UT P) (n:Nat) (vs:List V) (h:Shp P (n+1) 3 vs): ∃ a:Int,vs=cI a:=aID U.u3 h
theorem aQr {P:Program} (U:UT P) (n:Nat) (vs:List V) (h:Shp P (n+2) 25 vs): ∃ a:List Int,vs=cL a:=yH (f:=cI) U.u25 (fun vs h=>sh3 U n vs h) h
theorem aQ2 {P:Program} (U:UT P) (n:Nat) (vs:List V) (h:Shp P (n+3) 22 vs): ∃ a:List (List Int),vs=(fun l=>[V.sl (List.map cL l)]) a:=yH (f:=cL) U.u22 (fun vs h=>aQr U n vs h) h
theorem aSJ {P:Program} (U:UT P) (n:Nat) (vs:List V) (h:Shp P (n+4) 24 vs): ∃ a:M,vs=mC a:=by
  obtain ⟨f0,f1,f2,f3,hu,k0,k1,k2,k3⟩:=U.u24
  have h0:=aGR hu h
  obtain ⟨x0,u0,e0,h1⟩:=mZ (c:=cI) (fun vs h=>sh3 U (n+2) vs (by rw [k0] at h; exact h)) h0
  obtain ⟨x1,u1,e1,h2⟩:=mZ (c:=cI) (fun vs h=>sh3 U (n+2) vs (by rw [k1] at h; exact h)) h1
  obtain ⟨x2,u2,e2,h3⟩:=mZ (c:=(fun l=>[V.sl (List.map cL l)])) (fun vs h=>aQ2 U (n+0) vs (by rw [k2] at h; exact h)) h2
  obtain ⟨x3,u3,e3,h4⟩:=mZ (c:=(fun l=>[V.sl (List.map cL l)])) (fun vs h=>aQ2 U (n+0) vs (by rw [k3] at h; exact h)) h3
  have e4:=aFR h4
  exact ⟨⟨x0,x1,x2,x3⟩,by rw [e0,e1,e2,e3,e4]; rfl⟩
theorem ut:UT Tryz.prog:=⟨by kernel_rfl,by kernel_rfl,by kernel_rfl,⟨_,_,_,_,Tryz.underlying24,rfl,rfl,rfl,rfl⟩⟩
theorem aSj {P:Program} (U:UT P) {us:List V} (h:aCd P 5 [24,25] us): ∃ (d0:M) (d1:List Int),us=[V.agg (mC d0),V.sl (List.map cI d1)]:=by
  obtain ⟨a0,b0,e0,h0,h⟩:=yI h
  obtain ⟨d0,g0⟩:=aSJ U 1 a0 h0
  have q0:lW P 24 a0=V.agg (mC d0):=by obtain ⟨_,_,_,_,hu,_⟩:=U.u24; rw [g0]; exact aBl hu _
  obtain ⟨a1,b1,e1,h1,h⟩:=yI h
  obtain ⟨d1,g1⟩:=aQr U 3 a1 h1
  have q1:lW P 25 a1=V.sl (List.map cI d1):=by rw [g1]; exact aCu (fun fs h=>by rw [U.u25] at h; cases h) (fun m e h=>by rw [U.u25] at h; cases h)
  have e2:=aGM h
  exact ⟨d0,d1,by rw [e0,q0,e1,q1,e2]⟩
theorem aSW:ownKnob Tryz.prog.godebug=none:=by kernel_rfl
set_option maxRecDepth 100000 in
theorem aJx (os:Os) (started:os.Started) (H:Type) (enc:TypeId×Value→H):
    ReturnsInHanded {} Tryz.checked os 3 .any (Rows.greyboxLiftsSpec.pre6 enc Tryz.prog Tryz.f3 Rows.greyboxLiftsRow.domain false) (Rows.greyboxLiftsSpec.post enc Tryz.prog Tryz.f3 false true false false):=by
  refine returnsInHanded_of_change (C:=Tryz.checked) aSW started (by kernel_rfl) Tryz.func3
    (ChangeSpec.witness6 (enc:=enc) (C:=Tryz.checked) false ⟨#[],#[.agg #[.int .i64 0,.int .i64 0,.slice none 0 0,.slice none 0 0],.slice none 0 0],[]⟩ 8 (by kernel_rfl) (by kernel_rfl) (by kernel_rfl) (by kernel_rfl)) ?_
  intro W base args ds gs before hval0 hW hcnd _
  refine aGP (n:=5) (tb:=4) (by kernel_rfl) (by kernel_rfl) (by kernel_rfl) (fun t ht=>?_) rfl ?_ (fun us hu=>?_) hval0 hW
  · have h:t∈[24,25]:=ht
    simp only [List.mem_cons,List.not_mem_nil,or_false] at h
    rcases h with rfl|rfl
    · exact ⟨by kernel_rfl,by kernel_rfl,of_decide_eq_true (by kernel_rfl)⟩
    · exact ⟨by kernel_rfl,by kernel_rfl,of_decide_eq_true (by kernel_rfl)⟩
  · obtain ⟨p,q,hA,hV,rfl,hfz,hnd⟩:=hW
    obtain ⟨rfl,rfl⟩:=trodVars_none hV
    change DataW.TrodAll enc Tryz.prog W 0 (fun _=>true) true [24,25] args.toList ds p at hA
    obtain ⟨v0,vs0,y0,ds0,pa0,pb0,hv0,rfl,rfl,_,hA⟩:=trodAll_cons hA
    obtain ⟨v1,vs1,y1,ds1,pa1,pb1,hv1,rfl,rfl,_,hA⟩:=trodAll_cons hA
    obtain ⟨_,rfl,rfl⟩:=trodAll_nil hA
    rfl
  · obtain ⟨d0,d1,rfl⟩:=aSj ut hu
    exact aEx d0 d1
theorem proved3:Rows.GreyboxLiftsSaid:=
  OpenClaim.holds_of_wide 3 Tryz.f3 rfl rfl rfl rfl rfl rfl rfl ⟨rfl,rfl,rfl,rfl,rfl⟩ rfl rfl rfl rfl rfl (by kernel_rfl) Tryz.func3 (by kernel_rfl)
    (of_decide_eq_true (by kernel_rfl)) (by unfold Func.isWrapper; first|(rw [if_pos (by decide+kernel)]; kernel_rfl)|(rw [if_neg (by decide+kernel)]; exact ⟨rfl,rfl⟩))
    (fun os started H enc _=>aJx os started H enc)
end Go.Proofs.YtmnnhjhkaepbaaaGreat
