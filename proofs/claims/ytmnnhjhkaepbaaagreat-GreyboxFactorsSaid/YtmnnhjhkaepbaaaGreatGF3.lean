/- Contracts of the functions that the law GF reaches, and the law itself, for every input; no condition. -/
import Derived.Test.YtmnnhjhkaepbaaaGreatProg
import Derived.KernelRfl
import Derived.Shelf.Spec.SlicesGrow
import Derived.Test.YtmnnhjhkaepbaaaGreatGF2
set_option linter.unusedSimpArgs false
set_option linter.unusedVariables false
namespace Go.Proofs.YtmnnhjhkaepbaaaGreat
open Go Go.Proofs Go.Shelf Go.Lib
theorem iK {cc:Array Value} {o:Nat} {cs:List Value} (h:o+cs.length≤cc.size) (q:Nat):(put cc o cs)[q]?=if o≤q∧q < o+cs.length then cs[q - o]? else cc[q]?:=by
  unfold put
  rw [mW h]
theorem kL {cc:Array Value} {o:Nat} {cs:List Value} (h:o+cs.length≤cc.size):(put cc o cs).size=cc.size:=by
  simp only [put,List.size_toArray,List.length_append,List.length_take,List.length_drop,Array.length_toList]
  omega
theorem aBD {x : Cx} {rows : List (List V)} {row : List V} {k i : Nat} {cc cv F : Array Value} (hsz : ∀ r ∈ rows, r.length = k) (hsz1 : row.length = k) (hi : i ≤ rows.length)
    (hr: ∀ (r:Nat) (row:List V) (j:Nat) (v:V),rows[r]?=some row→row[j]?=some v→R x v (cc.getD (r*k+j) undef))
    (hv: ∀ (j:Nat) (v:V),row[j]?=some v→R x v (cv.getD j undef))
    (ha: ∀ q,q < i*k→F[q]?=cc[q]?) (hb: ∀ q,q < k→F[i*k+q]?=cv[q]?) (hc: ∀ q,q < (rows.length - i)*k→F[(i+1)*k+q]?=cc[i*k+q]?):
    ∀ (r:Nat) (row':List V) (j:Nat) (v:V),(rows.take i++row::rows.drop i)[r]?=some row'→row'[j]?=some v→R x v (F.getD (r*k+j) undef):=by
  intro r row' j v h1 h2
  have hlt:(rows.take i).length=i:=by rw [List.length_take]; omega
  rw [List.getElem?_append] at h1
  split at h1
  · rename_i hlt'
    rw [hlt] at hlt'
    rw [List.getElem?_take,if_pos hlt'] at h1
    have hjk:j < k:=by rw [← hsz _ (List.mem_of_getElem? h1)]; exact (List.getElem?_eq_some_iff.1 h2).1
    have:r*k+j < i*k:=by
      have:(r+1)*k≤i*k:=Nat.mul_le_mul_right k hlt'
      rw [Nat.add_mul,Nat.one_mul] at this; omega
    rw [Array.getD_eq_getD_getElem?,ha _ this,← Array.getD_eq_getD_getElem?]
    exact hr r row' j v h1 h2
  · rename_i hge
    rw [hlt] at h1 hge
    by_cases he:r=i
    · subst he
      rw [Nat.sub_self] at h1
      simp only [List.getElem?_cons_zero,Option.some.injEq] at h1
      subst h1
      have hjk:j < k:=by rw [← hsz1]; exact (List.getElem?_eq_some_iff.1 h2).1
      rw [Array.getD_eq_getD_getElem?,hb _ hjk,← Array.getD_eq_getD_getElem?]
      exact hv j v h2
    · obtain ⟨q,hq⟩: ∃ q,r - i=q+1:=⟨r - i - 1,by omega⟩
      rw [hq,List.getElem?_cons_succ,List.getElem?_drop] at h1
      have hjk:j < k:=by rw [← hsz _ (List.mem_of_getElem? h1)]; exact (List.getElem?_eq_some_iff.1 h2).1
      have hql:=(List.getElem?_eq_some_iff.1 h1).1
      have hlt2:q*k+j < (rows.length - i)*k:=by
        have:(q+1)*k≤(rows.length - i)*k:=Nat.mul_le_mul_right k (by omega)
        rw [Nat.add_mul,Nat.one_mul] at this; omega
      have e1:r*k+j=(i+1)*k+(q*k+j):=by rw [← Nat.add_assoc,← Nat.add_mul]; congr 2; omega
      have e2:i*k+(q*k+j)=(i+q)*k+j:=by rw [Nat.add_mul]; omega
      rw [e1,Array.getD_eq_getD_getElem?,hc _ hlt2,← Array.getD_eq_getD_getElem?,e2]
      exact hr _ row' j v h1 h2
section
variable {P:Program} {ρ:Ren} {n1:String} {k bytes:Nat} {z:Value}
theorem aGv (L:InsLay P ρ n1 k bytes z) {zz:List V} (hzz:dU P (ρ.t 9)=some zz) (hzl:zz.length=k) {x:Cx} (hx:Inv x) {id id2 ver ver2 ty2 i:Nat} {rows:List (List V)} {row:List V} {c0 c2:Value}
    {lz:Bool} (hlz:(lz&&rows.isEmpty)=false) (hH:x.H id=⟨ver,true,lz,ρ.t 9,k,rows⟩) (hH2:x.H id2=⟨ver2,true,false,ty2,k,[row]⟩) (hne:id≠id2) (hi:i≤rows.length)
    (hf:cK k rows=true) (hf1:cK k [row]=true) (hb:(rows.length+1)*bytes≤140737488355328) (hm:rows.length+1≤9223372036854775807)
    (r0:R x (.ms id ver 0 rows.length) c0) (r2:R x (.ms id2 ver2 0 1) c2):
    Calls P (ρ.f 22) #[c0,.int .i64 i,c2] x.w fun e w'=> ∃ c y,e=.returned c∧y.w=w'∧y.H=upd x.H id ⟨ver+1,true,lz,ρ.t 9,k,rows.take i++row::rows.drop i⟩∧Inv y∧R y (.ms id (ver+1) 0 (rows.length+1)) c∧Frame x y:=by
  have hk:=L.hk
  have ho:(x.H id).own=true:=by rw [hH]; simp only [Blk.own,hlz]; rfl
  have ho2:(x.H id2).own=true:=by rw [hH2]; rfl
  obtain ⟨hsz,hone⟩:=eI hf
  obtain ⟨hsz1,hone1⟩:=eI hf1
  have r0':=r0; have r2':=r2
  cases r0 with
  |ms _ _ _ _ b n cap hv hh hm0=>
  cases r2 with
  |ms _ _ _ _ b2 m2 cap2 hv2 hh2 hm2=>
  obtain ⟨e1,e2,e3,e4,e5,e6⟩:=hh (by rw [hH]) (by rw [hH])
  obtain ⟨d1,d2,d3,d4,d5,d6⟩:=hh2 (by rw [hH2]) (by rw [hH2])
  obtain ⟨e7,e8⟩:=e5 ho
  obtain ⟨d7,d8⟩:=d5 ho2
  have hmI:(lz&&decide (4294967296≤ρ.t 9))=false:=by
    have:=hm0 (by rw [hH]) (by rw [hH])
    rw [hH] at this; exact this
  obtain ⟨cc,b1,bb2,bb3,bb4⟩:=hx.cel id ho (hm0 (by rw [hH]) (by rw [hH]))
  obtain ⟨cv,v1,vv2,vv3,vv4⟩:=hx.cel id2 ho2 (hm2 (by rw [hH2]) (by rw [hH2]))
  have hrs:bQ x.w (x.σ id)=cc.size:=by unfold bQ; rw [b1]
  have hrs2:bQ x.w (x.σ id2)=cv.size:=by unfold bQ; rw [v1]
  rw [hrs,hH] at e8
  rw [hrs2,hH2] at d8
  rw [hH] at e7 b1 bb3 bb4
  rw [hH2] at d7 v1 vv3 vv4
  simp only [Nat.zero_mul,Nat.zero_add] at e7 d7 e8 d8
  simp only at b1 bb3 bb4 v1 vv3 vv4
  subst e1; subst d1; subst e7; subst d7
  have hvb:x.σ id2≠x.σ id:=fun e=>hne (hx.inj id id2 ho ho2 e.symm)
  have hcv:k≤cv.size:=by simpa using vv3
  have hsz1':row.length=k:=hsz1 row (by simp)
  have hrow: ∀ (j:Nat) (v:V),row[j]?=some v→R x v (cv.getD j undef):=fun j v hj=>by
    have:=vv4 0 row j v rfl hj
    simpa using this
  have h1c: ∀ v∈cc.toList.take (rows.length*k),v.oneCell'=true:=fun v hv=>by
    obtain ⟨q,hq⟩:=List.getElem?_of_mem hv
    rw [List.getElem?_take] at hq
    split at hq
    · rename_i hlt
      obtain ⟨rw',u,h5,h6,h7⟩:=pE hsz hlt
      have h8:=bb4 _ _ _ _ h5 h6
      rw [h7,Array.getD_eq_getD_getElem?,← Array.getElem?_toList,hq] at h8
      exact h8.one (hone _ (List.mem_of_getElem? h5) _ (List.mem_of_getElem? h6))
    · cases hq
  obtain ⟨vs,hvs⟩: ∃ vs,vs=cv.toList.take k:=⟨_,rfl⟩
  have hvl:vs.length=k:=by rw [hvs,List.length_take,Array.length_toList]; omega
  have hvg: ∀ q,q < k→vs[q]?=cv[q]?:=fun q hq=>by rw [hvs,List.getElem?_take,if_pos hq,Array.getElem?_toList]
  have h1v: ∀ v∈vs,v.oneCell'=true:=fun v hv=>by
    obtain ⟨q,hq⟩:=List.getElem?_of_mem hv
    have hlt:q < k:=by rw [← hvl]; exact (List.getElem?_eq_some_iff.1 hq).1
    have hu: ∃ u,row[q]?=some u:=⟨_,List.getElem?_eq_getElem (by rw [hsz1']; exact hlt)⟩
    obtain ⟨u,hu⟩:=hu
    have h8:=hrow q u hu
    rw [Array.getD_eq_getD_getElem?,← hvg q hlt,hq] at h8
    exact h8.one (hone1 row (by simp) u (List.mem_of_getElem? hu))
  obtain ⟨n,hn⟩: ∃ n,n=rows.length:=⟨_,rfl⟩
  have hnew: ∀ r∈rows.take i++row::rows.drop i,r.length=k:=fun r hr=>by
    rcases List.mem_append.1 hr with hr|hr
    · exact hsz r (List.mem_of_mem_take hr)
    · rcases List.mem_cons.1 hr with hr|hr
      · rw [hr]; exact hsz1'
      · exact hsz r (List.mem_of_mem_drop hr)
  have hnewl:(rows.take i++row::rows.drop i).length=rows.length+1:=by simp; omega
  by_cases hend:i=rows.length
  · obtain ⟨i0,hi0,hz0,hzs,hzb⟩:=info_parts L.i9
    obtain ⟨y,c,hr,y1,y2,y3,y4⟩:=uR (P:=P) (esz:=k) (bytes:=bytes) (new:=[row]) hx L.t24 hi0 hzz hzs hzb hzl (by omega) (i:=id) (ver:=ver) (len:=rows.length) (u:=.ms id2 ver2 0 1) (by rw [hH]) (by rw [hH]) (by rw [hH]) (by rw [hH]) (by rw [hH])
      (by simp [jN,hH2]) hf1 hb hm r0' r2' 0
    rw [hend]
    refine (aJn L (x.σ id) rows.length cap (x.σ id2) cap2 x.w y.w c e2 fun ty=>hr).mono fun e w' h=>?_
    obtain ⟨rfl,rfl⟩:=h
    refine ⟨c,y,rfl,rfl,?_,y2,y4,y3⟩
    rw [y1,hH]
    simp
  have hlt:i < rows.length:=by omega
  have hnk:rows.length*k≤cc.size:=by rw [← e8]; exact Nat.mul_le_mul_right k e2
  have hik:i*k≤rows.length*k:=Nat.mul_le_mul_right k hi
  obtain ⟨ds,hds⟩: ∃ ds,ds=(cc.toList.take (rows.length*k)).drop (i*k):=⟨_,rfl⟩
  have hdl:ds.length=(rows.length - i)*k:=by rw [hds,List.length_drop,List.length_take,Array.length_toList (xs:=cc),Nat.min_eq_left hnk,Nat.sub_mul]
  have hdg: ∀ q,q < (rows.length - i)*k→ds[q]?=cc[i*k+q]?:=fun q hq=>by
    rw [hds,List.getElem?_drop,List.getElem?_take,if_pos (by rw [Nat.sub_mul] at hq; omega),Array.getElem?_toList]
  have e9:(i+1)*k+(rows.length - i)*k=(rows.length+1)*k:=by rw [← Nat.add_mul]; congr 1; omega
  have e10:(i+1)*k=i*k+k:=by rw [Nat.add_mul,Nat.one_mul]
  by_cases hroom:rows.length+1≤cap
  · have hn1k:(rows.length+1)*k≤cc.size:=by rw [← e8]; exact Nat.mul_le_mul_right k hroom
    refine (aFN L (x.σ id) rows.length cap i (x.σ id2) cap2 cc cv _ _ x.w hlt hroom (by unfold maxLen at e3; omega) hvb b1 v1 e8 hcv vs hvs h1c h1v).mono fun e w' h=>?_
    obtain ⟨rfl,rfl⟩:=h
    rw [← hds]
    have hs1:(put cc ((i+1)*k) ds).size=cc.size:=kL (by rw [hdl,e9]; exact hn1k)
    have hfit2:i*k+vs.length≤(put cc ((i+1)*k) ds).size:=by rw [hs1,hvl]; omega
    obtain ⟨dI,dF⟩:=fI hx (x.w.drawn+1) (Nat.le_succ _)
    obtain ⟨hI,hF⟩:=gU dI id ho cc (put (put cc ((i+1)*k) ds) (i*k) vs) (by rw [hH]; exact b1) (by rw [kL hfit2,hs1]) (ver+1) (rows.take i++row::rows.drop i) (by simp only [hH]; omega) (by simp only [hH]; omega) (by simp only [hH]; simp)
      (by simp only [hH]; exact hnew) (by simp only [hH]; rw [hnewl]; exact hn1k) (by
        simp only [hH]
        refine aBD hsz hsz1' hi (fun r row j v h5 h6=>(bb4 r row j v h5 h6).frame hx dF) (fun j v h5=>(hrow j v h5).frame hx dF) (fun q hq=>?_) (fun q hq=>?_) (fun q hq=>?_)
        · rw [iK hfit2,if_neg (by omega),iK (by rw [hdl,e9]; exact hn1k),if_neg (by omega)]
        · rw [iK hfit2,if_pos (by omega),Nat.add_sub_cancel_left]; exact hvg q hq
        · rw [iK hfit2,if_neg (by omega),iK (by rw [hdl,e9]; exact hn1k),if_pos (by rw [hdl]; omega),Nat.add_sub_cancel_left]; exact hdg q hq)
    refine ⟨_,_,rfl,?_,?_,hI,?_,dF.trans hF⟩
    · rfl
    · simp only [hH]
    · refine .ms _ _ _ _ _ _ _ (by simp [aC]) (fun _ _=>?_) fun _ _=>by simp only [aC,hH]; exact hmI
      simp only [aC,hH]
      refine ⟨trivial,hroom,e3,by rw [hnewl]; omega,fun _=>⟨by simp,?_⟩,fun h=>by simp [Blk.own] at h⟩
      have:bQ (({x.w with drawn:=x.w.drawn+1}:World).setRow (x.σ id) (put (put cc ((i+1)*k) ds) (i*k) vs)) (x.σ id)=cc.size:=by
        have q:=setRow_heap ({x.w with drawn:=x.w.drawn+1}:World) (x.σ id) cc (put (put cc ((i+1)*k) ds) (i*k) vs) _ _ b1
        unfold bQ
        rw [q]
        show (put (put cc ((i+1)*k) ds) (i*k) vs).size=cc.size
        rw [kL hfit2,hs1]
      rw [this,Nat.zero_add]; exact e8
  · refine (aHA L (x.σ id) rows.length cap i (x.σ id2) cap2 cc cv _ _ x.w hlt e2 (by omega) (by omega) hb b1 v1 e8 hcv vs hvs h1c h1v).mono fun e w' h=>?_
    obtain ⟨G,Rw,g1,g2,g3,rfl,rfl,g4⟩:=h
    rw [← hds]
    have hGk:(rows.length+1)*k≤Rw.size:=by rw [g1]; exact Nat.mul_le_mul_right k g2
    have hfit1:i*k+vs.length≤Rw.size:=by rw [hvl]; omega
    have hs1:(put Rw (i*k) vs).size=Rw.size:=kL hfit1
    have hfit2:(i+1)*k+ds.length≤(put Rw (i*k) vs).size:=by rw [hs1,hdl,e9]; exact hGk
    obtain ⟨dI,dF⟩:=fI hx (x.w.drawn+2) (by omega)
    obtain ⟨hI,hF⟩:=iL dI id (put (put Rw (i*k) vs) ((i+1)*k) ds) lz (ρ.t 9) k (rows.take i++row::rows.drop i) hnew (by rw [hnewl,kL hfit2,hs1]; exact hGk) (by
        refine aBD hsz hsz1' hi (fun r row j v h5 h6=>(bb4 r row j v h5 h6).frame hx dF) (fun j v h5=>(hrow j v h5).frame hx dF) (fun q hq=>?_) (fun q hq=>?_) (fun q hq=>?_)
        · rw [iK hfit2,if_neg (by omega),iK hfit1,if_neg (by omega)]
          have:=congrArg (fun l=>l[q]?) g4
          simp only [List.getElem?_take,if_pos hq,Array.getElem?_toList] at this
          exact this
        · rw [iK hfit2,if_neg (by omega),iK hfit1,if_pos (by omega),Nat.add_sub_cancel_left]; exact hvg q hq
        · rw [iK hfit2,if_pos (by rw [hdl]; omega),Nat.add_sub_cancel_left]; exact hdg q hq) hmI
    refine ⟨_,_,rfl,?_,?_,hI,?_,dF.trans hF⟩
    · rfl
    · simp only [hH]
    · refine .ms _ _ _ _ _ _ _ (by simp [aC,hH]) (fun _ _=>?_) fun _ _=>by simp only [aC]; exact hmI
      simp only [aC,hH]
      refine ⟨trivial,g2,g3,by rw [hnewl]; omega,fun _=>⟨by simp,?_⟩,fun h=>by simp [Blk.own] at h⟩
      rw [gM,kL hfit2,hs1,g1,Nat.zero_add]
theorem nX (L:InsLay P ρ n1 k bytes z) (hcf:cG P (ρ.f 22)) {zz:List V} (hzz:dU P (ρ.t 9)=some zz) (hzl:zz.length=k) {id id2 ver ver2 ty2 i n:Nat} {rows:List (List V)} {row:List V} {H:aF}
    {lz:Bool} (hlz:(lz&&(rows.take n).isEmpty)=false) (hH:H id=⟨ver,true,lz,ρ.t 9,k,rows⟩) (hH2:H id2=⟨ver2,true,false,ty2,k,[row]⟩) (hne:id≠id2) (hn:n≤rows.length) (hi:i≤n)
    (hf:cK k (rows.take n)=true) (hf1:cK k [row]=true) (hb:(n+1)*bytes≤140737488355328) (hm:n+1≤9223372036854775807):
    dB P (ρ.f 22) [.ms id ver 0 n,iV i,.ms id2 ver2 0 1] H (.ms id (ver+2) 0 (n+1)) (upd H id ⟨ver+2,true,lz,ρ.t 9,k,(rows.take n).take i++row::(rows.take n).drop i⟩):=by
  refine ⟨hcf,fun x cs hxH hx hr=>?_⟩
  subst hxH
  obtain ⟨c0,c1,c2,rfl⟩: ∃ c0 c1 c2,cs=[c0,c1,c2]:=by
    have:=hr.1
    match cs with
    |[a,b,c]=>exact ⟨a,b,c,rfl⟩
    |[]=>simp at this
    |[_]=>simp at this
    |[_,_]=>simp at this
    |_::_::_::_::_=>simp at this
  have r0:R x (.ms id ver 0 n) c0:=hr.2 0 _ rfl
  have r1:R x (iV i) c1:=hr.2 1 _ rfl
  have r2:R x (.ms id2 ver2 0 1) c2:=hr.2 2 _ rfl
  have hc1:c1=.int .i64 i:=by
    unfold iV at r1
    cases r1; rfl
  subst hc1
  have hlz2:(lz&&rows.isEmpty)=false:=by
    cases lz with
    |false=>rfl
    | true =>
      cases rows with
      |nil=>simp at hlz
      |cons a l=>rfl
  have ho:(x.H id).own=true:=by rw [hH]; simp only [Blk.own,hlz2]; rfl
  have hM:(x.H id).isM=false:=by
    cases r0 with
    |ms _ _ _ _ b m cap hv hh hm=>exact hm (by rw [hH]) (by rw [hH])
  obtain ⟨cc,b1,bb2,bb3,bb4⟩:=hx.cel id ho hM
  have hlen:(rows.take n).length=n:=by rw [List.length_take]; omega
  obtain ⟨hI,hF⟩:=gU hx id ho cc cc b1 rfl (ver+1) (rows.take n) (by rw [hH]; exact Nat.le_succ _) (by rw [hH]; simp) (by rw [hH]; exact hlz) (fun r h=>bb2 r (by rw [hH]; exact List.mem_of_mem_take h))
    (by rw [hlen]; refine Nat.le_trans (Nat.mul_le_mul_right _ ?_) bb3; rw [hH]; exact hn) (fun r row j v h1 h2=>by
      rw [List.getElem?_take] at h1
      split at h1
      · exact bb4 r row j v (by rw [hH]; exact h1) h2
      · cases h1)
  have hw:x.w.setRow (x.σ id) cc=x.w:=setRow_self x.w _ cc _ _ b1
  rw [hw] at hI hF
  have q0:R {x with H:=upd x.H id ⟨ver+1,true,(x.H id).lz,(x.H id).ty,(x.H id).sz,rows.take n⟩} (.ms id (ver+1) 0 (rows.take n).length) c0:=by
    cases r0 with
    |ms _ _ _ _ b m cap hv hh hm=>
    obtain ⟨e1,e2,e3,e4,e5,e6⟩:=hh (by rw [hH]) (by rw [hH])
    obtain ⟨e7,e8⟩:=e5 ho
    refine .ms _ _ _ _ _ _ _ (by simp [aC]) (fun _ _=>?_) fun _ _=>by simp only [aC]; exact hM
    simp only [aC,hlen]
    exact ⟨e1,e2,e3,by omega,fun _=>⟨e7,e8⟩,fun h=>by rw [hH] at h; simp only [Blk.own,hlz] at h; cases h⟩
  have h:=aGv L hzz hzl hI (id:=id) (id2:=id2) (ver:=ver+1) (ver2:=ver2) (ty2:=ty2) (i:=i) (rows:=rows.take n) (row:=row) hlz (by simp [aC,hH]) (by simp only [aQ _ _ (Ne.symm hne)]; exact hH2) hne (by rw [hlen]; exact hi) hf hf1 (by rw [hlen]; exact hb) (by rw [hlen]; exact hm) q0 (r2.frame hx hF)
  refine h.mono fun e w' h=>?_
  obtain ⟨c,y,rfl,h1,h2,h3,h4,h5⟩:=h
  refine ⟨c,y,rfl,h1,?_,h3,?_,hF.trans h5⟩
  · rw [h2]
    funext j
    by_cases e:j=id
    · subst e; simp only [aC]
    · simp only [aQ _ _ e]
  · rw [hlen] at h4; exact h4
theorem vP (L:InsLay P ρ n1 k bytes z) (hcf:cG P (ρ.f 22)) {zz:List V} (hzz:dU P (ρ.t 9)=some zz) (hzl:zz.length=k) {id id2 ver ver2 ty2:Nat} {row:List V} {H:aF}
    (hH:H id=⟨ver,true,true,ρ.t 9,k,[]⟩) (hH2:H id2=⟨ver2,true,false,ty2,k,[row]⟩) (hf1:cK k [row]=true) (hb:bytes≤140737488355328):
    dB P (ρ.f 22) [.ms id ver 0 0,iV 0,.ms id2 ver2 0 1] H (.ms id (ver+2) 0 1) (upd H id ⟨ver+2,true,true,ρ.t 9,k,[row]⟩):=by
  refine ⟨hcf,fun x cs hxH hx hr=>?_⟩
  subst hxH
  obtain ⟨c0,c1,c2,rfl⟩: ∃ c0 c1 c2,cs=[c0,c1,c2]:=by
    have:=hr.1
    match cs with
    |[a,b,c]=>exact ⟨a,b,c,rfl⟩
    |[]=>simp at this
    |[_]=>simp at this
    |[_,_]=>simp at this
    |_::_::_::_::_=>simp at this
  have r0:R x (.ms id ver 0 0) c0:=hr.2 0 _ rfl
  have r1:R x (iV 0) c1:=hr.2 1 _ rfl
  have r2:R x (.ms id2 ver2 0 1) c2:=hr.2 2 _ rfl
  have hc1:c1=.int .i64 0:=by
    unfold iV at r1
    cases r1; rfl
  subst hc1
  have hk:=L.hk
  have ho2:(x.H id2).own=true:=by rw [hH2]; rfl
  obtain ⟨i0,hi0,hz0,hzs,hzb⟩:=info_parts L.i9
  obtain ⟨y,c,hrun,y1,y2,y3,y4⟩:=uR (P:=P) (esz:=k) (bytes:=bytes) (new:=[row]) hx L.t24 hi0 hzz hzs hzb hzl (by omega) (i:=id) (ver:=ver) (len:=0) (u:=.ms id2 ver2 0 1) (by rw [hH]) (by rw [hH]) (by rw [hH]; rfl) (by rw [hH]) (by rw [hH])
      (by simp [jN,hH2]) hf1 (by simpa using hb) (by simp) r0 r2 0
  have hcall:Calls P (ρ.f 22) #[c0,.int .i64 0,c2] x.w fun e w'=>e=.returned c∧w'=y.w:=by
    cases r2 with
    |ms _ _ _ _ b2 m2 cap2 hv2 hh2 hm2=>
    obtain ⟨d1,d2,d3,d4,d5,d6⟩:=hh2 (by rw [hH2]) (by rw [hH2])
    obtain ⟨d7,d8⟩:=d5 ho2
    subst d1; subst d7
    simp only [Nat.zero_mul] at hrun ⊢
    cases r0 with
    | ms _ _ _ _ b n cap hv hh hm =>
      obtain ⟨e1,e2,e3,e4,e5,e6⟩:=hh (by rw [hH]) (by rw [hH])
      have hcap:=e6 (by rw [hH]; rfl)
      subst e1; subst hcap
      cases b with
      |none=>exact aGy L (x.σ id2) cap2 x.w y.w c (fun _=>hrun)
      |some a=>exact aH6 L a (x.σ id2) cap2 x.w y.w c (fun _=>hrun)
  refine hcall.mono fun e w' h=>?_
  obtain ⟨rfl,rfl⟩:=h
  have hyi:y.H id=⟨ver+1,true,true,ρ.t 9,k,[row]⟩:=by rw [y1,hH]; simp [aC]
  have hfin:tE y.H (upd y.H id ⟨ver+2,true,true,ρ.t 9,k,[row]⟩):=fun j=>by
    by_cases e:j=id
    · subst e; rw [aC,hyi]; exact jB.up (by omega) rfl
    · rw [aQ _ _ e]; exact .refl _
  obtain ⟨f1,f2⟩:=pO y2 hfin
  have f3:=cV.ms hfin (id:=id) (ver:=ver+1) (n:=ver+2) (off:=0) (len:=0+[row].length) (by rw [hyi]) (by rw [hyi]) (by simp) (by simp)
  refine ⟨c,xJ y _,rfl,rfl,?_,f1,f3 y c rfl y2 y4,y3.trans f2⟩
  show upd y.H id _=_
  rw [y1]
  funext j
  by_cases e:j=id
  · subst e; simp only [aC]
  · simp only [aQ _ _ e]
theorem vY (L : InsLay P ρ n1 k bytes z) (hcf : cG P (ρ.f 22)) {zz : List V} (hzz : dU P (ρ.t 9) = some zz) (hzl : zz.length = k) {id id2 ver ver2 ty2 i n : Nat} {rows : List (List V)} {row : List V} {H : aF}
    {lz:Bool} (hn:n=rows.length) (hH:H id=⟨ver,true,lz,ρ.t 9,k,rows⟩) (hH2:H id2=⟨ver2,true,false,ty2,k,[row]⟩) (hne:id≠id2) (hi:i≤n)
    (hf:cK k rows=true) (hf1:cK k [row]=true) (hb:(n+1)*bytes≤140737488355328) (hm:n+1≤9223372036854775807):
    dB P (ρ.f 22) [.ms id ver 0 n,iV i,.ms id2 ver2 0 1] H (.ms id (ver+2) 0 (n+1)) (upd H id ⟨ver+2,true,lz,ρ.t 9,k,rows.take i++row::rows.drop i⟩):=by
  subst hn
  by_cases h0:(lz&&rows.isEmpty)=false
  · have:=nX L hcf hzz hzl (i:=i) (by rw [List.take_length]; exact h0) hH hH2 hne (Nat.le_refl _) hi (by rw [List.take_length]; exact hf) hf1 hb hm
    rw [List.take_length] at this
    exact this
  · cases lz with
    |false=>exact (h0 rfl).elim
    | true =>
      cases rows with
      |cons a l=>exact (h0 rfl).elim
      | nil =>
        have hi0:i=0:=by simpa using hi
        subst hi0
        exact vP L hcf hzz hzl hH hH2 hf1 (by simpa using hb)
end
end Go.Proofs.YtmnnhjhkaepbaaaGreat
namespace Go.Proofs.YtmnnhjhkaepbaaaGreat
open Go Go.Proofs Go.Shelf Go.Lib
def aGB (f ty k bytes : Nat) : jJ := fun g args H =>
  if g=f then match args with
    | [.ms id ver 0 n, .int .i64 i, .ms id2 ver2 0 1] => match H id2 with
      | ⟨v2, true, false, _, k2, [row]⟩ => match H id with
        | ⟨v1, true, lz, ty1, k1, rows⟩ =>
          if ((lz && (rows.take n).isEmpty) = false ∨ n = rows.length) ∧ v1 = ver ∧ v2 = ver2 ∧ k1 = k ∧ k2 = k ∧ ty1 = ty ∧ id ≠ id2 ∧ n ≤ rows.length ∧ i.toNat ≤ n ∧ 0 ≤ i ∧ (n + 1) * bytes ≤ 140737488355328 ∧ n + 1 ≤ 9223372036854775807 then
            if cK k (rows.take n)&&cK k [row] then
              some (.ms id (ver+2) 0 (n+1),upd H id ⟨ver+2,true,lz,ty,k,(rows.take n).take i.toNat++row::(rows.take n).drop i.toNat⟩)
            else none
          else none
        |_=>none
      |_=>none
    |_=>none
  else none
theorem aAV {P : Program} {ρ : Ren} {n1 : String} {k bytes : Nat} {z : Value} (L : InsLay P ρ n1 k bytes z) (hcf : cG P (ρ.f 22)) {zz : List V} (hzz : dU P (ρ.t 9) = some zz) (hzl : zz.length = k) : fU P (aGB (ρ.f 22) (ρ.t 9) k bytes) := by
  intro g args H v H' h
  unfold aGB at h
  split at h
  · rename_i hg
    subst hg
    split at h
    · rename_i id ver n i id2 ver2
      split at h
      · rename_i v2 ty2 k2 row h2
        split at h
        · rename_i v1 lz ty1 k1 rows h1
          split at h
          · rename_i hc
            obtain ⟨c0,rfl,rfl,rfl,rfl,rfl,c1,c2,c3,c4,c5,c6⟩:=hc
            split at h
            · rename_i hf
              simp only [Bool.and_eq_true] at hf
              cases h
              rcases c0 with c0|c0
              · have:=nX L hcf hzz hzl (i:=i.toNat) c0 h1 h2 c1 c2 c3 hf.1 hf.2 c5 c6
                unfold iV at this
                rw [Int.toNat_of_nonneg c4] at this
                exact this
              · have hf1:=hf.1
                rw [c0,List.take_length] at hf1
                have:=vY L hcf hzz hzl (i:=i.toNat) c0 h1 h2 c1 c3 hf1 hf.2 c5 c6
                unfold iV at this
                rw [Int.toNat_of_nonneg c4] at this
                have e:rows.take n=rows:=by rw [c0,List.take_length]
                rw [e]
                exact this
            · cases h
          · cases h
        · cases h
      · cases h
    · cases h
  · cases h
end Go.Proofs.YtmnnhjhkaepbaaaGreat
namespace Go.Proofs.YtmnnhjhkaepbaaaGreat
open Go Go.Proofs Go.Shelf
def aFE:Go.Shelf.Ren:=⟨fun|22=>136|29=>180|30=>181|n=>n,fun|24=>22|9=>25|n=>n,fun n=>n⟩
theorem aGf:InsLay Tryz.prog aFE Tryz.f136.name 1 24 (.slice none 0 0):={
  mixed:=by kernel_rfl
  f22:=Tryz.func136.trans (congrArg some (by kernel_rfl))
  ov:=fun args w=>run_callFunc_extern Tryz.func180 (by kernel_rfl) (by kernel_rfl) (by kernel_rfl) (by kernel_rfl) args w
  t0:=Tryz.underlying0,a0:=Tryz.isAgg0,z0:=Tryz.sizeOf0,v0:=Tryz.zeroValue0
  t3:=Tryz.underlying3,a3:=Tryz.isAgg3,z3:=Tryz.sizeOf3,v3:=Tryz.zeroValue3
  t4:=Tryz.underlying4,a4:=Tryz.isAgg4,z4:=Tryz.sizeOf4,v4:=Tryz.zeroValue4
  z9:=Tryz.sizeOf25
  t24:=Tryz.underlying22,a24:=Tryz.isAgg22,z24:=Tryz.sizeOf22,v24:=Tryz.zeroValue22
  i9:=by kernel_rfl
  hk:=by decide
  hz:=by kernel_rfl}
theorem aDo:cG Tryz.prog 136:=⟨_,Tryz.func136,by kernel_rfl,by kernel_rfl⟩
def vM:jJ:=aGB 136 25 1 24
theorem xH:fU Tryz.prog vM:=aAV aGf aDo (zz:=[V.nilsl]) (by kernel_rfl) rfl
end Go.Proofs.YtmnnhjhkaepbaaaGreat
namespace Go.Proofs.YtmnnhjhkaepbaaaGreat
open Go Go.Proofs Go.Shelf
def aFR:Go.Shelf.Ren:=⟨fun|22=>137|29=>182|30=>183|n=>n,fun|24=>25|9=>3|n=>n,fun n=>n⟩
theorem aFt:InsLay Tryz.prog aFR Tryz.f137.name 1 8 (.int .i64 0):={
  mixed:=by kernel_rfl
  f22:=Tryz.func137.trans (congrArg some (by kernel_rfl))
  ov:=fun args w=>run_callFunc_extern Tryz.func182 (by kernel_rfl) (by kernel_rfl) (by kernel_rfl) (by kernel_rfl) args w
  t0:=Tryz.underlying0,a0:=Tryz.isAgg0,z0:=Tryz.sizeOf0,v0:=Tryz.zeroValue0
  t3:=Tryz.underlying3,a3:=Tryz.isAgg3,z3:=Tryz.sizeOf3,v3:=Tryz.zeroValue3
  t4:=Tryz.underlying4,a4:=Tryz.isAgg4,z4:=Tryz.sizeOf4,v4:=Tryz.zeroValue4
  z9:=Tryz.sizeOf3
  t24:=Tryz.underlying25,a24:=Tryz.isAgg25,z24:=Tryz.sizeOf25,v24:=Tryz.zeroValue25
  i9:=by kernel_rfl
  hk:=by decide
  hz:=by kernel_rfl}
theorem aDk:cG Tryz.prog 137:=⟨_,Tryz.func137,by kernel_rfl,by kernel_rfl⟩
def xC:jJ:=aGB 137 3 1 8
theorem xM:fU Tryz.prog xC:=aAV aFt aDk (zz:=[V.int .i64 0]) (by kernel_rfl) rfl
end Go.Proofs.YtmnnhjhkaepbaaaGreat
namespace Go.Proofs.YtmnnhjhkaepbaaaGreat
open Go Go.Proofs Go.Shelf Go.Lib
section
variable {P:Program} {ρ:Go.Shelf.Ren}
theorem aCr (L : Lays8.n4 P ρ) (hcf : cG P (ρ.f 4)) (i0 : TypeInfo) (z : Value) (hi0 : P.info? (ρ.t 25) = some i0) (hz0 : i0.zero = some z) (hs0 : 0 < i0.size) (hzs : z.cells.size = i0.size)
    {n:Nat} (hb:n*i0.bytes≤140737488355328) (h63:n≤4611686018427387904) (id:Nat) (H:aF) (hty:ρ.t 25 < 4294967296:=by decide):
    dB P (ρ.f 4) [.nilsl,iV (n:Nat)] H (.ms id ((H id).ver+1) 0 0) (upd H id ⟨(H id).ver+1,true,decide (n=0),ρ.t 25,i0.size,[]⟩):=by
  refine ⟨hcf,fun x cs hxH hx hr=>?_⟩
  subst hxH
  obtain ⟨c0,c1,rfl⟩: ∃ c0 c1,cs=[c0,c1]:=by
    have:=hr.1
    match cs with
    |[a,b]=>exact ⟨a,b,rfl⟩
    |[]=>simp at this
    |[_]=>simp at this
    |_::_::_::_=>simp at this
  have r0:R x .nilsl c0:=hr.2 0 _ rfl
  have r1:R x (iV (n:Nat)) c1:=hr.2 1 _ rfl
  have hc0:c0=.slice none 0 0:=by cases r0; rfl
  have hc1:c1=.int .i64 (n:Nat):=by unfold iV at r1; cases r1; rfl
  subst hc0; subst hc1
  by_cases hn:n=0
  · subst hn
    refine (Any8.slices_Grow_room L none 0 0 0 x.w (Nat.le_refl _) (by decide) (by decide) (by decide)).mono fun e w' h=>?_
    obtain ⟨rfl,rfl⟩:=h
    obtain ⟨h1,h2,h3⟩:=gZ hx id (ρ.t 25) i0.size hty
    exact ⟨_,{x with H:=upd x.H id ⟨(x.H id).ver+1,true,true,ρ.t 25,i0.size,[]⟩},rfl,rfl,by simp,h1,h3 _,h2⟩
  · refine (Any8.slices_Grow_grow L i0 z hi0 hz0 hs0 none 0 0 n [] x.w (Nat.le_refl _) (by omega) (by simpa using hb) (by simpa using h63) (by simp) (fun _=>rfl) (fun a h=>by cases h)).mono fun e w' h=>?_
    obtain ⟨rfl,rfl⟩:=h
    obtain ⟨dI,dF⟩:=fI hx (x.w.drawn+1) (Nat.le_succ _)
    have hge:0+n≤grownCap x.w (0+n) 0 (ρ.t 25):=grownCap_ge x.w _ _ _
    have hle:=grownCap_le_maxLen x.w (0+n) 0 (ρ.t 25) (by unfold maxLen; omega)
    generalize hG:grownCap x.w (0+n) 0 (ρ.t 25)=G at hge hle
    have hsz:((#[]:Array Value)++Builtin.zeroCells z.cells (0+n - 0)++Builtin.zeroCells z.cells (G - (0+n))).size=G*i0.size:=by
      have zc: ∀ m,(Builtin.zeroCells z.cells m).size=m*i0.size:=fun m=>by
        rw [size_zeroCells,hzs]
      rw [Array.size_append,Array.size_append,zc,zc]
      simp only [Array.size_empty,Nat.zero_add,Nat.sub_zero]
      rw [← Nat.add_mul]; congr 1; omega
    have hrf:([].toArray:Array Value)=#[]:=rfl
    rw [hrf]
    generalize ((#[]:Array Value)++Builtin.zeroCells z.cells (0+n - 0)++Builtin.zeroCells z.cells (G - (0+n)))=cc at hsz
    obtain ⟨h1,h2⟩:=iL dI id cc false (ρ.t 25) i0.size [] (by simp) (by simp) (fun r row j v h=>by simp at h)
    refine ⟨_,_,rfl,rfl,by simp [hn],h1,?_,dF.trans h2⟩
    refine .ms _ _ _ _ _ _ _ (by simp [aC]) (fun _ _=>?_) fun _ _=>by simp only [aC]; rfl
    simp only [aC]
    refine ⟨trivial,Nat.zero_le _,hle,by simp,fun _=>⟨by simp [World.drew],?_⟩,fun h=>by simp [Blk.own] at h⟩
    simp only [Nat.zero_add]
    unfold bQ
    have:(({x.w with drawn:=x.w.drawn+1}:World).alloc (.cells cc (ρ.t 25))).heap[({x.w with drawn:=x.w.drawn+1}:World).heap.size]?=some (.cells cc (ρ.t 25)):=fC _ _
    rw [this]
    exact hsz.symm
def aDT (f id ty k bytes : Nat) : jJ := fun g args H =>
  if g=f then match args with
    |[.nilsl,.int .i64 n]=>if 0≤n∧n.toNat*bytes≤140737488355328∧n.toNat≤4611686018427387904 then
        some (.ms id ((H id).ver+1) 0 0,upd H id ⟨(H id).ver+1,true,decide (n.toNat=0),ty,k,[]⟩) else none
    |_=>none
  else none
theorem aGD (L : Lays8.n4 P ρ) (hcf : cG P (ρ.f 4)) (i0 : TypeInfo) (z : Value) (hi0 : P.info? (ρ.t 25) = some i0) (hz0 : i0.zero = some z) (hs0 : 0 < i0.size) (hzs : z.cells.size = i0.size) (id : Nat) (hty : ρ.t 25 < 4294967296 := by decide) :
    fU P (aDT (ρ.f 4) id (ρ.t 25) i0.size i0.bytes):=by
  intro g args H v H' h
  unfold aDT at h
  split at h
  · rename_i hg
    subst hg
    split at h
    · rename_i n
      split at h
      · rename_i hc
        cases h
        have:=aCr L hcf i0 z hi0 hz0 hs0 hzs (n:=n.toNat) hc.2.1 hc.2.2 id H hty
        rw [Int.toNat_of_nonneg hc.1] at this
        exact this
      · cases h
    · cases h
  · cases h
theorem aF5 (L:Lays8.n4 P ρ) (hcf:cG P (ρ.f 4)) {k b:Nat} {z:Value} (hi:(P.info? (ρ.t 25)).map (fun i=>(i.zero,i.size,i.bytes))=some (some z,k,b)) (hs0:0 < k) (hzs:z.cells.size=k) (id:Nat) (hty:ρ.t 25 < 4294967296:=by decide):
    fU P (aDT (ρ.f 4) id (ρ.t 25) k b):=by
  obtain ⟨i0,h1,h2⟩:=Option.map_eq_some_iff.1 hi
  simp only [Prod.mk.injEq] at h2
  obtain ⟨h3,h4,h5⟩:=h2
  subst h4; subst h5
  exact aGD L hcf i0 z h1 h3 hs0 hzs id hty
def orP (p q:jJ):jJ:=fun f args H=>match p f args H with
  |some r=>some r
  |none=>q f args H
theorem aC0 {p q:jJ} (hp:fU P p) (hq:fU P q):fU P (orP p q):=by
  intro f args H v H' h
  unfold orP at h
  split at h
  · rename_i r hr; cases h; exact hp _ _ _ _ _ hr
  · exact hq _ _ _ _ _ h
end
end Go.Proofs.YtmnnhjhkaepbaaaGreat
namespace Go.Proofs.YtmnnhjhkaepbaaaGreat
open Go Go.Proofs Go.Shelf
def aCS:Go.Shelf.Ren:=⟨fun|4=>196|n=>n,fun|22=>25|25=>3|3=>3|4=>4|9=>9|20=>20|0=>0|n=>n,fun n=>n⟩
theorem aC8:Lays8.n4 Tryz.prog aCS:={
  mixed:=(by kernel_rfl),
  f4:=⟨Tryz.f196.name,by decide,Tryz.func196.trans (congrArg some (by kernel_rfl))⟩,
  t0:=Tryz.underlying0,
  a0:=Tryz.isAgg0,
  z0:=Tryz.sizeOf0,
  v0:=Tryz.zeroValue0,
  t3:=Tryz.underlying3,
  a3:=Tryz.isAgg3,
  z3:=Tryz.sizeOf3,
  v3:=Tryz.zeroValue3,
  t4:=Tryz.underlying4,
  a4:=Tryz.isAgg4,
  z4:=Tryz.sizeOf4,
  v4:=Tryz.zeroValue4,
  t9:=Tryz.underlying9,
  a9:=Tryz.isAgg9,
  z9:=Tryz.sizeOf9,
  v9:=Tryz.zeroValue9,
  t20:=Tryz.underlying20,
  a20:=Tryz.isAgg20,
  z20:=Tryz.sizeOf20,
  v20:=Tryz.zeroValue20,
  t22:=Tryz.underlying25,
  a22:=Tryz.isAgg25,
  z22:=Tryz.sizeOf25,
  v22:=Tryz.zeroValue25}
theorem aCc:cG Tryz.prog 196:=⟨_,Tryz.func196,by kernel_rfl,by kernel_rfl⟩
theorem aB8:(Tryz.prog.info? 3).map (fun i=>(i.zero,i.size,i.bytes))=some (some (.int .i64 0),1,8):=by kernel_rfl
def sH (id:Nat):jJ:=aDT 196 id 3 1 8
theorem xA (id:Nat):fU Tryz.prog (sH id):=aF5 aC8 aCc aB8 (by decide) rfl id
end Go.Proofs.YtmnnhjhkaepbaaaGreat
namespace Go.Proofs.YtmnnhjhkaepbaaaGreat
open Go Go.Proofs Go.Shelf
def aFy:Go.Shelf.Ren:=⟨fun|22=>230|29=>236|30=>237|n=>n,fun|24=>65|9=>169|n=>n,fun n=>n⟩
theorem aFq:InsLay Tryz.prog aFy Tryz.f230.name 2 48 (.agg #[.slice none 0 0,.slice none 0 0]):={
  mixed:=by kernel_rfl
  f22:=Tryz.func230.trans (congrArg some (by kernel_rfl))
  ov:=fun args w=>run_callFunc_extern Tryz.func236 (by kernel_rfl) (by kernel_rfl) (by kernel_rfl) (by kernel_rfl) args w
  t0:=Tryz.underlying0,a0:=Tryz.isAgg0,z0:=Tryz.sizeOf0,v0:=Tryz.zeroValue0
  t3:=Tryz.underlying3,a3:=Tryz.isAgg3,z3:=Tryz.sizeOf3,v3:=Tryz.zeroValue3
  t4:=Tryz.underlying4,a4:=Tryz.isAgg4,z4:=Tryz.sizeOf4,v4:=Tryz.zeroValue4
  z9:=Tryz.sizeOf169
  t24:=Tryz.underlying65,a24:=Tryz.isAgg65,z24:=Tryz.sizeOf65,v24:=Tryz.zeroValue65
  i9:=by kernel_rfl
  hk:=by decide
  hz:=by kernel_rfl}
theorem aC1:cG Tryz.prog 230:=⟨_,Tryz.func230,by kernel_rfl,by kernel_rfl⟩
def uU:jJ:=aGB 230 169 2 48
theorem xI:fU Tryz.prog uU:=aAV aFq aC1 (zz:=[V.nilsl,V.nilsl]) (by kernel_rfl) rfl
end Go.Proofs.YtmnnhjhkaepbaaaGreat
namespace Go.Proofs.YtmnnhjhkaepbaaaGreat
open Go Go.Proofs
def awT:FT:=(.nd 119 ⟨aKq,[]⟩ (.nd 57 ⟨s57,[]⟩ (.nd 31 ⟨s31,[]⟩ (.nd 22 ⟨s22,[]⟩ (.nd 14 ⟨s14,[]⟩ (.nd 10 ⟨s10,[(39,5999100200),(39,7999100300)]⟩ (.nd 9 ⟨s9,[]⟩ .lf .lf) (.nd 12 ⟨s12,[]⟩ .lf .lf)) (.nd 18 ⟨s18,[(52,1001101000)]⟩ (.nd 15 ⟨s15,[]⟩ .lf .lf) (.nd 20 ⟨s20,[]⟩ .lf .lf))) (.nd 28 ⟨s28,[]⟩ (.nd 25 ⟨s25,[(70,1000075),(64,69025100702),(70,81025100703),(66,10)]⟩ (.nd 23 ⟨s23,[]⟩ .lf .lf) (.nd 27 ⟨s27,[]⟩ .lf .lf)) (.nd 30 ⟨s30,[(36,1000041),(36,47025100502),(48,1998104600),(48,53025100503),(50,22),(55,1001100502),(55,1001100503)]⟩ (.nd 29 ⟨s29,[]⟩ .lf .lf) .lf))) (.nd 47 ⟨s47,[]⟩ (.nd 39 ⟨s39,[]⟩ (.nd 35 ⟨s35,[]⟩ (.nd 33 ⟨s33,[]⟩ .lf .lf) (.nd 36 ⟨s36,[]⟩ .lf .lf)) (.nd 41 ⟨s41,[(42,9)]⟩ (.nd 40 ⟨s40,[(24,9)]⟩ .lf .lf) (.nd 45 ⟨s45,[(47,5999100200),(47,7999100300)]⟩ .lf .lf))) (.nd 54 ⟨s54,[]⟩ (.nd 49 ⟨s49,[]⟩ (.nd 48 ⟨s48,[(70,75025100902),(76,86025100903),(72,50)]⟩ .lf .lf) (.nd 53 ⟨s53,[]⟩ .lf .lf)) (.nd 56 ⟨s56,[(110,116025101202),(118,124025101203),(115,14),(123,15)]⟩ (.nd 55 ⟨s55,[]⟩ .lf .lf) .lf)))) (.nd 85 ⟨s85,[(73,6)]⟩ (.nd 75 ⟨s75,[]⟩ (.nd 70 ⟨s70,[(80,85025100802),(86,91025100803),(82,11),(88,12)]⟩ (.nd 59 ⟨s59,[]⟩ (.nd 58 ⟨s58,[]⟩ .lf .lf) (.nd 69 ⟨s69,[]⟩ .lf .lf)) (.nd 73 ⟨s73,[]⟩ (.nd 71 ⟨s71,[]⟩ .lf .lf) (.nd 74 ⟨s74,[]⟩ .lf .lf))) (.nd 81 ⟨s81,[]⟩ (.nd 77 ⟨s77,[]⟩ (.nd 76 ⟨s76,[]⟩ .lf .lf) (.nd 78 ⟨s78,[]⟩ .lf .lf)) (.nd 84 ⟨s84,[]⟩ (.nd 83 ⟨s83,[]⟩ .lf .lf) .lf))) (.nd 93 ⟨s93,[]⟩ (.nd 89 ⟨s89,[]⟩ (.nd 87 ⟨s87,[]⟩ (.nd 86 ⟨s86,[]⟩ .lf .lf) (.nd 88 ⟨s88,[]⟩ .lf .lf)) (.nd 91 ⟨s91,[]⟩ (.nd 90 ⟨s90,[]⟩ .lf .lf) (.nd 92 ⟨s92,[]⟩ .lf .lf))) (.nd 97 ⟨s97,[(104,17)]⟩ (.nd 95 ⟨s95,[(29,1000032),(143,14)]⟩ (.nd 94 ⟨s94,[]⟩ .lf .lf) (.nd 96 ⟨s96,[]⟩ .lf .lf)) (.nd 116 ⟨aJu,[]⟩ (.nd 98 ⟨s98,[]⟩ .lf .lf) .lf))))) (.nd 177 ⟨aO8,[]⟩ (.nd 139 ⟨aOt,[]⟩ (.nd 130 ⟨aNc,[]⟩ (.nd 123 ⟨aKh,[(26,14)]⟩ (.nd 121 ⟨aLb,[]⟩ (.nd 120 ⟨aGK,[]⟩ .lf .lf) (.nd 122 ⟨aJX,[]⟩ .lf .lf)) (.nd 126 ⟨aO4,[]⟩ (.nd 125 ⟨aN3,[]⟩ .lf .lf) (.nd 127 ⟨aQX,[]⟩ .lf .lf))) (.nd 134 ⟨aMZ,[]⟩ (.nd 132 ⟨aNK,[]⟩ (.nd 131 ⟨aOU,[]⟩ .lf .lf) (.nd 133 ⟨aP6,[]⟩ .lf .lf)) (.nd 138 ⟨aQF,[]⟩ (.nd 135 ⟨aN0,[(28,1000031),(58,1000061)]⟩ .lf .lf) .lf))) (.nd 169 ⟨aJv,[]⟩ (.nd 143 ⟨aOH,[]⟩ (.nd 141 ⟨aQJ,[]⟩ (.nd 140 ⟨aNB,[(60,76003105009)]⟩ .lf .lf) (.nd 142 ⟨aQe,[]⟩ .lf .lf)) (.nd 145 ⟨aP3,[]⟩ (.nd 144 ⟨aOX,[]⟩ .lf .lf) (.nd 168 ⟨aG2,[]⟩ .lf .lf))) (.nd 174 ⟨aKr,[]⟩ (.nd 171 ⟨aQB,[]⟩ (.nd 170 ⟨aQb,[]⟩ .lf .lf) (.nd 172 ⟨aQM,[]⟩ .lf .lf)) (.nd 176 ⟨aKO,[]⟩ (.nd 175 ⟨aLc,[]⟩ .lf .lf) .lf)))) (.nd 215 ⟨aI7,[]⟩ (.nd 189 ⟨aPK,[]⟩ (.nd 185 ⟨aQ5,[]⟩ (.nd 179 ⟨aPQ,[]⟩ (.nd 178 ⟨aMR,[]⟩ .lf .lf) (.nd 184 ⟨aN6,[]⟩ .lf .lf)) (.nd 187 ⟨aPM,[]⟩ (.nd 186 ⟨aNW,[]⟩ .lf .lf) (.nd 188 ⟨aNd,[]⟩ .lf .lf))) (.nd 193 ⟨aPr,[]⟩ (.nd 191 ⟨aM8,[]⟩ (.nd 190 ⟨aOQ,[]⟩ .lf .lf) (.nd 192 ⟨aQu,[]⟩ .lf .lf)) (.nd 195 ⟨aQP,[]⟩ (.nd 194 ⟨aNk,[]⟩ .lf .lf) .lf))) (.nd 224 ⟨aNI,[]⟩ (.nd 219 ⟨aOJ,[]⟩ (.nd 217 ⟨aKw,[]⟩ (.nd 216 ⟨aJ4,[]⟩ .lf .lf) (.nd 218 ⟨aJ0,[]⟩ .lf .lf)) (.nd 223 ⟨aPN,[]⟩ (.nd 220 ⟨aP7,[]⟩ .lf .lf) .lf)) (.nd 228 ⟨aNv,[]⟩ (.nd 226 ⟨aMY,[]⟩ (.nd 225 ⟨aP2,[]⟩ .lf .lf) (.nd 227 ⟨aO5,[]⟩ .lf .lf)) (.nd 235 ⟨aLF,[]⟩ (.nd 229 ⟨aPU,[]⟩ .lf .lf) .lf))))))
theorem awG:aBW Tryz.prog awT.find:=FT.good fun p hp=>by
  have e:awT.list=[(119,⟨aKq,[]⟩),(57,⟨s57,[]⟩),(31,⟨s31,[]⟩),(22,⟨s22,[]⟩),(14,⟨s14,[]⟩),(10,⟨s10,[(39,5999100200),(39,7999100300)]⟩),(9,⟨s9,[]⟩),(12,⟨s12,[]⟩),(18,⟨s18,[(52,1001101000)]⟩),(15,⟨s15,[]⟩),(20,⟨s20,[]⟩),(28,⟨s28,[]⟩),(25,⟨s25,[(70,1000075),(64,69025100702),(70,81025100703),(66,10)]⟩),(23,⟨s23,[]⟩),(27,⟨s27,[]⟩),(30,⟨s30,[(36,1000041),(36,47025100502),(48,1998104600),(48,53025100503),(50,22),(55,1001100502),(55,1001100503)]⟩),(29,⟨s29,[]⟩),(47,⟨s47,[]⟩),(39,⟨s39,[]⟩),(35,⟨s35,[]⟩),(33,⟨s33,[]⟩),(36,⟨s36,[]⟩),(41,⟨s41,[(42,9)]⟩),(40,⟨s40,[(24,9)]⟩),(45,⟨s45,[(47,5999100200),(47,7999100300)]⟩),(54,⟨s54,[]⟩),(49,⟨s49,[]⟩),(48,⟨s48,[(70,75025100902),(76,86025100903),(72,50)]⟩),(53,⟨s53,[]⟩),(56,⟨s56,[(110,116025101202),(118,124025101203),(115,14),(123,15)]⟩),(55,⟨s55,[]⟩),(85,⟨s85,[(73,6)]⟩),(75,⟨s75,[]⟩),(70,⟨s70,[(80,85025100802),(86,91025100803),(82,11),(88,12)]⟩),(59,⟨s59,[]⟩),(58,⟨s58,[]⟩),(69,⟨s69,[]⟩),(73,⟨s73,[]⟩),(71,⟨s71,[]⟩),(74,⟨s74,[]⟩),(81,⟨s81,[]⟩),(77,⟨s77,[]⟩),(76,⟨s76,[]⟩),(78,⟨s78,[]⟩),(84,⟨s84,[]⟩),(83,⟨s83,[]⟩),(93,⟨s93,[]⟩),(89,⟨s89,[]⟩),(87,⟨s87,[]⟩),(86,⟨s86,[]⟩),(88,⟨s88,[]⟩),(91,⟨s91,[]⟩),(90,⟨s90,[]⟩),(92,⟨s92,[]⟩),(97,⟨s97,[(104,17)]⟩),(95,⟨s95,[(29,1000032),(143,14)]⟩),(94,⟨s94,[]⟩),(96,⟨s96,[]⟩),(116,⟨aJu,[]⟩),(98,⟨s98,[]⟩),(177,⟨aO8,[]⟩),(139,⟨aOt,[]⟩),(130,⟨aNc,[]⟩),(123,⟨aKh,[(26,14)]⟩),(121,⟨aLb,[]⟩),(120,⟨aGK,[]⟩),(122,⟨aJX,[]⟩),(126,⟨aO4,[]⟩),(125,⟨aN3,[]⟩),(127,⟨aQX,[]⟩),(134,⟨aMZ,[]⟩),(132,⟨aNK,[]⟩),(131,⟨aOU,[]⟩),(133,⟨aP6,[]⟩),(138,⟨aQF,[]⟩),(135,⟨aN0,[(28,1000031),(58,1000061)]⟩),(169,⟨aJv,[]⟩),(143,⟨aOH,[]⟩),(141,⟨aQJ,[]⟩),(140,⟨aNB,[(60,76003105009)]⟩),(142,⟨aQe,[]⟩),(145,⟨aP3,[]⟩),(144,⟨aOX,[]⟩),(168,⟨aG2,[]⟩),(174,⟨aKr,[]⟩),(171,⟨aQB,[]⟩),(170,⟨aQb,[]⟩),(172,⟨aQM,[]⟩),(176,⟨aKO,[]⟩),(175,⟨aLc,[]⟩),(215,⟨aI7,[]⟩),(189,⟨aPK,[]⟩),(185,⟨aQ5,[]⟩),(179,⟨aPQ,[]⟩),(178,⟨aMR,[]⟩),(184,⟨aN6,[]⟩),(187,⟨aPM,[]⟩),(186,⟨aNW,[]⟩),(188,⟨aNd,[]⟩),(193,⟨aPr,[]⟩),(191,⟨aM8,[]⟩),(190,⟨aOQ,[]⟩),(192,⟨aQu,[]⟩),(195,⟨aQP,[]⟩),(194,⟨aNk,[]⟩),(224,⟨aNI,[]⟩),(219,⟨aOJ,[]⟩),(217,⟨aKw,[]⟩),(216,⟨aJ4,[]⟩),(218,⟨aJ0,[]⟩),(223,⟨aPN,[]⟩),(220,⟨aP7,[]⟩),(228,⟨aNv,[]⟩),(226,⟨aMY,[]⟩),(225,⟨aP2,[]⟩),(227,⟨aO5,[]⟩),(235,⟨aLF,[]⟩),(229,⟨aPU,[]⟩)]:=by kernel_rfl
  rw [e] at hp
  simp only [List.mem_cons,List.not_mem_nil,or_false] at hp
  rcases hp with rfl|rfl|rfl|rfl|rfl|rfl|rfl|rfl|rfl|rfl|rfl|rfl|rfl|rfl|rfl|rfl|rfl|rfl|rfl|rfl|rfl|rfl|rfl|rfl|rfl|rfl|rfl|rfl|rfl|rfl|rfl|rfl|rfl|rfl|rfl|rfl|rfl|rfl|rfl|rfl|rfl|rfl|rfl|rfl|rfl|rfl|rfl|rfl|rfl|rfl|rfl|rfl|rfl|rfl|rfl|rfl|rfl|rfl|rfl|rfl|rfl|rfl|rfl|rfl|rfl|rfl|rfl|rfl|rfl|rfl|rfl|rfl|rfl|rfl|rfl|rfl|rfl|rfl|rfl|rfl|rfl|rfl|rfl|rfl|rfl|rfl|rfl|rfl|rfl|rfl|rfl|rfl|rfl|rfl|rfl|rfl|rfl|rfl|rfl|rfl|rfl|rfl|rfl|rfl|rfl|rfl|rfl|rfl|rfl|rfl|rfl|rfl|rfl|rfl|rfl|rfl|rfl|rfl
  · exact ⟨_,_,Tryz.func119,aFc,by kernel_rfl⟩
  · exact ⟨_,_,Tryz.func57,aNw,by kernel_rfl⟩
  · exact ⟨_,_,Tryz.func31,aPA,by kernel_rfl⟩
  · exact ⟨_,_,Tryz.func22,aOd,by kernel_rfl⟩
  · exact ⟨_,_,Tryz.func14,aNQ,by kernel_rfl⟩
  · exact ⟨_,_,Tryz.func10,aNa,by kernel_rfl⟩
  · exact ⟨_,_,Tryz.func9,aTw,by kernel_rfl⟩
  · exact ⟨_,_,Tryz.func12,aPC,by kernel_rfl⟩
  · exact ⟨_,_,Tryz.func18,aGM,by kernel_rfl⟩
  · exact ⟨_,_,Tryz.func15,aQK,by kernel_rfl⟩
  · exact ⟨_,_,Tryz.func20,aIt,by kernel_rfl⟩
  · exact ⟨_,_,Tryz.func28,aPs,by kernel_rfl⟩
  · exact ⟨_,_,Tryz.func25,aHN,by kernel_rfl⟩
  · exact ⟨_,_,Tryz.func23,aGp,by kernel_rfl⟩
  · exact ⟨_,_,Tryz.func27,aOL,by kernel_rfl⟩
  · exact ⟨_,_,Tryz.func30,aNo,by kernel_rfl⟩
  · exact ⟨_,_,Tryz.func29,aHZ,by kernel_rfl⟩
  · exact ⟨_,_,Tryz.func47,aH2,by kernel_rfl⟩
  · exact ⟨_,_,Tryz.func39,aDC,by kernel_rfl⟩
  · exact ⟨_,_,Tryz.func35,aNH,by kernel_rfl⟩
  · exact ⟨_,_,Tryz.func33,aQp,by kernel_rfl⟩
  · exact ⟨_,_,Tryz.func36,aM2,by kernel_rfl⟩
  · exact ⟨_,_,Tryz.func41,aGT,by kernel_rfl⟩
  · exact ⟨_,_,Tryz.func40,aIc,by kernel_rfl⟩
  · exact ⟨_,_,Tryz.func45,aGw,by kernel_rfl⟩
  · exact ⟨_,_,Tryz.func54,aRq,by kernel_rfl⟩
  · exact ⟨_,_,Tryz.func49,aHm,by kernel_rfl⟩
  · exact ⟨_,_,Tryz.func48,aG5,by kernel_rfl⟩
  · exact ⟨_,_,Tryz.func53,aOS,by kernel_rfl⟩
  · exact ⟨_,_,Tryz.func56,aQG,by kernel_rfl⟩
  · exact ⟨_,_,Tryz.func55,aNb,by kernel_rfl⟩
  · exact ⟨_,_,Tryz.func85,aPa,by kernel_rfl⟩
  · exact ⟨_,_,Tryz.func75,aHO,by kernel_rfl⟩
  · exact ⟨_,_,Tryz.func70,aIg,by kernel_rfl⟩
  · exact ⟨_,_,Tryz.func59,aNm,by kernel_rfl⟩
  · exact ⟨_,_,Tryz.func58,aPW,by kernel_rfl⟩
  · exact ⟨_,_,Tryz.func69,aIq,by kernel_rfl⟩
  · exact ⟨_,_,Tryz.func73,aHn,by kernel_rfl⟩
  · exact ⟨_,_,Tryz.func71,aIG,by kernel_rfl⟩
  · exact ⟨_,_,Tryz.func74,aHx,by kernel_rfl⟩
  · exact ⟨_,_,Tryz.func81,aOa,by kernel_rfl⟩
  · exact ⟨_,_,Tryz.func77,aCZ,by kernel_rfl⟩
  · exact ⟨_,_,Tryz.func76,aHc,by kernel_rfl⟩
  · exact ⟨_,_,Tryz.func78,aG0,by kernel_rfl⟩
  · exact ⟨_,_,Tryz.func84,aQD,by kernel_rfl⟩
  · exact ⟨_,_,Tryz.func83,aP0,by kernel_rfl⟩
  · exact ⟨_,_,Tryz.func93,aPo,by kernel_rfl⟩
  · exact ⟨_,_,Tryz.func89,aPl,by kernel_rfl⟩
  · exact ⟨_,_,Tryz.func87,aOl,by kernel_rfl⟩
  · exact ⟨_,_,Tryz.func86,aQE,by kernel_rfl⟩
  · exact ⟨_,_,Tryz.func88,aOZ,by kernel_rfl⟩
  · exact ⟨_,_,Tryz.func91,aPx,by kernel_rfl⟩
  · exact ⟨_,_,Tryz.func90,aQC,by kernel_rfl⟩
  · exact ⟨_,_,Tryz.func92,aPz,by kernel_rfl⟩
  · exact ⟨_,_,Tryz.func97,aOG,by kernel_rfl⟩
  · exact ⟨_,_,Tryz.func95,aMS,by kernel_rfl⟩
  · exact ⟨_,_,Tryz.func94,aPj,by kernel_rfl⟩
  · exact ⟨_,_,Tryz.func96,aOg,by kernel_rfl⟩
  · exact ⟨_,_,Tryz.func116,aD3,by kernel_rfl⟩
  · exact ⟨_,_,Tryz.func98,aNs,by kernel_rfl⟩
  · exact ⟨_,_,Tryz.func177,aJB,by kernel_rfl⟩
  · exact ⟨_,_,Tryz.func139,aIL,by kernel_rfl⟩
  · exact ⟨_,_,Tryz.func130,aKM,by kernel_rfl⟩
  · exact ⟨_,_,Tryz.func123,aD1,by kernel_rfl⟩
  · exact ⟨_,_,Tryz.func121,aEz,by kernel_rfl⟩
  · exact ⟨_,_,Tryz.func120,aDS,by kernel_rfl⟩
  · exact ⟨_,_,Tryz.func122,aD8,by kernel_rfl⟩
  · exact ⟨_,_,Tryz.func126,aKs,by kernel_rfl⟩
  · exact ⟨_,_,Tryz.func125,aJr,by kernel_rfl⟩
  · exact ⟨_,_,Tryz.func127,aJj,by kernel_rfl⟩
  · exact ⟨_,_,Tryz.func134,aIO,by kernel_rfl⟩
  · exact ⟨_,_,Tryz.func132,aJc,by kernel_rfl⟩
  · exact ⟨_,_,Tryz.func131,aKF,by kernel_rfl⟩
  · exact ⟨_,_,Tryz.func133,aIQ,by kernel_rfl⟩
  · exact ⟨_,_,Tryz.func138,aIK,by kernel_rfl⟩
  · exact ⟨_,_,Tryz.func135,aJo,by kernel_rfl⟩
  · exact ⟨_,_,Tryz.func169,aEP,by kernel_rfl⟩
  · exact ⟨_,_,Tryz.func143,aJL,by kernel_rfl⟩
  · exact ⟨_,_,Tryz.func141,aKW,by kernel_rfl⟩
  · exact ⟨_,_,Tryz.func140,aJJ,by kernel_rfl⟩
  · exact ⟨_,_,Tryz.func142,aLa,by kernel_rfl⟩
  · exact ⟨_,_,Tryz.func145,aKf,by kernel_rfl⟩
  · exact ⟨_,_,Tryz.func144,aKb,by kernel_rfl⟩
  · exact ⟨_,_,Tryz.func168,aEg,by kernel_rfl⟩
  · exact ⟨_,_,Tryz.func174,aER,by kernel_rfl⟩
  · exact ⟨_,_,Tryz.func171,aJl,by kernel_rfl⟩
  · exact ⟨_,_,Tryz.func170,aIP,by kernel_rfl⟩
  · exact ⟨_,_,Tryz.func172,aJG,by kernel_rfl⟩
  · exact ⟨_,_,Tryz.func176,aEf,by kernel_rfl⟩
  · exact ⟨_,_,Tryz.func175,aED,by kernel_rfl⟩
  · exact ⟨_,_,Tryz.func215,aEv,by kernel_rfl⟩
  · exact ⟨_,_,Tryz.func189,aLv,by kernel_rfl⟩
  · exact ⟨_,_,Tryz.func185,aJV,by kernel_rfl⟩
  · exact ⟨_,_,Tryz.func179,aJk,by kernel_rfl⟩
  · exact ⟨_,_,Tryz.func178,aKA,by kernel_rfl⟩
  · exact ⟨_,_,Tryz.func184,aK8,by kernel_rfl⟩
  · exact ⟨_,_,Tryz.func187,aKl,by kernel_rfl⟩
  · exact ⟨_,_,Tryz.func186,aKu,by kernel_rfl⟩
  · exact ⟨_,_,Tryz.func188,aLq,by kernel_rfl⟩
  · exact ⟨_,_,Tryz.func193,aJP,by kernel_rfl⟩
  · exact ⟨_,_,Tryz.func191,aIN,by kernel_rfl⟩
  · exact ⟨_,_,Tryz.func190,aKV,by kernel_rfl⟩
  · exact ⟨_,_,Tryz.func192,aLd,by kernel_rfl⟩
  · exact ⟨_,_,Tryz.func195,aJa,by kernel_rfl⟩
  · exact ⟨_,_,Tryz.func194,aLh,by kernel_rfl⟩
  · exact ⟨_,_,Tryz.func224,aIU,by kernel_rfl⟩
  · exact ⟨_,_,Tryz.func219,aKQ,by kernel_rfl⟩
  · exact ⟨_,_,Tryz.func217,aEM,by kernel_rfl⟩
  · exact ⟨_,_,Tryz.func216,aEc,by kernel_rfl⟩
  · exact ⟨_,_,Tryz.func218,aEh,by kernel_rfl⟩
  · exact ⟨_,_,Tryz.func223,aKp,by kernel_rfl⟩
  · exact ⟨_,_,Tryz.func220,aLi,by kernel_rfl⟩
  · exact ⟨_,_,Tryz.func228,aLB,by kernel_rfl⟩
  · exact ⟨_,_,Tryz.func226,aK6,by kernel_rfl⟩
  · exact ⟨_,_,Tryz.func225,aJ3,by kernel_rfl⟩
  · exact ⟨_,_,Tryz.func227,aJx,by kernel_rfl⟩
  · exact ⟨_,_,Tryz.func235,aEF,by kernel_rfl⟩
  · exact ⟨_,_,Tryz.func229,aLo,by kernel_rfl⟩
def awQ:jJ:=(orP vM (orP xC (orP (sH 999983) uU)))
theorem aQ4:fU Tryz.prog awQ:=(aC0 xH (aC0 xM (aC0 (xA 999983) xI)))
def awA:PrimA:=(orA (orA nM lI) mD)
theorem aPe:eG Tryz.prog awA:=(aHt (aHt aAt tF) vQ)
theorem fA {l:List gW} (hl: ∀ p∈l,aS Tryz.prog p.1 p.2.1 p.2.2) {f:Nat} {args:List V} {v:V} (hp:cM args=true) (h:(sV awQ awT.find (zN awQ (orB (aTu l) awA) awT.find 400) 0 false f args H0).map (·.1)=some v):aS Tryz.prog f args v:=aAJ aQ4 (aQN (aJe hl) aPe) awG 400 hp h
def aH4:gW:=(10,[(.agg [(iV 2),(iV 0),gAq,gCq]),(.sl [[(iV 0)],[(iV 1)]])],(.tup [(.agg [(iV 2),(iV 0),gAq,gBq]),(iV 0)]))
theorem aES:aS Tryz.prog aH4.1 aH4.2.1 aH4.2.2:=fA (l:=[]) nFq rfl (by kernel_rfl)
def aF4:gW:=(54,[(.agg [(iV 2),(.sl [[(.bool true),.nilsl,.nilsl,.nilsl,.nilsl]])]),(.agg [(iV 2),.nilsl])],(.tup [(.agg [(iV 2),(.sl [[(.bool true),.nilsl,.nilsl,.nilsl,.nilsl]])]),(.sl [[(.sl [[(iV 0)]])],[(.sl [[(iV 1)]])]]),(.bool false),(iV 0)]))
theorem aAN:aS Tryz.prog aF4.1 aF4.2.1 aF4.2.2:=fA (l:=[]) nFq rfl (by kernel_rfl)
def aFL:gW:=(56,[(.agg [(iV 2),(.sl [[(.bool true),.nilsl,.nilsl,.nilsl,.nilsl]])]),(.agg [(iV 2),(.sl [[(.sl [[(iV 0)]]),(.sl [[(iV 257)]])],[(.sl [[(iV 1)]]),(.sl [[(iV 0)]])]])])],(.tup [(.agg [(iV 2),(iV 0),(.sl [[(.sl [[(iV 0)],[(iV 0)]])]]),(.sl [[(.sl [[(iV 257)],[(iV 0)]])]]),(.sl [[(.sl [])]])]),(iV 0)]))
theorem aA1:aS Tryz.prog aFL.1 aFL.2.1 aFL.2.2:=fA (l:=[]) nFq rfl (by kernel_rfl)
def aFO:gW:=(54,[(.agg [(iV 2),(.sl [[(.bool false),.nilsl,(.sl [[(iV 1)]]),(.sl [[(.sl [[(iV 0)]])],[(.sl [[(iV 512)]])]]),(.sl [[(iV 1)],[(iV 2)]])],[(.bool true),(.sl []),(.sl []),(.sl []),(.sl [])],[(.bool true),(.sl [[(iV 0)]]),.nilsl,.nilsl,.nilsl]])]),(.agg [(iV 2),(.sl [[(.sl [[(iV 1)],[(iV 1)]]),(.sl [[(iV 0)],[(iV 0)]])],[(.sl [[(iV 0)],[(iV 0)],[(iV 1)]]),(.sl [[(iV 257)],[(iV 257)],[(iV 512)]])],[(.sl [[(iV 0)],[(iV 1)],[(iV 1)]]),(.sl [[(iV 257)],[(iV 512)],[(iV 0)]])]])])],(.tup [(.agg [(iV 2),(.sl [[(.bool false),.nilsl,(.sl [[(iV 1)]]),(.sl [[(.sl [[(iV 0)]])],[(.sl [[(iV 512)]])]]),(.sl [[(iV 1)],[(iV 2)]])],[(.bool true),(.sl []),(.sl []),(.sl []),(.sl [])],[(.bool true),(.sl [[(iV 0)]]),.nilsl,.nilsl,.nilsl]])]),.nilsl,(.bool true),(iV 0)]))
theorem aBg:aS Tryz.prog aFO.1 aFO.2.1 aFO.2.2:=fA (l:=[]) nFq rfl (by kernel_rfl)
def aBB:gW:=(55,[(.agg [(iV 2),(iV 0),gAq,gBq]),(.agg [(iV 2),(.sl [[(.sl [[(iV 0)]]),(.sl [[(iV 257)]])],[(.sl [[(iV 1)]]),(.sl [[(iV 0)]])]])]),(.sl [[(.sl [[(iV 0)],[(iV 1)]])]])],(.tup [(.agg [(iV 2),(.sl [[(.sl [[(iV 1)]]),(.sl [[(iV 0)]])],[(.sl [[(iV 0)],[(iV 1)]]),(.sl [[(iV 257)],[(iV 512)]])]])]),(iV 0)]))
theorem pI:aS Tryz.prog aBB.1 aBB.2.1 aBB.2.2:=fA (l:=[]) nFq rfl (by kernel_rfl)
def aH9:gW:=(12,[(.agg [(iV 2),(iV 0),gAq,gBq])],(.tup [(.agg [(iV 2),(iV 0),gAq,gCq]),(iV 0)]))
theorem aEH:aS Tryz.prog aH9.1 aH9.2.1 aH9.2.2:=fA (l:=[]) nFq rfl (by kernel_rfl)
def aCf:gW:=(55,[(.agg [(iV 2),(iV 0),gAq,gBq]),(.agg [(iV 2),.nilsl]),(.sl [[(.sl [[(iV 0)]])],[(.sl [[(iV 1)]])]])],(.tup [(.agg [(iV 2),(.sl [[(.sl [[(iV 0)]]),(.sl [[(iV 257)]])],[(.sl [[(iV 1)]]),(.sl [[(iV 0)]])]])]),(iV 0)]))
theorem oX:aS Tryz.prog aCf.1 aCf.2.1 aCf.2.2:=fA (l:=[]) nFq rfl (by kernel_rfl)
def aGi:gW:=(57,[(.agg [(iV 2),(iV 0),(.sl [[(.sl [[(iV 0)],[(iV 0)]])]]),(.sl [[(.sl [[(iV 257)],[(iV 0)]])]])]),(.agg [(iV 2),(iV 0),gAq,gBq])],(.tup [(.sl [[(iV 0)],[(iV 1)]]),(.bool true),(iV 0)]))
theorem aAU:aS Tryz.prog aGi.1 aGi.2.1 aGi.2.2:=fA (l:=[]) nFq rfl (by kernel_rfl)
def aCw:gW:=(55,[(.agg [(iV 2),(iV 0),gAq,gBq]),(.agg [(iV 2),(.sl [[(.sl [[(iV 1)],[(iV 1)]]),(.sl [[(iV 0)],[(iV 0)]])],[(.sl [[(iV 0)],[(iV 0)],[(iV 1)]]),(.sl [[(iV 257)],[(iV 257)],[(iV 512)]])],[(.sl [[(iV 0)],[(iV 1)],[(iV 1)]]),(.sl [[(iV 257)],[(iV 512)],[(iV 0)]])]])]),.nilsl],(.tup [(.agg [(iV 2),(.sl [[(.sl [[(iV 1)],[(iV 1)]]),(.sl [[(iV 0)],[(iV 0)]])],[(.sl [[(iV 0)],[(iV 0)],[(iV 1)]]),(.sl [[(iV 257)],[(iV 257)],[(iV 512)]])],[(.sl [[(iV 0)],[(iV 1)],[(iV 1)]]),(.sl [[(iV 257)],[(iV 512)],[(iV 0)]])]])]),(iV 0)]))
theorem pU:aS Tryz.prog aCw.1 aCw.2.1 aCw.2.2:=fA (l:=[]) nFq rfl (by kernel_rfl)
def aHw:gW:=(96,[(.agg [(iV 2),(iV 0),(.sl [[(.sl [[(iV 0)],[(iV 0)]])]]),(.sl [[(.sl [[(iV 257)],[(iV 0)]])]]),(.sl [[(.sl [])]])]),(.agg [(iV 2),(.sl [[(.sl [[(iV 1)]]),(.sl [[(iV 0)]])],[(.sl [[(iV 0)],[(iV 1)]]),(.sl [[(iV 257)],[(iV 512)]])]])]),(.sl [[(iV 0)],[(iV 1)]])],(.tup [(.agg [(.sl []),(iV 0),(.sl [[(iV 1)]])]),.nilsl,(iV 0)]))
theorem aEi:aS Tryz.prog aHw.1 aHw.2.1 aHw.2.2:=fA (l:=[]) nFq rfl (by kernel_rfl)
def aFg:gW:=(36,[(.agg [(iV 2),(iV 0),gAq,gCq])],(.tup [(.sl [[(iV 0)],[(iV 1)]]),(.sl [[.nilsl],[(.sl [[(iV 0)]])]]),(iV 0)]))
theorem aHk:aS Tryz.prog aFg.1 aFg.2.1 aFg.2.2:=fA (l:=[]) nFq rfl (by kernel_rfl)
def zL:gW:=(54,[(.agg [(iV 2),(.sl [[(.bool true),.nilsl,.nilsl,.nilsl,.nilsl]])]),(.agg [(iV 2),(.sl [[(.sl [[(iV 0)]]),(.sl [[(iV 257)]])],[(.sl [[(iV 1)]]),(.sl [[(iV 0)]])]])])],(.tup [(.agg [(iV 2),(.sl [[(.bool true),.nilsl,.nilsl,.nilsl,.nilsl]])]),.nilsl,(.bool true),(iV 0)]))
theorem vS:aS Tryz.prog zL.1 zL.2.1 zL.2.2:=fA (l:=[]) nFq rfl (by kernel_rfl)
def yN:gW:=(54,[(.agg [(iV 2),(.sl [[(.bool false),.nilsl,(.sl [[(iV 1)]]),(.sl [[(.sl [[(iV 0)]])],[(.sl [[(iV 512)]])]]),(.sl [[(iV 1)],[(iV 2)]])],[(.bool true),(.sl []),(.sl []),(.sl []),(.sl [])],[(.bool true),(.sl [[(iV 0)]]),.nilsl,.nilsl,.nilsl]])]),(.agg [(iV 2),(.sl [[(.sl [[(iV 1)]]),(.sl [[(iV 0)]])],[(.sl [[(iV 0)],[(iV 1)]]),(.sl [[(iV 257)],[(iV 512)]])]])])],(.tup [(.agg [(iV 2),(.sl [[(.bool false),.nilsl,(.sl [[(iV 1)]]),(.sl [[(.sl [[(iV 0)]])],[(.sl [[(iV 512)]])]]),(.sl [[(iV 1)],[(iV 2)]])],[(.bool true),(.sl []),(.sl []),(.sl []),(.sl [])],[(.bool true),(.sl [[(iV 0)]]),.nilsl,.nilsl,.nilsl]])]),(.sl [[(.sl [[(iV 1)],[(iV 1)]])],[(.sl [[(iV 0)],[(iV 0)],[(iV 1)]])],[(.sl [[(iV 0)],[(iV 1)],[(iV 1)]])]]),(.bool false),(iV 0)]))
theorem uG:aS Tryz.prog yN.1 yN.2.1 yN.2.2:=fA (l:=[]) nFq rfl (by kernel_rfl)
def yD:gW:=(56,[(.agg [(iV 2),(.sl [[(.bool false),.nilsl,(.sl [[(iV 1)]]),(.sl [[(.sl [[(iV 0)]])],[(.sl [[(iV 512)]])]]),(.sl [[(iV 1)],[(iV 2)]])],[(.bool true),(.sl []),(.sl []),(.sl []),(.sl [])],[(.bool true),(.sl [[(iV 0)]]),.nilsl,.nilsl,.nilsl]])]),(.agg [(iV 2),(.sl [[(.sl [[(iV 1)],[(iV 1)]]),(.sl [[(iV 0)],[(iV 0)]])],[(.sl [[(iV 0)],[(iV 0)],[(iV 1)]]),(.sl [[(iV 257)],[(iV 257)],[(iV 512)]])],[(.sl [[(iV 0)],[(iV 1)],[(iV 1)]]),(.sl [[(iV 257)],[(iV 512)],[(iV 0)]])]])])],(.tup [(.agg [(iV 2),(iV 0),gAq,gBq,(.sl [[(.sl [])],[(.sl [[(iV 0)]])]])]),(iV 0)]))
theorem xG:aS Tryz.prog yD.1 yD.2.1 yD.2.2:=fA (l:=[]) nFq rfl (by kernel_rfl)
def aBy:gW:=(97,[(.agg [(iV 2),(.sl [[(.bool true),.nilsl,.nilsl,.nilsl,.nilsl]])]),(.agg [(iV 2),(.sl [[(.sl [[(iV 1)]]),(.sl [[(iV 0)]])],[(.sl [[(iV 0)],[(iV 1)]]),(.sl [[(iV 257)],[(iV 512)]])]])]),(.agg [(.sl []),(iV 0),(.sl [[(iV 1)]])])],(.tup [(.agg [(iV 2),(.sl [[(.bool false),.nilsl,(.sl [[(iV 1)]]),(.sl [[(.sl [[(iV 0)]])],[(.sl [[(iV 512)]])]]),(.sl [[(iV 1)],[(iV 2)]])],[(.bool true),(.sl []),(.sl []),(.sl []),(.sl [])],[(.bool true),(.sl [[(iV 0)]]),.nilsl,.nilsl,.nilsl]])]),.nilsl,(iV 0)]))
theorem aB2:aS Tryz.prog aBy.1 aBy.2.1 aBy.2.2:=fA (l:=[]) nFq rfl (by kernel_rfl)
def zB:gW:=(53,[(iV 2)],(.tup [(.agg [(iV 2),(.sl [[(.bool true),.nilsl,.nilsl,.nilsl,.nilsl]])]),(iV 0)]))
theorem uN:aS Tryz.prog zB.1 zB.2.1 zB.2.2:=fA (l:=[]) nFq rfl (by kernel_rfl)
def sS:gW:=(55,[(.agg [(iV 2),(iV 0),gAq,gBq]),(.agg [(iV 2),(.sl [[(.sl [[(iV 0)]]),(.sl [[(iV 257)]])],[(.sl [[(iV 1)]]),(.sl [[(iV 0)]])]])]),.nilsl],(.tup [(.agg [(iV 2),(.sl [[(.sl [[(iV 0)]]),(.sl [[(iV 257)]])],[(.sl [[(iV 1)]]),(.sl [[(iV 0)]])]])]),(iV 0)]))
theorem mH:aS Tryz.prog sS.1 sS.2.1 sS.2.2:=fA (l:=[]) nFq rfl (by kernel_rfl)
def sQ:gW:=(55,[(.agg [(iV 2),(iV 0),gAq,gBq]),(.agg [(iV 2),(.sl [[(.sl [[(iV 1)]]),(.sl [[(iV 0)]])],[(.sl [[(iV 0)],[(iV 1)]]),(.sl [[(iV 257)],[(iV 512)]])]])]),(.sl [[(.sl [[(iV 1)],[(iV 1)]])],[(.sl [[(iV 0)],[(iV 0)],[(iV 1)]])],[(.sl [[(iV 0)],[(iV 1)],[(iV 1)]])]])],(.tup [(.agg [(iV 2),(.sl [[(.sl [[(iV 1)],[(iV 1)]]),(.sl [[(iV 0)],[(iV 0)]])],[(.sl [[(iV 0)],[(iV 0)],[(iV 1)]]),(.sl [[(iV 257)],[(iV 257)],[(iV 512)]])],[(.sl [[(iV 0)],[(iV 1)],[(iV 1)]]),(.sl [[(iV 257)],[(iV 512)],[(iV 0)]])]])]),(iV 0)]))
theorem mK:aS Tryz.prog sQ.1 sQ.2.1 sQ.2.2:=fA (l:=[]) nFq rfl (by kernel_rfl)
def yX:gW:=(57,[(.agg [(iV 2),(iV 0),gAq,gBq]),(.agg [(iV 2),(iV 0),gAq,gBq])],(.tup [.nilsl,(.bool false),(iV 0)]))
theorem xE:aS Tryz.prog yX.1 yX.2.1 yX.2.2:=fA (l:=[]) nFq rfl (by kernel_rfl)
def wY:gW:=(18,[(.agg [(iV 2),(iV 0),gAq,gCq]),(.sl [[(.sl [[(iV 0)]])],[(.sl [[(iV 1)]])]])],(.tup [(.sl [[(iV 0)],[(iV 1)]]),(.bool true),(iV 0)]))
theorem qB:aS Tryz.prog wY.1 wY.2.1 wY.2.2:=fA (l:=[aBB,aCf,aCw,aHw,aBy,sS,sQ]) (fun p hp=>by
  simp only [List.mem_cons,List.not_mem_nil,or_false] at hp
  rcases hp with rfl|rfl|rfl|rfl|rfl|rfl|rfl
  · exact pI
  · exact oX
  · exact pU
  · exact aEi
  · exact aB2
  · exact mH
  · exact mK) rfl (by kernel_rfl)
def yS:gW:=(58,[(.agg [(iV 2),(.sl [[(.bool true),.nilsl,.nilsl,.nilsl,.nilsl]]),(iV 2),(.sl [[(.sl [[(iV 0)]]),(.sl [[(iV 257)]])],[(.sl [[(iV 1)]]),(.sl [[(iV 0)]])]])]),(.agg [(iV 2),(iV 0),gAq,gBq]),(.agg [(iV 2),(iV 0),(.sl [[(.sl [[(iV 0)],[(iV 0)]])]]),(.sl [[(.sl [[(iV 257)],[(iV 0)]])]]),(.sl [[(.sl [])]])]),(.sl [[(iV 0)],[(iV 1)]])],(.tup [(.agg [(iV 2),(.sl [[(.bool false),.nilsl,(.sl [[(iV 1)]]),(.sl [[(.sl [[(iV 0)]])],[(.sl [[(iV 512)]])]]),(.sl [[(iV 1)],[(iV 2)]])],[(.bool true),(.sl []),(.sl []),(.sl []),(.sl [])],[(.bool true),(.sl [[(iV 0)]]),.nilsl,.nilsl,.nilsl]]),(iV 2),(.sl [[(.sl [[(iV 1)]]),(.sl [[(iV 0)]])],[(.sl [[(iV 0)],[(iV 1)]]),(.sl [[(iV 257)],[(iV 512)]])]])]),(iV 0)]))
theorem wL:aS Tryz.prog yS.1 yS.2.1 yS.2.2:=fA (l:=[aBB,aCf,aCw,aHw,aBy,sS,sQ]) (fun p hp=>by
  simp only [List.mem_cons,List.not_mem_nil,or_false] at hp
  rcases hp with rfl|rfl|rfl|rfl|rfl|rfl|rfl
  · exact pI
  · exact oX
  · exact pU
  · exact aEi
  · exact aB2
  · exact mH
  · exact mK) rfl (by kernel_rfl)
def aE0:gW:=(20,[(.agg [(iV 2),(iV 0),gAq,gCq]),(.sl [[(.sl [[(iV 0)]])],[(.sl [[(iV 1)]])]])],(.tup [.nilsl,(iV 15)]))
theorem aGG:aS Tryz.prog aE0.1 aE0.2.1 aE0.2.2:=fA (l:=[aF4,aFL,aFO,aBB,aCf,aGi,aCw,zL,yN,yD,zB,sS,sQ,yX,wY,yS]) (fun p hp=>by
  simp only [List.mem_cons,List.not_mem_nil,or_false] at hp
  rcases hp with rfl|rfl|rfl|rfl|rfl|rfl|rfl|rfl|rfl|rfl|rfl|rfl|rfl|rfl|rfl|rfl
  · exact aAN
  · exact aA1
  · exact aBg
  · exact pI
  · exact oX
  · exact aAU
  · exact pU
  · exact vS
  · exact uG
  · exact xG
  · exact uN
  · exact mH
  · exact mK
  · exact xE
  · exact qB
  · exact wL) rfl (by kernel_rfl)
def aFe:gW:=(35,[(.agg [(iV 2),(iV 0),gAq,gBq])],(.tup [(.agg [(iV 2),(iV 0),gAq,gBq,(.sl [[(.sl [])],[(.sl [[(iV 0)]])]])]),(.agg [(iV 2),(.sl [[(.sl [[(iV 1)],[(iV 1)]]),(.sl [[(iV 0)],[(iV 0)]])],[(.sl [[(iV 0)],[(iV 0)],[(iV 1)]]),(.sl [[(iV 257)],[(iV 257)],[(iV 512)]])],[(.sl [[(iV 0)],[(iV 1)],[(iV 1)]]),(.sl [[(iV 257)],[(iV 512)],[(iV 0)]])]])]),(iV 2),(iV 0)]))
theorem aHf:aS Tryz.prog aFe.1 aFe.2.1 aFe.2.2:=fA (l:=[aF4,aFL,aFO,aBB,aCf,aGi,aCw,zL,yN,yD,zB,sS,sQ,yX,wY,yS]) (fun p hp=>by
  simp only [List.mem_cons,List.not_mem_nil,or_false] at hp
  rcases hp with rfl|rfl|rfl|rfl|rfl|rfl|rfl|rfl|rfl|rfl|rfl|rfl|rfl|rfl|rfl|rfl
  · exact aAN
  · exact aA1
  · exact aBg
  · exact pI
  · exact oX
  · exact aAU
  · exact pU
  · exact vS
  · exact uG
  · exact xG
  · exact uN
  · exact mH
  · exact mK
  · exact xE
  · exact qB
  · exact wL) rfl (by kernel_rfl)
def aD4:gW:=(20,[(.agg [(iV 2),(iV 0),gAq,gCq]),(.sl [[(.sl [[(iV 0)],[(iV 1)]])]])],(.tup [(.sl [[(iV 2),(iV 0),gAq,gCq]]),(iV 0)]))
theorem aID:aS Tryz.prog aD4.1 aD4.2.1 aD4.2.2:=fA (l:=[aF4,aFL,aFO,aBB,aCf,aGi,aCw,zL,yN,yD,zB,sS,sQ,yX,wY,yS]) (fun p hp=>by
  simp only [List.mem_cons,List.not_mem_nil,or_false] at hp
  rcases hp with rfl|rfl|rfl|rfl|rfl|rfl|rfl|rfl|rfl|rfl|rfl|rfl|rfl|rfl|rfl|rfl
  · exact aAN
  · exact aA1
  · exact aBg
  · exact pI
  · exact oX
  · exact aAU
  · exact pU
  · exact vS
  · exact uG
  · exact xG
  · exact uN
  · exact mH
  · exact mK
  · exact xE
  · exact qB
  · exact wL) rfl (by kernel_rfl)
def aDY:gW:=(15,[(.agg [(iV 2),(iV 0),gAq,gCq]),(.sl [[(iV 0)],[(iV 1)]])],(.tup [(.agg [(iV 2),(iV 0),gAq,gCq,(.sl [[.nilsl],[(.sl [[(iV 0)]])]])]),(iV 3),(iV 0)]))
theorem aIz:aS Tryz.prog aDY.1 aDY.2.1 aDY.2.2:=fA (l:=[aH4,aH9,aFg,aFe]) (fun p hp=>by
  simp only [List.mem_cons,List.not_mem_nil,or_false] at hp
  rcases hp with rfl|rfl|rfl|rfl
  · exact aES
  · exact aEH
  · exact aHk
  · exact aHf) rfl (by kernel_rfl)
theorem dV:aS Tryz.prog 9 [] (.bool true):=fA (l:=[aH4,aH9,wY,aE0,aD4,aDY]) (fun p hp=>by
  simp only [List.mem_cons,List.not_mem_nil,or_false] at hp
  rcases hp with rfl|rfl|rfl|rfl|rfl|rfl
  · exact aES
  · exact aEH
  · exact qB
  · exact aGG
  · exact aID
  · exact aIz) rfl (by kernel_rfl)
theorem gI (m:M):aS Tryz.prog 29 [(V.agg [(iV m.i),(iV m.s),(aD m.nx),(aD m.ot)])] (iV (aV m)):=by
 refine pW Tryz.func29 aHZ fun hB=>?_
 unfold s29
 dsimp only
 refine W_r (eU (i:=1) (n:=0) (m:=4) (cs:=[(iV m.i),(iV m.s),(aD m.nx),(aD m.ot)]) rfl (cVq rfl) rfl rfl rfl (aA rfl (R_e (W_r (bR rfl rfl (bD rfl rfl rfl rfl (bI rfl ?_)))))))
 refine aA rfl (R_e (aE fun Q1 n1 x1 y1 z1=>(W_r (bR rfl rfl (bD rfl rfl rfl rfl (bO rfl rfl (aA rfl ?_)))))))
 refine cC 4 (fun T H=>T 1=(mPq 1)∧T 3=(iV ((m.nx.length:Nat):Int))∧T 19=(V.bool (decide ((m.i < (1:Int))∨((64:Int) < m.i))))∧H 1=(bMq m)∧True) ?_ ?_
 ·
  by_cases g2:m.i < (1:Int)
  ·
   refine G_n (edT g2 rfl) (G_n (edT g2 rfl) (G_n (edT g2 rfl) (bZ (edT g2 rfl) rfl ?_)))
   exact ⟨rfl,rfl,(eQ g2),rfl,trivial⟩
  ·
   refine aT (edF g2 rfl) (bR rfl rfl (aT (edF g2 rfl) (bD rfl rfl rfl rfl (aT (edF g2 rfl) (jV rfl rfl (cD (edF g2 rfl) rfl ?_))))))
   exact ⟨rfl,rfl,(eO g2),rfl,trivial⟩
 intro T H ⟨t1,t3,t19,h1,_⟩
 refine aA t19 (R_e ?_)
 refine kI rfl (fun c3=>?_) fun c3=>?_
 ·
  refine W_r (aA rfl (R_e (bH (y1 _ _ ?_))))
  refine bS (rVq (iV 2)) (aW ?_)
  · rw [aV,if_pos (by omega)]
 refine W_r (aA t3 (gT rfl rfl (aA rfl (R_e ?_))))
 refine kI rfl (fun c4=>?_) fun c4=>?_
 ·
  refine W_r (aA rfl (R_e (bH (y1 _ _ ?_))))
  refine bS (rVq (iV 19)) (aW ?_)
  · rw [aV,if_neg (by omega),if_pos (by omega)]
 refine W_r (aA t3 (jV rfl rfl (aA rfl (R_e ?_))))
 refine kI rfl (fun c5=>?_) fun c5=>?_
 ·
  refine W_r (aA rfl (R_e (bH (y1 _ _ ?_))))
  refine bS (rVq (iV 11)) (aW ?_)
  · rw [aV,if_neg (by omega),if_neg (by omega),if_pos (by omega)]
 refine W_r (bR t1 h1 (bD rfl h1 rfl rfl (bO rfl rfl (aA rfl ?_))))
 refine cC 5 (fun T H=>T 1=(mPq 1)∧T 3=(iV ((m.nx.length:Nat):Int))∧T 35=(V.bool (decide ((m.s < (0:Int))∨(((m.nx.length:Nat):Int)≤m.s))))∧H 1=(bMq m)∧True) ?_ ?_
 ·
  by_cases g6:m.s < (0:Int)
  ·
   refine G_n (edT g6 rfl) (G_n (edT g6 rfl) (G_n (edT g6 rfl) (G_n (edT g6 rfl) (bZ (edT g6 rfl) rfl ?_))))
   exact ⟨t1,t3,(eQ g6),h1,trivial⟩
  ·
   refine aT (edF g6 rfl) (bR t1 h1 (aT (edF g6 rfl) (bD rfl h1 rfl rfl (aT (edF g6 rfl) (aA t3 (aT (edF g6 rfl) (mM rfl rfl ?_)))))))
   refine cD (edF g6 rfl) rfl ?_
   exact ⟨t1,t3,(eO g6),h1,trivial⟩
 intro T H ⟨t1,t3,t35,h1,_⟩
 refine aA t35 (R_e ?_)
 refine kI rfl (fun c7=>?_) fun c7=>?_
 ·
  refine W_r (aA rfl (R_e (bH (y1 _ _ ?_))))
  refine bS (rVq (iV 2)) (aW ?_)
  · rw [aV,if_neg (by omega),if_neg (by omega),if_neg (by omega),if_pos (by omega)]
 refine W_r (bR t1 h1 (bD rfl h1 rfl rfl (bI rfl (aA t3 (fB rfl rfl (aA rfl (R_e ?_)))))))
 refine kI rfl (fun c8=>?_) fun c8=>?_
 ·
  refine W_r (aA rfl (R_e (bH (y1 _ _ ?_))))
  refine bS (rVq (iV 1)) (aW ?_)
  · rw [aV,if_neg (by omega),if_neg (by omega),if_neg (by omega),if_neg (by omega),if_pos (by omega)]
 refine fK (n1 _ _ (.done (aB (W_r (aA t3 (aA rfl (R_e ?_)))))))
 refine aE fun Q9 n9 x9 y9 z9=>?_
 refine bP (fun mm T H=> ∃ (k:Nat),mm=m.nx.length - k∧T 1=(mPq 1)∧T 3=(iV ((m.nx.length:Nat):Int))∧T 42=(iV ((m.nx.length:Nat):Int))∧T 43=(iV ((k:Nat):Int))∧H 1=(bMq m)∧(k≤m.nx.length)∧(1≤m.i∧m.i≤64∧0 < m.nx.length∧m.nx.length≤128∧m.ot.length=m.nx.length)∧(aV m=fe (wT m) k (m.nx.length - k))) ?_ ?_
 ·
  refine ⟨_,0,rfl,t1,t3,rfl,(eTq (rVq (iV 0)) rfl),h1,?_,?_,?_⟩
  · omega
  · omega
  · rw [aV,if_neg (by omega),if_neg (by omega),if_neg (by omega),if_neg (by omega),if_neg (by omega)]; rfl
 intro mm T H ⟨k,hmm,t1,t3,t42,t43,h1,hk,hv,hc⟩ Q10 p110 p210 p310
 unfold aLS
 refine W_r (bO t43 t42 (R_e ?_))
 refine aJ rfl (fun c11=>?_) fun c11=>?_
 ·
  refine aG (aE fun Q12 n12 x12 y12 z12=>(W_r (aA t43 (aA rfl (R_e (aB (W_r ?_)))))))
  refine bR t1 h1 (bD rfl h1 rfl rfl (aA rfl (bY (i:=k) (rVq (aD m.nx)) (rNq k) (by omega) rfl (aI rfl rfl (bI rfl (bR t1 h1 (bD rfl h1 rfl rfl ?_)))))))
  refine fB rfl rfl (aA rfl ?_)
  refine cC 10 (fun T H=>T 1=(mPq 1)∧T 3=(iV ((m.nx.length:Nat):Int))∧T 4=(iV ((k:Nat):Int))∧T 42=(iV ((m.nx.length:Nat):Int))∧T 43=(iV ((k:Nat):Int))∧T 65=(V.bool (decide (((((nth m.nx k).length:Nat):Int)≠m.i)∨((((nth m.ot k).length:Nat):Int)≠m.i))))∧H 1=(bMq m)∧True) ?_ ?_
  ·
   by_cases g13:(((nth m.nx k).length:Nat):Int)≠m.i
   ·
    refine G_n (edT g13 rfl) (G_n (edT g13 rfl) (G_n (edT g13 rfl) (G_n (edT g13 rfl) (G_n (edT g13 rfl) (G_n (edT g13 rfl) (G_n (edT g13 rfl) (G_n (edT g13 rfl) ?_)))))))
    refine G_n (edT g13 rfl) (bZ (edT g13 rfl) rfl ?_)
    exact ⟨t1,t3,rfl,t42,t43,(eQ g13),h1,trivial⟩
   ·
    refine aT (edF g13 rfl) (bR t1 h1 (aT (edF g13 rfl) (bD rfl h1 rfl rfl (aT (edF g13 rfl) (aA rfl (aT (edF g13 rfl) (bY (i:=k) (rVq (aD m.ot)) (rNq k) (by omega) rfl ?_)))))))
    refine aT (edF g13 rfl) (aI rfl rfl (aT (edF g13 rfl) (bI rfl (aT (edF g13 rfl) (bR t1 h1 (aT (edF g13 rfl) (bD rfl h1 rfl rfl ?_)))))))
    refine aT (edF g13 rfl) (fB rfl rfl (cD (edF g13 rfl) rfl ?_))
    exact ⟨t1,t3,rfl,t42,t43,(eO g13),h1,trivial⟩
  intro T H ⟨t1,t3,t4,t42,t43,t65,h1,_⟩
  refine R_e ?_
  refine aJ t65 (fun c14=>?_) fun c14=>?_
  ·
   refine aB (W_r (aA rfl (R_e (bC (y12 _ _ (p210 _ _ (y9 _ _ ?_)))))))
   refine bS (rVq (iV 1)) (aW ?_)
   · rw [hc,aDH (by rw [wT,if_pos (by omega)]; decide) (by omega),wT,if_pos (by omega)]
  refine aG (W_r (bR t1 h1 (bD rfl h1 rfl rfl (aA rfl (R_e (kA fun Q15 n15 x15 y15 z15=>?_))))))
  refine bP (fun mm T H=> ∃ (j:Nat),mm=m.i.toNat - j∧T 1=(mPq 1)∧T 3=(iV ((m.nx.length:Nat):Int))∧T 4=(iV ((k:Nat):Int))∧T 42=(iV ((m.nx.length:Nat):Int))∧T 43=(iV ((k:Nat):Int))∧T 67=(iV m.i)∧T 68=(iV ((j:Nat):Int))∧H 1=(bMq m)∧(j≤m.i.toNat)∧(((nth m.nx k).length:Int)=m.i∧((nth m.ot k).length:Int)=m.i)∧(wT m k=fe (aAT m k) j (m.i.toNat - j))) ?_ ?_
  ·
   refine ⟨_,0,rfl,t1,t3,t4,t42,t43,rfl,(eTq (rVq (iV 0)) rfl),h1,?_,?_,?_⟩
   · omega
   · omega
   · rw [wT,if_neg (by omega)]; rfl
  intro mm T H ⟨j,hmm,t1,t3,t4,t42,t43,t67,t68,h1,hj,hl,hr⟩ Q16 p116 p216 p316
  unfold aLT
  refine W_r (bO t68 t67 (R_e ?_))
  refine aJ rfl (fun c17=>?_) fun c17=>?_
  ·
   refine aG (aE fun Q18 n18 x18 y18 z18=>(W_r (aA t68 (aA rfl (R_e (W_r (bR t1 h1 ?_)))))))
   refine bD rfl h1 rfl rfl (aA t4 (bY (i:=k) (rVq (aD m.nx)) (rNq k) (by omega) rfl (aI rfl rfl (aA rfl (bY (i:=j) (rVq (aH (nth m.nx k))) (rNq j) (by omega) rfl (aI rfl rfl (bR t1 h1 ?_)))))))
   refine bD rfl h1 rfl rfl (aA t4 (bY (i:=k) (rVq (aD m.ot)) (rNq k) (by omega) rfl (aI rfl rfl (aA rfl (bY (i:=j) (rVq (aH (nth m.ot k))) (rNq j) (by omega) rfl (aI rfl rfl (aA rfl ?_)))))))
   refine aA rfl (R_e (W_r (aA rfl (bO rfl rfl (aA rfl ?_)))))
   refine cC 4 (fun T H=>T 1=(mPq 1)∧T 3=(iV ((m.nx.length:Nat):Int))∧T 4=(iV ((k:Nat):Int))∧T 7=(iV (nth (nth m.ot k) j))∧T 42=(iV ((m.nx.length:Nat):Int))∧T 43=(iV ((k:Nat):Int))∧T 67=(iV m.i)∧T 68=(iV ((j:Nat):Int))∧T 93=(V.bool (decide (((nth (nth m.nx k) j) < (0:Int))∨(((m.nx.length:Nat):Int)≤(nth (nth m.nx k) j)))))∧H 1=(bMq m)∧True) ?_ ?_
   ·
    by_cases g19:(nth (nth m.nx k) j) < (0:Int)
    ·
     refine G_n (edT g19 rfl) (G_n (edT g19 rfl) (G_n (edT g19 rfl) (bZ (edT g19 rfl) rfl ?_)))
     exact ⟨t1,t3,t4,rfl,t42,t43,t67,t68,(eQ g19),h1,trivial⟩
    ·
     refine aT (edF g19 rfl) (aA rfl (aT (edF g19 rfl) (aA t3 (aT (edF g19 rfl) (mM rfl rfl (cD (edF g19 rfl) rfl ?_))))))
     exact ⟨t1,t3,t4,rfl,t42,t43,t67,t68,(eO g19),h1,trivial⟩
   intro T H ⟨t1,t3,t4,t7,t42,t43,t67,t68,t93,h1,_⟩
   refine aA t93 ?_
   refine cC 3 (fun T H=>T 1=(mPq 1)∧T 3=(iV ((m.nx.length:Nat):Int))∧T 4=(iV ((k:Nat):Int))∧T 7=(iV (nth (nth m.ot k) j))∧T 42=(iV ((m.nx.length:Nat):Int))∧T 43=(iV ((k:Nat):Int))∧T 67=(iV m.i)∧T 68=(iV ((j:Nat):Int))∧T 97=(V.bool (decide ((((nth (nth m.nx k) j) < (0:Int))∨(((m.nx.length:Nat):Int)≤(nth (nth m.nx k) j)))∨((nth (nth m.ot k) j) < (0:Int)))))∧H 1=(bMq m)∧True) ?_ ?_
   ·
    by_cases g20:((nth (nth m.nx k) j) < (0:Int))∨(((m.nx.length:Nat):Int)≤(nth (nth m.nx k) j))
    ·
     refine G_n (edT g20 rfl) (G_n (edT g20 rfl) (bZ (edT g20 rfl) rfl ?_))
     exact ⟨t1,t3,t4,t7,t42,t43,t67,t68,(eQ g20),h1,trivial⟩
    ·
     refine aT (edF g20 rfl) (aA t7 (aT (edF g20 rfl) (bO rfl rfl (cD (edF g20 rfl) rfl ?_))))
     exact ⟨t1,t3,t4,t7,t42,t43,t67,t68,(eO g20),h1,trivial⟩
   intro T H ⟨t1,t3,t4,t7,t42,t43,t67,t68,t97,h1,_⟩
   refine aA t97 ?_
   refine cC 3 (fun T H=>T 1=(mPq 1)∧T 3=(iV ((m.nx.length:Nat):Int))∧T 4=(iV ((k:Nat):Int))∧T 42=(iV ((m.nx.length:Nat):Int))∧T 43=(iV ((k:Nat):Int))∧T 67=(iV m.i)∧T 68=(iV ((j:Nat):Int))∧T 101=(V.bool (decide (((((nth (nth m.nx k) j) < (0:Int))∨(((m.nx.length:Nat):Int)≤(nth (nth m.nx k) j)))∨((nth (nth m.ot k) j) < (0:Int)))∨((1048576:Int) < (nth (nth m.ot k) j)))))∧H 1=(bMq m)∧True) ?_ ?_
   ·
    by_cases g21:(((nth (nth m.nx k) j) < (0:Int))∨(((m.nx.length:Nat):Int)≤(nth (nth m.nx k) j)))∨((nth (nth m.ot k) j) < (0:Int))
    ·
     refine G_n (edT g21 rfl) (G_n (edT g21 rfl) (bZ (edT g21 rfl) rfl ?_))
     exact ⟨t1,t3,t4,t42,t43,t67,t68,(eQ g21),h1,trivial⟩
    ·
     refine aT (edF g21 rfl) (aA t7 (aT (edF g21 rfl) (jV rfl rfl (cD (edF g21 rfl) rfl ?_))))
     exact ⟨t1,t3,t4,t42,t43,t67,t68,(eO g21),h1,trivial⟩
   intro T H ⟨t1,t3,t4,t42,t43,t67,t68,t101,h1,_⟩
   refine R_e ?_
   refine kI t101 (fun c22=>?_) fun c22=>?_
   ·
    refine W_r (aA rfl (R_e (bH (y18 _ _ (p216 _ _ (y15 _ _ (y12 _ _ ?_)))))))
    refine p210 _ _ (y9 _ _ ?_)
    refine bS (rVq (iV 2)) (aW ?_)
    · have e:wT m k=2:=by
        rw [hr,aDH (by unfold aAT; split <;> omega) (by omega)]; unfold aAT; split <;> omega
      rw [hc,aDH (by omega) (by omega),e]
   refine fK (n18 _ _ (.done (W_t (bA t68 (rNq 1) (by omega) (aA rfl (R_e ?_))))))
   refine p116 _ _ _ ?_ ⟨(j+1),rfl,t1,t3,t4,t42,t43,t67,(eTq (rNq (j+1)) (by rfl)),h1,?_,?_,?_⟩
   · omega
   · omega
   · omega
   · rw [hr,aDX (by unfold aAT; split <;> omega) (by omega)]
  refine aP (p316 _ _ _ (x15 _ _ (n12 _ _ (.done (W_t (bA t43 (rNq 1) (by omega) (aA rfl ?_)))))))
  refine R_e ?_
  refine p110 _ _ _ ?_ ⟨(k+1),rfl,t1,t3,t42,(eTq (rNq (k+1)) (by rfl)),h1,?_,?_,?_⟩
  · omega
  · omega
  · omega
  · rw [hc,aDX (by rw [hr,aGW (by omega)]) (by omega)]
 refine aP (p310 _ _ _ (x9 _ _ (.done (W_r (aA rfl (R_e (bH ?_)))))))
 refine bS (rVq (iV 0)) (aW ?_)
 · rw [hc,aGW (by omega)]
end Go.Proofs.YtmnnhjhkaepbaaaGreat
namespace Go.Proofs.YtmnnhjhkaepbaaaGreat
open Go
theorem wW: ∀ {A B:List Int},A.Nodup→(∀ a∈A,a∈B)→B.length≤A.length→B.Perm A
  | [], B, _, _, h => by
    have:B=[]:=List.eq_nil_of_length_eq_zero (by simpa using h)
    rw [this]
  | a :: A, B, hn, hs, h => by
    have ha:=hs a (List.mem_cons_self ..)
    have p:=List.perm_cons_erase ha
    obtain ⟨n1,n2⟩:=List.nodup_cons.1 hn
    refine p.trans (List.Perm.cons a (wW n2 (fun x hx=>?_) ?_))
    · have:=hs x (List.mem_cons_of_mem _ hx)
      exact (List.mem_erase_of_ne (fun e=>n1 (by rw [← e]; exact hx))).2 this
    · have:=List.length_erase_of_mem ha
      simp only [List.length_cons] at h
      omega
theorem aEm: ∀ {A B:List Int},A.Nodup→(∀ a∈A,a∈B)→A.length≤B.length
  |[],_,_,_=>Nat.zero_le _
  | a :: A, B, hn, hs => by
    have ha:=hs a (List.mem_cons_self ..)
    obtain ⟨n1,n2⟩:=List.nodup_cons.1 hn
    have:=aEm (A:=A) (B:=B.erase a) n2 fun x hx=>(List.mem_erase_of_ne (fun e=>n1 (by rw [← e]; exact hx))).2 (hs x (List.mem_cons_of_mem _ hx))
    have:=List.length_erase_of_mem ha
    have:0 < B.length:=List.length_pos_of_mem ha
    simp only [List.length_cons]
    omega
def rgI (n:Nat):List Int:=(List.range n).map (fun a:Nat=>(a:Int))
theorem xB {n:Nat} {a:Int}:a∈rgI n↔0≤a∧a < n:=by
  unfold rgI
  rw [List.mem_map]
  constructor
  · rintro ⟨k,hk,rfl⟩
    have:=List.mem_range.1 hk
    omega
  · intro h
    exact ⟨a.toNat,List.mem_range.2 (by omega),by omega⟩
theorem aBX (n:Nat):(rgI n).Nodup:=by
  unfold rgI
  exact List.Pairwise.map _ (fun a b h e=>h (by omega)) List.nodup_range
theorem aDu (n:Nat):(rgI n).length=n:=by simp [rgI]
theorem aGq {L:List Int} {n:Nat} (hl:L.length=n):(L.Nodup∧ ∀ a∈L,0≤a∧a < n)↔ ∀ a:Int,0≤a→a < n→a∈L:=by
  constructor
  · rintro ⟨h1,h2⟩ a a0 a1
    have p:=wW (A:=L) (B:=rgI n) h1 (fun x hx=>xB.2 (h2 x hx)) (by rw [aDu]; omega)
    exact p.mem_iff.1 (xB.2 ⟨a0,a1⟩)
  · intro h
    have p:=wW (A:=rgI n) (B:=L) (aBX n) (fun x hx=>by have:=xB.1 hx; exact h x this.1 this.2) (by rw [aDu]; omega)
    exact ⟨p.symm.nodup (aBX n),fun a ha=>xB.1 (p.mem_iff.1 ha)⟩
def gpI (gs:List (List Int)) (a:Int):Int:=fi (fun i=>decide (a∈nth gs i)) 0 gs.length
theorem aDO {gs:List (List Int)} {a:Int}:0≤gpI gs a↔a∈gs.flatten:=by
  unfold gpI
  rw [List.mem_flatten]
  constructor
  · intro h
    obtain ⟨j,h1,h2,h3,h4,_⟩:=gQ h
    exact ⟨nth gs j,aR (by omega),of_decide_eq_true h4⟩
  · rintro ⟨g,hg,ha⟩
    obtain ⟨j,hj,rfl⟩:=iD hg
    refine Classical.byContradiction fun hn=>?_
    exact hn (lE (p:=fun i=>decide (a∈nth gs i)) (Nat.zero_le _) (by omega) (decide_eq_true ha))
def gsP (gs:List (List Int)) (i:Int):Prop:=(∀ k,k < gs.length→nth gs k≠[])∧(gs.flatten.length:Int)=i∧ ∀ a:Int,0≤a→a < i→0≤gpI gs a
theorem aEj {gs:List (List Int)} {i:Int} (hi:0≤i):((∀ k,k < gs.length→nth gs k≠[])∧gs.flatten.Nodup∧(∀ a∈gs.flatten,0≤a∧a < i))∧(gs.flatten.length:Int)=i↔gsP gs i:=by
  unfold gsP
  constructor
  · rintro ⟨⟨h1,h2,h3⟩,h4⟩
    refine ⟨h1,h4,fun a a0 a1=>aDO.2 ?_⟩
    exact (aGq (n:=i.toNat) (by omega)).1 ⟨h2,fun a ha=>by have:=h3 a ha; omega⟩ a a0 (by omega)
  · rintro ⟨h1,h4,h5⟩
    obtain ⟨p,q⟩:=(aGq (L:=gs.flatten) (n:=i.toNat) (by omega)).2 fun a a0 a1=>aDO.1 (h5 a a0 (by omega))
    exact ⟨⟨h1,p,fun a ha=>by have:=q a ha; omega⟩,h4⟩
end Go.Proofs.YtmnnhjhkaepbaaaGreat
namespace Go.Proofs.YtmnnhjhkaepbaaaGreat
open Go
def dS (l:List (Int×Int)):List (List V):=[.nilp,.nilp]::l.map fun p=>[iV p.1,iV p.2]
theorem aGO (k:Int): ∀ (l:List (Int×Int)) (i:Nat),∃ j,eL 1 (iV k) (l.map fun p=>[iV p.1,iV p.2]) i=some ((l.find? fun p=>decide (k=p.1)).map fun p=>(j,iV p.2))
  |[],i=>⟨0,rfl⟩
  | p :: l, i => by
    have e0:nV 1 (iV k) (iV p.1)=some (decide (k=p.1)):=by
      show (if IntKind.i64=IntKind.i64 then some (k==p.1) else none)=_
      rw [if_pos rfl]; congr 1
    rw [List.map_cons,eL,e0,List.find?_cons]
    by_cases e:k=p.1
    · rw [decide_eq_true e]; exact ⟨i,rfl⟩
    · rw [decide_eq_false e]; exact aGO k l (i+1)
section
variable {ver:Nat} {k:Int} {l:List (Int×Int)}
def lkI (l:List (Int×Int)) (k:Int):Int:=match l.find? fun p=>decide (k=p.1) with
  |some p=>p.2
  |none=>0
def inI (l:List (Int×Int)) (k:Int):Bool:=l.any fun p=>decide (k=p.1)
theorem aHJ:hU ⟨ver,true,true,bL,2,dS l⟩ ver 1 (iV 0) (iV k)=some (iV (lkI l k),inI l k):=by
  obtain ⟨j,h⟩:=aGO k l 0
  unfold hU
  rw [if_pos (by simp [Blk.own,Blk.isM,bL,dS,iW,iV])]
  simp only [dS]
  rw [h]
  unfold lkI inI
  cases hf:l.find? fun p=>decide (k=p.1) with
  | none =>
    have:(l.any fun p=>decide (k=p.1))=false:=by
      rw [List.any_eq_false]
      rw [List.find?_eq_none] at hf
      exact hf
    rw [this]; rfl
  | some p =>
    have:(l.any fun p=>decide (k=p.1))=true:=by
      have h0:=List.find?_some hf
      rw [List.any_eq_true]
      exact ⟨p,List.mem_of_find?_eq_some hf,h0⟩
    rw [this]; rfl
theorem aTs {v:Int} (h:inI l k=false):lQ ⟨ver,true,true,bL,2,dS l⟩ ver 1 (iV k) (iV v)=some ⟨ver,true,true,bL,2,dS (l++[(k,v)])⟩:=by
  obtain ⟨j,g⟩:=aGO k l 0
  have hf:l.find? (fun p=>decide (k=p.1))=none:=by
    rw [List.find?_eq_none]
    unfold inI at h
    rw [List.any_eq_false] at h
    exact h
  unfold lQ
  rw [if_pos (by simp [Blk.own,Blk.isM,bL,dS,iW,iV])]
  simp only [dS]
  rw [g,hf]
  simp
theorem aR5:uZ ⟨ver,true,true,bL,2,dS l⟩ ver=some l.length:=by
  unfold uZ
  rw [if_pos (by simp [Blk.own,Blk.isM,bL,dS])]
  simp [dS]
end
def owR (g:List Int) (k j:Nat):List (Int×Int):=(g.take j).map fun a=>(a,((k:Nat):Int))
def owE (gs:List (List Int)):Nat→List (Int×Int)
  |0=>[]
  |k+1=>owE gs k++owR (nth gs k) k (nth gs k).length
def owJ (gs:List (List Int)) (k j:Nat):List (Int×Int):=owE gs k++owR (nth gs k) k j
def owB (gs:List (List Int)) (i:Int) (k j:Nat):Bool:=inI (owJ gs k j) (nth (nth gs k) j)||decide (nth (nth gs k) j < 0)||decide (i≤nth (nth gs k) j)
def owK (gs:List (List Int)) (i:Int) (k:Nat):Bool:=decide ((nth gs k).length=0)||(List.range (nth gs k).length).any fun j=>owB gs i k j
def owX (gs:List (List Int)) (i:Int):Bool:=(List.range gs.length).any fun k=>owK gs i k
theorem aEZ {gs:List (List Int)} {i:Int} {k:Nat} (hk:k < gs.length) (h:owK gs i k=true):owX gs i=true:=by
  unfold owX
  rw [List.any_eq_true]
  exact ⟨k,List.mem_range.2 hk,h⟩
theorem aR2 {gs:List (List Int)} {i:Int} {k:Nat} (h:(nth gs k).length=0):owK gs i k=true:=by
  unfold owK; rw [decide_eq_true h]; rfl
theorem aTe {gs:List (List Int)} {i:Int} {k j:Nat} (hj:j < (nth gs k).length) (h:owB gs i k j=true):owK gs i k=true:=by
  unfold owK
  rw [Bool.or_eq_true]
  right
  rw [List.any_eq_true]
  exact ⟨j,List.mem_range.2 hj,h⟩
theorem aHE {gs:List (List Int)} {i:Int} (h: ∀ k,k < gs.length→(nth gs k).length≠0∧ ∀ j,j < (nth gs k).length→owB gs i k j=false):owX gs i=false:=by
  unfold owX
  rw [List.any_eq_false]
  intro k hk
  obtain ⟨h1,h2⟩:=h k (List.mem_range.1 hk)
  unfold owK
  rw [decide_eq_false h1,Bool.false_or,Bool.not_eq_true,List.any_eq_false]
  intro j hj
  rw [h2 j (List.mem_range.1 hj)]; decide
theorem aGU {gs:List (List Int)} {i:Int} (h:owX gs i=false) {k:Nat} (hk:k < gs.length):(nth gs k).length≠0∧ ∀ j,j < (nth gs k).length→owB gs i k j=false:=by
  unfold owX at h
  rw [List.any_eq_false] at h
  have:=h k (List.mem_range.2 hk)
  unfold owK at this
  rw [Bool.not_eq_true,Bool.or_eq_false_iff,List.any_eq_false] at this
  refine ⟨of_decide_eq_false this.1,fun j hj=>?_⟩
  have:=this.2 j (List.mem_range.2 hj)
  rwa [Bool.not_eq_true] at this
theorem aMk {gs:List (List Int)} {k:Nat}:owJ gs k 0=owE gs k:=by simp [owJ,owR]
theorem aHS {gs:List (List Int)} {k j:Nat} (hj:j < (nth gs k).length):owJ gs k j++[(nth (nth gs k) j,((k:Nat):Int))]=owJ gs k (j+1):=by
  unfold owJ owR
  rw [bG hj,List.map_append,List.append_assoc]; rfl
theorem aEn {gs:List (List Int)} {k j:Nat} (hj:(nth gs k).length≤j):owJ gs k j=owE gs (k+1):=by
  unfold owJ
  rw [owE]
  unfold owR
  rw [List.take_of_length_le hj,List.take_of_length_le (Nat.le_refl _)]
theorem aE8 {gs:List (List Int)}: ∀ {k:Nat},k≤gs.length→(owE gs k).length=(gs.take k).flatten.length
  |0,_=>rfl
  | k + 1, hk => by
    rw [owE,List.length_append,aE8 (by omega),bG (by omega),List.flatten_append,List.length_append]
    unfold owR
    simp
theorem kT {gs:List (List Int)}: ∀ {k:Nat},k≤gs.length→(owE gs k).map (·.1)=(gs.take k).flatten
  |0,_=>rfl
  | k + 1, hk => by
    rw [owE,List.map_append,kT (by omega),bG (by omega),List.flatten_append]
    unfold owR
    rw [List.take_length,List.map_map]
    simp [Function.comp_def]
theorem nD {l:List (Int×Int)} {k:Int}:inI l k=true↔k∈l.map (·.1):=by
  unfold inI
  rw [List.any_eq_true,List.mem_map]
  constructor
  · rintro ⟨p,hp,h⟩; exact ⟨p,hp,(of_decide_eq_true h).symm⟩
  · rintro ⟨p,hp,h⟩; exact ⟨p,hp,decide_eq_true h.symm⟩
theorem aH7 {gs : List (List Int)} {a : Int} : ∀ {k : Nat}, k ≤ gs.length → inI (owE gs k) a = true → lkI (owE gs k) a = gpI gs a
  |0,_,h=>by cases h
  | k + 1, hk, h => by
    by_cases q:inI (owE gs k) a=true
    · rw [← aH7 (by omega) q]
      unfold lkI
      rw [owE,List.find?_append]
      cases hf:(owE gs k).find? fun p=>decide (a=p.1) with
      |some p=>rfl
      | none =>
        rw [List.find?_eq_none] at hf
        unfold inI at q
        rw [List.any_eq_true] at q
        obtain ⟨p,hp,z⟩:=q
        exact absurd z (hf p hp)
    · have q0:(owE gs k).find? (fun p=>decide (a=p.1))=none:=by
        rw [List.find?_eq_none]
        intro p hp z
        exact q (by unfold inI; rw [List.any_eq_true]; exact ⟨p,hp,z⟩)
      have ha:a∈nth gs k:=by
        rw [nD,kT hk,bG (by omega),List.flatten_append,List.mem_append] at h
        rcases h with h|h
        · exact absurd (nD.2 (by rw [kT (by omega)]; exact h)) q
        · simpa using h
      have hn: ∀ j,j < k→a∉nth gs j:=fun j hj hm=>q (nD.2 (by
        rw [kT (by omega)]
        exact List.mem_flatten.2 ⟨nth gs j,by
          rw [List.mem_take_iff_getElem]
          refine ⟨j,by omega,?_⟩
          unfold nth; rw [List.getD_eq_getElem?_getD,List.getElem?_eq_getElem (by omega)]; rfl,hm⟩))
      have e1:gpI gs a=((k:Nat):Int):=by
        have h0:0≤gpI gs a:=lE (p:=fun i=>decide (a∈nth gs i)) (Nat.zero_le _) (show k < 0+gs.length by omega) (decide_eq_true ha)
        obtain ⟨j,j1,_,j3,j4,j5⟩:=gQ h0
        unfold gpI
        rw [j1]
        have: ¬j < k:=fun z=>hn j z (of_decide_eq_true j4)
        have: ¬k < j:=fun z=>by have:=j5 k (Nat.zero_le _) z; simp [ha] at this
        omega
      rw [e1]
      unfold lkI
      rw [owE,List.find?_append,q0]
      unfold owR
      rw [List.take_length]
      cases hf:((nth gs k).map fun a=>(a,((k:Nat):Int))).find? fun p=>decide (a=p.1) with
      | none =>
        rw [List.find?_eq_none] at hf
        exact absurd (decide_eq_true rfl) (hf (a,((k:Nat):Int)) (List.mem_map.2 ⟨a,ha,rfl⟩))
      | some p =>
        have:=List.mem_of_find?_eq_some hf
        obtain ⟨b,_,rfl⟩:=List.mem_map.1 this
        rfl
theorem aG9 {gs : List (List Int)} {i : Int} (hi : 0 ≤ i) : (owX gs i = false ∧ ((owE gs gs.length).length : Int) = i) ↔ gsP gs i := by
  rw [← aEj hi,aE8 (Nat.le_refl _),List.take_length]
  refine and_congr_left fun _=>?_
  constructor
  · intro h
    have key: ∀ k,k≤gs.length→(gs.take k).flatten.Nodup∧ ∀ a∈(gs.take k).flatten,0≤a∧a < i:=by
      intro k
      induction k with
      |zero=>intro _; exact ⟨List.nodup_nil,fun a ha=>by cases ha⟩
      | succ k ih =>
        intro hk
        have hk':k < gs.length:=by omega
        obtain ⟨_,g2⟩:=aGU h hk'
        have gj : ∀ j, j ≤ (nth gs k).length → ((gs.take k).flatten ++ (nth gs k).take j).Nodup ∧ ∀ a ∈ (gs.take k).flatten ++ (nth gs k).take j, 0 ≤ a ∧ a < i := by
          intro j
          induction j with
          |zero=>intro _; simpa using ih (by omega)
          | succ j ihj =>
            intro hj
            obtain ⟨p1,p2⟩:=ihj (by omega)
            have b:=g2 j (by omega)
            unfold owB at b
            rw [Bool.or_eq_false_iff,Bool.or_eq_false_iff] at b
            obtain ⟨⟨b1,b2⟩,b3⟩:=b
            have n1:nth (nth gs k) j∉(gs.take k).flatten++(nth gs k).take j:=fun z=>by
              have:inI (owJ gs k j) (nth (nth gs k) j)=true:=nD.2 (by
                unfold owJ owR
                rw [List.map_append,kT (by omega),List.map_map]
                simpa [Function.comp_def] using z)
              rw [b1] at this; cases this
            rw [bG (by omega),← List.append_assoc]
            refine ⟨List.nodup_append.2 ⟨p1,by simp,fun a ha b hb e=>?_⟩,fun a ha=>?_⟩
            · rw [List.mem_singleton] at hb; subst hb; subst e; exact n1 ha
            · rcases List.mem_append.1 ha with ha|ha
              · exact p2 a ha
              · rw [List.mem_singleton] at ha; subst ha
                have:=of_decide_eq_false b2
                have:=of_decide_eq_false b3
                omega
        have:=gj _ (Nat.le_refl _)
        rw [List.take_length] at this
        rw [bG hk',List.flatten_append]
        simpa using this
    have:=key gs.length (Nat.le_refl _)
    rw [List.take_length] at this
    exact ⟨fun k hk e=>(aGU h hk).1 (by rw [e]; rfl),this.1,this.2⟩
  · rintro ⟨h1,h2,h3⟩
    refine aHE fun k hk=>⟨fun e=>h1 k hk (List.eq_nil_of_length_eq_zero e),fun j hj=>?_⟩
    have hm:nth (nth gs k) j∈gs.flatten:=List.mem_flatten.2 ⟨nth gs k,aR hk,aR hj⟩
    have hr:=h3 _ hm
    unfold owB
    rw [decide_eq_false (by omega),decide_eq_false (by omega),Bool.or_false,Bool.or_false]
    rw [Bool.eq_false_iff]
    intro z
    have z1:=nD.1 z
    unfold owJ owR at z1
    rw [List.map_append,kT (by omega),List.map_map] at z1
    have z2:nth (nth gs k) j∈(gs.take k).flatten++(nth gs k).take j:=by simpa [Function.comp_def] using z1
    have e:gs.flatten=((gs.take k).flatten++(nth gs k).take j)++(nth (nth gs k) j::((nth gs k).drop (j+1)++(gs.drop (k+1)).flatten)):=by
      have e1:gs=gs.take k++nth gs k::gs.drop (k+1):=by
        have:=List.take_append_drop k gs
        rw [List.drop_eq_getElem_cons hk] at this
        have e3:gs[k]=nth gs k:=by unfold nth; rw [List.getD_eq_getElem?_getD,List.getElem?_eq_getElem hk]; rfl
        rw [e3] at this; exact this.symm
      have e2:nth gs k=(nth gs k).take j++nth (nth gs k) j::(nth gs k).drop (j+1):=by
        have:=List.take_append_drop j (nth gs k)
        rw [List.drop_eq_getElem_cons hj] at this
        have e3:(nth gs k)[j]=nth (nth gs k) j:=by
          generalize nth gs k=g at hj ⊢
          unfold nth; rw [List.getD_eq_getElem?_getD,List.getElem?_eq_getElem hj]; rfl
        rw [e3] at this; exact this.symm
      calc gs.flatten=(gs.take k++nth gs k::gs.drop (k+1)).flatten:=congrArg List.flatten e1
        _=(gs.take k).flatten++(nth gs k++(gs.drop (k+1)).flatten):=by rw [List.flatten_append,List.flatten_cons]
        _=(gs.take k).flatten++(((nth gs k).take j++nth (nth gs k) j::(nth gs k).drop (j+1))++(gs.drop (k+1)).flatten):=by rw [← e2]
        _=_:=by simp [List.append_assoc]
    rw [e] at h2
    exact (List.nodup_append.1 h2).2.2 _ z2 _ (List.mem_cons_self ..) rfl
end Go.Proofs.YtmnnhjhkaepbaaaGreat
namespace Go.Proofs.YtmnnhjhkaepbaaaGreat
open Go
abbrev Sit:=List Int×List Int
def fN (m:M) (x:List Int) (a g:Nat):List Int:=
  (x.set 0 (nth (nth m.nx (nth x 0).toNat) a)).set (g+1) (nth (nth m.nx (nth (x.set 0 (nth (nth m.nx (nth x 0).toNat) a)) (g+1)).toNat) a)
def gpN (gs:List (List Int)) (a:Nat):Nat:=(gpI gs (a:Int)).toNat
def mN (m:M) (gs:List (List Int)) (x:Sit) (a:Nat):Sit:=(fN m x.1 a (gpN gs a),x.2++[(a:Int)])
def aBw (m:M) (gs:List (List Int)) (x:List Int) (a:Nat):Bool:=decide (nth (nth m.ot (nth x 0).toNat) a≠nth (nth m.ot (nth x (gpN gs a+1)).toNat) a)
def gN (l:List Sit) (x:List Int):Bool:=l.any fun z=>decide (z.1=x)
def adS (l:List Sit) (y:Sit):List Sit:=if gN l y.1=true then l else l++[y]
def isR (m:M) (gs:List (List Int)) (x:Sit):Nat→Nat→List Sit→List Int ⊕ List Sit
  |0,_,l=>.inr l
  |n+1,a,l=>if aBw m gs x.1 a=true then .inl (mN m gs x a).2 else isR m gs x n (a+1) (adS l (mN m gs x a))
def isL (m : M) (gs : List (List Int)) : Nat → Nat → List Sit → List Int × Bool × Int
  |0,_,_=>([],false,11)
  | n + 1, i, l => if i < l.length then if 4096 ≤ i then ([], false, 11) else match isR m gs (nth l i) m.i.toNat 0 l with
      | .inl w=>(w,true,0)
      | .inr l'=>isL m gs n (i+1) l'
    else ([],false,0)
def is0 (m:M) (gs:List (List Int)):List Sit:=[(List.replicate (gs.length+1) m.s,[])]
def gsD (gs:List (List Int)) (i:Int):Bool:= !owX gs i&&decide (((owE gs gs.length).length:Int)=i)
def isD (m:M) (gs:List (List Int)):List Int×Bool×Int:=if aV m≠0 then ([],false,aV m) else if gsD gs m.i=true then isL m gs 4097 0 (is0 m gs) else ([],false,1)
section
variable {m:M} {gs:List (List Int)} {x:Sit} {l:List Sit} {i j:Nat}
theorem aJ1 (hi:0≤m.i):gsD gs m.i=true↔gsP gs m.i:=by
  rw [← aG9 hi]
  unfold gsD
  rw [Bool.and_eq_true,decide_eq_true_eq,Bool.not_eq_true']
theorem aLw (h: ¬i < l.length) (hi:i≤4096):isL m gs (4097 - i) i l=([],false,0):=by
  obtain ⟨n,hn⟩: ∃ n,4097 - i=n+1:=⟨4096 - i,by omega⟩
  rw [hn,isL,if_neg h]
theorem aKU (h:i < l.length) (hi:i=4096):isL m gs (4097 - i) i l=([],false,11):=by
  subst hi
  rw [show 4097 - 4096=0+1 from rfl,isL,if_pos h,if_pos (Nat.le_refl _)]
theorem aK3 {w:List Int} (h:i < l.length) (hi:i < 4096) (hr:isR m gs (nth l i) m.i.toNat 0 l=.inl w):isL m gs (4097 - i) i l=(w,true,0):=by
  obtain ⟨n,hn⟩: ∃ n,4097 - i=n+1:=⟨4096 - i,by omega⟩
  rw [hn,isL,if_pos h,if_neg (by omega),hr]
theorem aQk {l':List Sit} (h:i < l.length) (hi:i < 4096) (hr:isR m gs (nth l i) m.i.toNat 0 l=.inr l'):isL m gs (4097 - i) i l=isL m gs (4097 - (i+1)) (i+1) l':=by
  obtain ⟨n,hn⟩: ∃ n,4097 - i=n+1:=⟨4096 - i,by omega⟩
  rw [hn,isL,if_pos h,if_neg (by omega),hr,show 4097 - (i+1)=n by omega]
theorem aKt (hj:j < m.i.toNat) (h:aBw m gs x.1 j=true):isR m gs x (m.i.toNat - j) j l=.inl (mN m gs x j).2:=by
  obtain ⟨n,hn⟩: ∃ n,m.i.toNat - j=n+1:=⟨m.i.toNat - j - 1,by omega⟩
  rw [hn,isR,if_pos h]
theorem aAW (hj:j < m.i.toNat) (h:aBw m gs x.1 j=false):isR m gs x (m.i.toNat - j) j l=isR m gs x (m.i.toNat - (j+1)) (j+1) (adS l (mN m gs x j)):=by
  obtain ⟨n,hn⟩: ∃ n,m.i.toNat - j=n+1:=⟨m.i.toNat - j - 1,by omega⟩
  rw [hn,isR,if_neg (by rw [h]; decide),show m.i.toNat - (j+1)=n by omega]
theorem aJN (hj: ¬j < m.i.toNat):isR m gs x (m.i.toNat - j) j l=.inr l:=by
  rw [show m.i.toNat - j=0 by omega,isR]
def SpO (m:M) (gs:List (List Int)) (x:List Int):Prop:=x.length=gs.length+1∧ ∀ k,k < gs.length+1→0≤nth x k∧nth x k < m.nx.length
def SpI (m:M) (gs:List (List Int)) (l:List Sit):Prop:= ∀ p,p < l.length→SpO m gs (nth l p).1∧(nth l p).2.length≤p
theorem aMA (hm:aV m=0):SpI m gs (is0 m gs):=by
  have mo:=bK hm
  intro p hp
  have:p=0:=by unfold is0 at hp; simpa using hp
  subst this
  refine ⟨⟨List.length_replicate ..,fun k hk=>?_⟩,Nat.le_refl _⟩
  have:nth (List.replicate (gs.length+1) m.s) k=m.s:=by
    unfold nth; rw [List.getD_eq_getElem?_getD,List.getElem?_replicate,if_pos hk]; rfl
  show 0≤nth (List.replicate (gs.length+1) m.s) k∧nth (List.replicate (gs.length+1) m.s) k < m.nx.length
  rw [this]
  exact ⟨by omega,by omega⟩
theorem SpI.add (h:SpI m gs l) {y:Sit} (h1:SpO m gs y.1) (h2:y.2.length≤l.length):SpI m gs (l++[y]):=by
  intro p hp
  rw [List.length_append] at hp
  by_cases e:p < l.length
  · rw [bE e]; exact h p e
  · have e1:p=l.length+0:=by simp only [List.length_cons,List.length_nil] at hp; omega
    have e2:=eX (l:=l) (m:=[y]) (j:=0)
    rw [e1,e2]
    exact ⟨h1,h2⟩
theorem aR4 (hm:aV m=0) {x:List Int} {a g:Nat} (hx:SpO m gs x) (ha:a < m.i.toNat) (hg:g < gs.length):SpO m gs (fN m x a g):=by
  have mo:=bK hm
  have st: ∀ {y:List Int},SpO m gs y→ ∀ q k,q < gs.length+1→k < gs.length+1→SpO m gs (y.set k (nth (nth m.nx (nth y q).toNat) a)):=by
    intro y hy q k hq hk
    have r:=hy.2 q hq
    have rr:=(mo.2.2.2.2.2.2.2 (nth y q).toNat (by omega)).2.2 a (by omega)
    refine ⟨by rw [List.length_set]; exact hy.1,fun i hi=>?_⟩
    rw [fX (by rw [hy.1]; exact hk)]
    split
    · exact ⟨rr.1,rr.2.1⟩
    · exact hy.2 i hi
  exact st (st hx 0 0 (by omega) (by omega)) (g+1) (g+1) (by omega) (by omega)
def kyS (x:List Int):List UInt8:=x.map fun v=>UInt8.ofNat v.toNat
theorem aKJ {x y : List Int} : ∀ (_ : ∀ v ∈ x, 0 ≤ v ∧ v < 256) (_ : ∀ v ∈ y, 0 ≤ v ∧ v < 256), kyS x = kyS y → x = y := by
  induction x generalizing y with
  | nil => intro _ _ h; cases y with
    |nil=>rfl
    |cons b y=>cases h
  | cons a x ih =>
    intro h1 h2 h
    cases y with
    |nil=>cases h
    | cons b y =>
      simp only [kyS,List.map_cons,List.cons.injEq] at h
      have ra:=h1 a (List.mem_cons_self ..)
      have rb:=h2 b (List.mem_cons_self ..)
      have e:a.toNat=b.toNat:=by
        have:=congrArg UInt8.toNat h.1
        rw [UInt8.toNat_ofNat',UInt8.toNat_ofNat',Nat.mod_eq_of_lt (by omega),Nat.mod_eq_of_lt (by omega)] at this
        exact this
      rw [ih (fun v hv=>h1 v (List.mem_cons_of_mem _ hv)) (fun v hv=>h2 v (List.mem_cons_of_mem _ hv)) h.2,show a=b by omega]
theorem SpO.byte (hm:aV m=0) {x:List Int} (h:SpO m gs x): ∀ v∈x,0≤v∧v < 256:=by
  have mo:=bK hm
  intro v hv
  obtain ⟨k,hk,rfl⟩:=iD hv
  have:=h.2 k (by rw [← h.1]; exact hk)
  omega
def snE (l:List Sit):List (List UInt8×V):=l.map fun z=>(kyS z.1,.bool true)
theorem aEk (hm:aV m=0) (hl:SpI m gs l) {y:List Int} (hy:SpO m gs y):(gN l y=false→((snE l).find? fun p=>decide (p.1=kyS y))=none)∧(gN l y=true→ ∃ s,((snE l).find? fun p=>decide (p.1=kyS y))=some (s,.bool true)):=by
  have key: ∀ z∈l,(kyS z.1=kyS y↔z.1=y):=fun z hz=>⟨fun e=>by
    obtain ⟨p,hp,rfl⟩:=iD hz
    exact aKJ ((hl p hp).1.byte hm) (hy.byte hm) e,fun e=>by rw [e]⟩
  constructor
  · intro h
    rw [List.find?_eq_none]
    intro p hp
    obtain ⟨z,hz,rfl⟩:=List.mem_map.1 hp
    unfold gN at h
    rw [List.any_eq_false] at h
    have:=h z hz
    rw [decide_eq_true_eq] at this ⊢
    exact fun e=>this ((key z hz).1 e)
  · intro h
    cases hf:(snE l).find? fun p=>decide (p.1=kyS y) with
    | some p =>
      obtain ⟨z,_,rfl⟩:=List.mem_map.1 (List.mem_of_find?_eq_some hf)
      exact ⟨_,rfl⟩
    | none =>
      rw [List.find?_eq_none] at hf
      unfold gN at h
      rw [List.any_eq_true] at h
      obtain ⟨z,hz,e⟩:=h
      have:=hf (kyS z.1,.bool true) (List.mem_map.2 ⟨z,hz,rfl⟩)
      rw [decide_eq_true_eq] at this e
      exact absurd ((key z hz).2 e) this
theorem aKL {ver:Nat} (hm:aV m=0) (hl:SpI m gs l) {y:List Int} (hy:SpO m gs y):hU ⟨ver,true,true,bL,2,gV (snE l)⟩ ver 0 (.bool false) (.str (kyS y))=some (.bool (gN l y),gN l y):=by
  obtain ⟨h1,h2⟩:=aEk hm hl hy
  cases h:gN l y with
  |false=>rw [aDA (h1 h)]
  |true=>obtain ⟨s,hs⟩:=h2 h; rw [aDp hs]
theorem aP1 {ver:Nat} (hm:aV m=0) (hl:SpI m gs l) {y:Sit} (hy:SpO m gs y.1) (h:gN l y.1=false):lQ ⟨ver,true,true,bL,2,gV (snE l)⟩ ver 0 (.str (kyS y.1)) (.bool true)=some ⟨ver,true,true,bL,2,gV (snE (l++[y]))⟩:=by
  rw [aBo ((aEk hm hl hy).1 h)]
  unfold snE
  rw [List.map_append]; rfl
end
def rsN (m:M) (ins:List Int) (s j:Nat):Int:=nth (nth m.nx s) (nth ins j).toNat
def rsO (m:M) (ins:List Int) (s j:Nat):Int:=nth (nth m.ot s) (nth ins j).toNat
def rsM (m:M) (ins:List Int):M:=⟨(ins.length:Nat),m.s,tbl (fun s=>tbl (rsN m ins s) ins.length) m.nx.length,tbl (fun s=>tbl (rsO m ins s) ins.length) m.nx.length⟩
def rsV (m:M) (ins:List Int):Prop:=ins≠[]∧ins.Nodup∧ ∀ j,j < ins.length→0≤nth ins j∧nth ins j < m.i
theorem wV {m:M} {ins:List Int} (hm:aV m=0) (h:rsV m ins):ins.length≤64∧0 < ins.length:=by
  have mo:=bK hm
  have:=aEm (A:=ins) (B:=rgI m.i.toNat) h.2.1 fun x hx=>by
    obtain ⟨j,hj,rfl⟩:=iD hx
    have:=h.2.2 j hj
    exact xB.2 ⟨this.1,by omega⟩
  rw [aDu] at this
  exact ⟨by omega,List.length_pos_iff.2 h.1⟩
theorem zT {m:M} {ins:List Int} (hm:aV m=0) (h:rsV m ins):aV (rsM m ins)=0:=by
  have mo:=bK hm
  have hl:=wV hm h
  obtain ⟨h1,h2,h3,h4,h5,h6,h7,h8⟩:=mo
  have e1:(rsM m ins).i=(ins.length:Nat):=rfl
  have e2:(rsM m ins).nx.length=m.nx.length:=aU _ _
  have e3:(rsM m ins).s=m.s:=rfl
  have e4:(rsM m ins).ot.length=m.nx.length:=aU _ _
  unfold aV
  rw [e1,e2,e3,e4]
  rw [if_neg (by omega),if_neg (by omega),if_neg (by omega),if_neg (by omega),if_neg (by omega)]
  refine cU.2 fun s _ hs=>?_
  obtain ⟨g1,g2,g3⟩:=h8 s (by omega)
  have e5:nth (rsM m ins).nx s=tbl (rsN m ins s) ins.length:=aY (by omega)
  have e6:nth (rsM m ins).ot s=tbl (rsO m ins s) ins.length:=aY (by omega)
  unfold wT
  rw [e1,e5,e6,aU,aU]
  rw [if_neg (by omega)]
  refine cU.2 fun a _ ha=>?_
  have ra:=h.2.2 a (by omega)
  have g:=g3 (nth ins a).toNat (by omega)
  have e7:nth (tbl (rsN m ins s) ins.length) a=rsN m ins s a:=aY (by omega)
  have e8:nth (tbl (rsO m ins s) ins.length) a=rsO m ins s a:=aY (by omega)
  unfold aAT
  rw [e2,e5,e6,e7,e8]
  have e9:rsN m ins s a=nth (nth m.nx s) (nth ins a).toNat:=rfl
  have e10:rsO m ins s a=nth (nth m.ot s) (nth ins a).toNat:=rfl
  rw [if_neg (by omega)]
theorem aIp {m:M} {gs:List (List Int)} (hm:aV m=0) (h:gsP gs m.i) {k:Nat} (hk:k < gs.length):rsV m (nth gs k):=by
  have mo:=bK hm
  obtain ⟨⟨h1,h2,h3⟩,_⟩:=(aEj (by omega)).2 h
  refine ⟨h1 k hk,?_,fun j hj=>h3 _ (List.mem_flatten.2 ⟨nth gs k,aR hk,aR hj⟩)⟩
  have hs:(nth gs k).Sublist gs.flatten:=List.sublist_flatten_of_mem (aR hk)
  exact hs.nodup h2
def fcM (m:M) (gs:List (List Int)) (k:Nat):M:=mnR (trR (rsM m (nth gs k)))
def fcE (m:M) (gs:List (List Int)):Int:=if (isD m gs).2.2≠0 then (isD m gs).2.2 else if (isD m gs).2.1=true then 15 else 0
def fcL (m:M) (gs:List (List Int)):List M:=if fcE m gs=0 then tbl (fcM m gs) gs.length else []
theorem aMu {m:M} {gs:List (List Int)} (h:(isD m gs).2.2=0):aV m=0∧gsP gs m.i:=by
  unfold isD at h
  by_cases q:aV m≠0
  · rw [if_pos q] at h; exact absurd h q
  · rw [if_neg q] at h
    have hm:aV m=0:=by omega
    have mo:=bK hm
    by_cases z:gsD gs m.i=true
    · exact ⟨hm,(aJ1 (by omega)).1 z⟩
    · rw [if_neg z] at h; cases h
end Go.Proofs.YtmnnhjhkaepbaaaGreat
namespace Go.Proofs.YtmnnhjhkaepbaaaGreat
open Go
theorem aDn {l:List Int} {t:Int} {k:Nat} (hk:k < l.length) (h:nth l k=t) (hn: ∀ q,q < k→nth l q≠t):idL l t=((k:Nat):Int):=by
  have h0:0≤idL l t:=lE (p:=fun j=>decide (nth l j=t)) (Nat.zero_le _) (show k < 0+l.length by omega) (decide_eq_true h)
  obtain ⟨j,j1,_,j3,j4,j5⟩:=gQ h0
  unfold idL
  rw [j1]
  have a1: ¬j < k:=fun z=>hn j z (of_decide_eq_true j4)
  have a2: ¬k < j:=fun z=>by have:=j5 k (Nat.zero_le _) z; simp [h] at this
  omega
theorem aEY {A B:List Int} {t:Int} (h:t∈A):idL (A++B) t=idL A t:=by
  obtain ⟨h1,h2,h3⟩:=aAv h
  obtain ⟨j,j1,_,j3,j4,j5⟩:=gQ (p:=fun j=>decide (nth A j=t)) (k:=0) (n:=A.length) h1
  have e:idL A t=((j:Nat):Int):=j1
  rw [e]
  refine aDn (by rw [List.length_append]; omega) (by rw [bE (by omega)]; exact of_decide_eq_true j4) fun q hq=>?_
  rw [bE (by omega)]
  exact of_decide_eq_false (j5 q (Nat.zero_le _) hq)
theorem aIY {A:List Int} {t:Int} (h:t∉A):idL (A++[t]) t=((A.length:Nat):Int):=by
  have e2:=eX (l:=A) (m:=[t]) (j:=0)
  refine aDn (by rw [List.length_append]; simp) (by rw [Nat.add_zero] at e2; rw [e2]; rfl) fun q hq=>?_
  rw [bE hq]
  exact fun e=>h (e ▸ aR hq)
def BLI (R:M) (i:Nat) (P:RS):Prop:=i≤P.1.length∧RI R.nx.length P∧gY R R.nx.length 0 (kX R)=gY R (R.nx.length - i) i P
def BQI (R:M) (i j:Nat) (P Q:RS):Prop:=Q=((nth R.nx (nth P.1 i).toNat).take j).foldl fT P∧RI R.nx.length Q∧nth Q.1 i=nth P.1 i∧P.1.length≤Q.1.length
section
variable {R:M} {i j:Nat} {P Q:RS}
theorem aTg (hm:aV R=0):BLI R 0 (kX R):=⟨Nat.zero_le _,aAg hm,rfl⟩
theorem aSZ (h:BLI R i P):BQI R i 0 P P:=⟨rfl,h.2.1,rfl,Nat.le_refl _⟩
theorem aDK (hm:aV R=0):rch R=(gY R R.nx.length 0 (kX R)).1:=by unfold rch; rw [if_neg (by omega)]
theorem BQI.step (hm:aV R=0) (hP:BLI R i P) (hi:i < P.1.length) (h:BQI R i j P Q) (hj:(j:Int) < R.i):
    let t:=nth (nth R.nx (nth Q.1 i).toNat) j
    (0≤t∧t < R.nx.length)∧Q.1.length≤R.nx.length∧nth (nth R.ot (nth Q.1 i).toNat) j=jM R i j∧
    (t∈Q.1→BQI R i (j+1) P Q∧idL Q.1 t=dG R i j)∧
    (t∉Q.1→BQI R i (j+1) P (fT Q t)∧(fT Q t).1=Q.1++[t]∧((Q.1.length:Nat):Int)=dG R i j∧Q.1.length+1≤R.nx.length):=by
  intro t
  have mo:=bK hm
  obtain ⟨q1,q2,q3,q4⟩:=h
  obtain ⟨p1,p2,p3⟩:=hP
  have r0:=p2.rng _ (aR hi)
  have rr:=mo.2.2.2.2.2.2.2 (nth P.1 i).toNat (by omega)
  have e0:t=nth (nth R.nx (nth P.1 i).toNat) j:=by show nth (nth R.nx (nth Q.1 i).toNat) j=_; rw [q3]
  have tr:0≤t∧t < R.nx.length:=by rw [e0]; have z:=rr.2.2 j hj; omega
  have st:((nth R.nx (nth P.1 i).toNat).take (j+1)).foldl fT P=fT Q t:=by
    rw [qZ (by omega),← q1,← e0]
  obtain ⟨y,hy⟩: ∃ y,rch R=(fT Q t).1++y:=by
    have g:rch R=(gY R (R.nx.length - (i+1)) (i+1) (iM R P i)).1:=by
      rw [aDK hm,p3,aCT hi (by have:=p2.len; omega)]
    obtain ⟨y1,h1⟩:=tO R (R.nx.length - (i+1)) (i+1) (iM R P i)
    obtain ⟨y2,h2⟩: ∃ y2,(iM R P i).1=(fT Q t).1++y2:=by
      unfold iM
      rw [← List.take_append_drop (j+1) (nth R.nx (nth P.1 i).toNat),List.foldl_append,st]
      exact iE _ _
    exact ⟨y2++y1,by rw [g,h1,h2,List.append_assoc]⟩
  obtain ⟨y0,hy0⟩: ∃ y0,rch R=P.1++y0:=by
    obtain ⟨y0,h0⟩:=tO R (R.nx.length - i) i P
    exact ⟨y0,by rw [aDK hm,p3,h0]⟩
  have ri:nth (rch R) i=nth P.1 i:=by rw [hy0,bE hi]
  have s2:RI R.nx.length (fT Q t):=q2.step tr.1 tr.2
  have eN:dG R i j=idL (rch R) t:=by unfold dG; rw [ri,← e0]
  refine ⟨tr,q2.len,by unfold jM; rw [ri,q3],fun ht=>?_,fun ht=>?_⟩
  · have es:fT Q t=Q:=tZ ((q2.mem t tr.1 tr.2).2 ht)
    refine ⟨⟨by rw [st,es],q2,q3,q4⟩,?_⟩
    rw [eN,hy,es,aEY ht]
  · have es:fT Q t=(Q.1++[t],Q.2.set t.toNat true):=zU (by
      cases z:nth Q.2 t.toNat with
      |false=>rfl
      |true=>exact absurd ((q2.mem t tr.1 tr.2).1 z) ht)
    have e1:(fT Q t).1=Q.1++[t]:=by rw [es]
    have l2:=s2.len
    rw [e1,List.length_append] at l2
    refine ⟨⟨by rw [st],s2,by rw [e1,bE (by omega)]; exact q3,by rw [e1,List.length_append]; omega⟩,e1,?_,l2⟩
    rw [eN,hy,e1,aEY (by simp),aIY ht]
theorem BQI.fin (hm:aV R=0) (hP:BLI R i P) (hi:i < P.1.length) (h:BQI R i j P Q) (hj: ¬(j:Int) < R.i):BLI R (i+1) Q:=by
  have mo:=bK hm
  obtain ⟨q1,q2,q3,q4⟩:=h
  obtain ⟨p1,p2,p3⟩:=hP
  have r0:=p2.rng _ (aR hi)
  have rr:=mo.2.2.2.2.2.2.2 (nth P.1 i).toNat (by omega)
  have e:Q=iM R P i:=by rw [q1]; unfold iM; rw [List.take_of_length_le (by omega)]
  exact ⟨by omega,q2,by rw [p3,aCT hi (by have:=p2.len; omega),← e]⟩
theorem BLI.end (hm:aV R=0) (h:BLI R i P) (hi: ¬i < P.1.length):i=(rch R).length:=by
  obtain ⟨p1,p2,p3⟩:=h
  rw [aDK hm,p3,aAp (by omega)]
  omega
end
theorem aMl {m:M} {ins:List Int} {s j:Nat} (hs:s < m.nx.length) (hj:j < ins.length):nth (nth (rsM m ins).nx s) j=rsN m ins s j:=by
  have e5:nth (rsM m ins).nx s=tbl (rsN m ins s) ins.length:=aY hs
  rw [e5]; exact aY hj
theorem aLW {m:M} {ins:List Int} {s j:Nat} (hs:s < m.nx.length) (hj:j < ins.length):nth (nth (rsM m ins).ot s) j=rsO m ins s j:=by
  have e5:nth (rsM m ins).ot s=tbl (rsO m ins s) ins.length:=aY hs
  rw [e5]; exact aY hj
theorem aM0 {m:M} {ins:List Int}:(rsM m ins).nx.length=m.nx.length:=aU _ _
theorem sZ {l:List Int} {t:Int} (h: ∀ q,q < l.length→nth l q≠t):t∉l:=fun hm=>by
  obtain ⟨q,hq,e⟩:=iD hm
  exact h q hq e
end Go.Proofs.YtmnnhjhkaepbaaaGreat
namespace Go.Proofs.YtmnnhjhkaepbaaaGreat
open Go
section
variable {P:Program} {k0:Nat} {K:(Nat→V)→aF→Prop} {T:Nat→V} {H:aF} {r:List SO} {d:Nat} {a:SX}
theorem aIW {x:Int} (h0:0≤x) (h1:x < 256):IntKind.u8.wrap x=(((UInt8.ofNat x.toNat).toNat:Nat):Int):=by
  rw [UInt8.toNat_ofNat',Nat.mod_eq_of_lt (by omega)]
  simp [IntKind.wrap,IntKind.signed,IntKind.bits]
  omega
theorem aKv {x:Int} (ha:ev T a=iV x) (h0:0≤x) (h1:x < 256) (h:Ops P k0 r (upd T d (u8V (UInt8.ofNat x.toNat))) H K):Ops P k0 (⟨none,some d,.conv .u8 a⟩::r) T H K:=by
  refine stp (v:=u8V (UInt8.ofNat x.toNat)) (fun _=>rfl) ?_ h
  rw [ha]
  simp only [iV,wX]
  rw [aIW h0 h1]
theorem aCz: ∀ (l:List UInt8),mP (l.map bB)=some l
  |[]=>rfl
  | b :: l => by
    have e:UInt8.ofNat (((b.toNat:Nat):Int)).toNat=b:=by rw [Int.toNat_natCast,UInt8.ofNat_toNat]
    show (mP (l.map bB)).map (UInt8.ofNat (((b.toNat:Nat):Int)).toNat:: ·)=_
    rw [aCz l,e]; rfl
theorem aJU {l:List UInt8} (ha:ev T a=.sl (l.map bB)) (h:Ops P k0 r (upd T d (.str l)) H K):Ops P k0 (⟨none,some d,.bstr a⟩::r) T H K:=by
  refine stp (v:=.str l) (fun _=>rfl) ?_ h
  rw [ha]
  simp only [yF]
  rw [aCz]; rfl
end
def kyP (x:List Int) (k:Nat):List UInt8:=dL (fun j=>UInt8.ofNat (nth x j).toNat) 0 x.length k
theorem aJh {x:List Int} {k:Nat} (h:x.length≤k):kyP x k=kyS x:=by
  unfold kyP
  rw [mR h]
  refine fZ (by rw [aU]; simp [kyS]) fun i hi=>?_
  rw [aU] at hi
  rw [aY hi]
  unfold kyS
  exact (eP (f:=fun v:Int=>UInt8.ofNat v.toNat) hi).symm
theorem aLP {gs:List (List Int)} {i:Int} (h:owX gs i=true):gsD gs i=false:=by unfold gsD; rw [h]; rfl
theorem aMm {gs:List (List Int)} {i:Int} (h: ¬(((owE gs gs.length).length:Nat):Int)=i):gsD gs i=false:=by unfold gsD; rw [decide_eq_false h,Bool.and_false]
theorem aSI {gs:List (List Int)} {i:Int} (h: ¬owX gs i=true) (h2:(((owE gs gs.length).length:Nat):Int)=i):gsD gs i=true:=by
  unfold gsD
  rw [decide_eq_true h2,Bool.and_true]
  simpa using h
theorem aLZ {gs:List (List Int)} {i:Int} (hi:0≤i):gsD gs i=true↔gsP gs i:=by
  rw [← aG9 hi]
  unfold gsD
  rw [Bool.and_eq_true,decide_eq_true_eq,Bool.not_eq_true']
theorem qK {m:M} {gs:List (List Int)} (hi:0≤m.i) (h:gsD gs m.i=true) {a:Nat} (ha:a < m.i.toNat):lkI (owE gs gs.length) (a:Int)=gpI gs (a:Int)∧0≤gpI gs (a:Int)∧gpN gs a < gs.length∧gpI gs (a:Int)=((gpN gs a:Nat):Int):=by
  have hp:=(aLZ hi).1 h
  have h0:=hp.2.2 (a:Int) (by omega) (by omega)
  have hin:inI (owE gs gs.length) (a:Int)=true:=nD.2 (by rw [kT (Nat.le_refl _),List.take_length]; exact aDO.1 h0)
  obtain ⟨j,j1,_,j3,_⟩:=gQ (p:=fun i=>decide ((a:Int)∈nth gs i)) (k:=0) (n:=gs.length) h0
  have e:gpI gs (a:Int)=((j:Nat):Int):=j1
  exact ⟨aH7 (Nat.le_refl _) hin,h0,by unfold gpN; rw [e]; omega,by unfold gpN; rw [e]; omega⟩
theorem aGm {m:M} {gs:List (List Int)} {ver:Nat} (hi:0≤m.i) (h:gsD gs m.i=true) {a:Nat} (ha:a < m.i.toNat):hU ⟨ver,true,true,bL,2,dS (owE gs gs.length)⟩ ver 1 (iV 0) (iV (a:Int))=some (iV ((gpN gs a:Nat):Int),inI (owE gs gs.length) (a:Int)):=by
  obtain ⟨e1,_,_,e4⟩:=qK hi h ha
  rw [aHJ,e1,e4]
instance instIM:Inhabited M:=⟨zM⟩
abbrev cSi (p:Sit):List V:=[aH p.1,aH p.2]
theorem aHj {l:List Sit} {y:Sit} (h:gN l y.1=true):adS l y=l:=if_pos h
theorem aEu {l:List Sit} {y:Sit} (h:gN l y.1=false):adS l y=l++[y]:=if_neg (by rw [h]; decide)
theorem aEp {n k:Nat} {v:Int} (h:k < n):nth (List.replicate n v) k=v:=by
  unfold nth; rw [List.getD_eq_getElem?_getD,List.getElem?_replicate,if_pos h]; rfl
theorem aOu {n k:Nat} {v:Int} (h:n≤k):dL (fun _=>v) 0 n k=List.replicate n v:=by
  rw [mR h]; unfold tbl; rw [List.map_const',List.length_range]
def rX (w:List Int) (a:Nat):List Int:=w++[((a:Nat):Int)]
abbrev nO (s:Int):List V:=[iV s,iV 0]
theorem lZ {R:M} (hm:aV R=0):trR R=trm R:=if_pos hm
theorem tP {R:M} (hm:aV R=0):aV (trR R)=0:=by rw [lZ hm]; exact tY hm
theorem aEe {l:List Int} {k:Nat} (hk:k < l.length) (h:l.Nodup):nth l k∉l.take k:=fun hm=>by
  obtain ⟨j,hj,e⟩:=iD hm
  rw [List.length_take] at hj
  have e1:nth (l.take k) j=nth l j:=by
    have:=List.take_append_drop k l
    conv=>rhs; rw [← this]
    rw [bE (by rw [List.length_take]; omega)]
  rw [e1] at e
  have a:=(List.nodup_iff_pairwise_ne.1 h)
  have b:=List.pairwise_iff_getElem.1 a j k (by omega) hk (by omega)
  have c1:l[j]'(by omega)=nth l j:=by unfold nth; rw [List.getD_eq_getElem?_getD,List.getElem?_eq_getElem (by omega)]; rfl
  have c2:l[k]'hk=nth l k:=by unfold nth; rw [List.getD_eq_getElem?_getD,List.getElem?_eq_getElem hk]; rfl
  rw [c1,c2] at b
  exact b e
@[simp] theorem aRx {l:List M}:eK (l.map mC)=true:=fQ _ _ fun a=>by simp [mC]
@[simp] theorem aNZ {l:List Sit}:eK (l.map cSi)=true:=fQ _ _ fun a=>by simp [cSi]
def tl1 (x:List Int):List Int:=x.drop 1
abbrev cSp (p:Sit):List V:=[iV (nth p.1 0),aH (tl1 p.1),aH p.2]
@[simp] theorem aQV {l : List Sit} : eK (l.map cSp) = true := fQ _ _ fun a => by
  have h: ∀ l:List Int,eK (l.map cI)=true:=fun l=>by simp
  simp only [cSp,iV,cM,V.pure,h,Bool.and_self,Bool.and_true]
end Go.Proofs.YtmnnhjhkaepbaaaGreat
namespace Go.Proofs.YtmnnhjhkaepbaaaGreat
open Go Go.Proofs
theorem aTq (gs:List (List Int)) (i:Int) (u:Nat) (hb: ∀ k,k < gs.length→(nth gs k).length≤9223372036854775807) (hx:owX gs i=false) (Hi:aF) (hu:(Hi 713).ver=u):dB Tryz.prog 39 [(aD gs),(iV i)] Hi (V.tup [(V.mm 713 (u+1)),(V.bool (decide ((((owE gs gs.length).length:Nat):Int)=i)))]) (upd Hi 713 (bz (u+1) bL 2 (dS (owE gs gs.length)))):=by
 refine eW (k0:=700) Tryz.func39 aDC fun hB=>?_
 unfold s39
 dsimp only
 refine W_r (aA rfl (aA rfl (R_e (W_r (tL (i:=713) (n:=u) (rows:=dS (owE gs 0)) (by rfl) hu rfl (aA rfl (R_e ?_)))))))
 refine aB (W_r (aA rfl (bI rfl (aA rfl (R_e (aE fun Q1 n1 x1 y1 z1=>?_))))))
 refine bP (fun mm T H=> ∃ (k:Nat),mm=gs.length - k∧T 1=(iV i)∧T 6=(V.mm 713 (u+1))∧T 14=(aD gs)∧T 15=(iV ((gs.length:Nat):Int))∧T 16=(iV ((k:Nat):Int))∧(∀ j,j∉[713]→H j=Hi j)∧H 713=(bz (u+1) bL 2 (dS (owE gs k)))∧(k≤gs.length)∧(∀ q,q < k→(nth gs q).length≠0∧ ∀ p,p < (nth gs q).length→owB gs i q p=false)) ?_ ?_
 ·
  refine ⟨_,0,rfl,rfl,rfl,rfl,rfl,(eTq (rVq (iV 0)) rfl),(dE (fun _ _=>rfl) (by decide)),rfl,?_,?_⟩
  · exact Nat.zero_le _
  · intro q hq; omega
 intro mm T H ⟨k,hmm,t1,t6,t14,t15,t16,hF,h713,hk,hc⟩ Q2 p12 p22 p32
 unfold aG1
 refine W_r (bO t16 t15 (R_e ?_))
 refine aJ rfl (fun c3=>?_) fun c3=>?_
 ·
  have hbk:=hb k (by omega)
  refine aG (aE fun Q4 n4 x4 y4 z4=>(W_r (aA t16 (bY (i:=k) t14 t16 (by omega) rfl (aI rfl rfl (aA rfl (aA rfl ?_)))))))
  refine R_e (aB (W_r (aA rfl (bI rfl (gT rfl rfl (R_e ?_))))))
  refine aJ rfl (fun c5=>?_) fun c5=>?_
  ·
   have d1:(nth gs k).length=0:=by have z:=c5; omega
   refine aB (W_r (aA rfl (aA rfl (R_e (bC (y4 _ _ (p22 _ _ ?_)))))))
   refine y1 _ _ (bF (R:=fun T H=>T 4=(V.raw (.map none))∧T 5=(V.bool false)∧(∀ j,j∉[713]→H j=Hi j)∧H 713=(bz (u+1) bL 2 (dS (owE gs k)))∧True) ⟨(rVq (V.raw (.map none))),(rVq (V.bool false)),hF,h713,trivial⟩ ?_)
   intro T H ⟨t4,t5,hF,h713,_⟩
   exfalso; have z:=aEZ (i:=i) (show k < gs.length by omega) (aR2 (i:=i) d1); rw [hx] at z; cases z
  have d1:(nth gs k).length≠0:=by have z:=c5; omega
  refine aG (W_r (aA rfl (bI rfl (aA rfl (R_e (kA fun Q6 n6 x6 y6 z6=>?_))))))
  refine bP (fun mm T H=> ∃ (j:Nat),mm=(nth gs k).length - j∧T 1=(iV i)∧T 6=(V.mm 713 (u+1))∧T 7=(iV ((k:Nat):Int))∧T 14=(aD gs)∧T 15=(iV ((gs.length:Nat):Int))∧T 16=(iV ((k:Nat):Int))∧T 24=(aH (nth gs k))∧T 25=(iV (((nth gs k).length:Nat):Int))∧T 26=(iV ((j:Nat):Int))∧(∀ j,j∉[713]→H j=Hi j)∧H 713=(bz (u+1) bL 2 (dS (owJ gs k j)))∧(j≤(nth gs k).length)∧(∀ p,p < j→owB gs i k p=false)) ?_ ?_
  ·
   refine ⟨_,0,rfl,t1,t6,rfl,t14,t15,t16,(eTq (rVq (aH (nth gs k))) (by rfl)),(eTq (rNq ((nth gs k).length)) (by rfl)),(eTq (rVq (iV 0)) rfl),hF,(eTq h713 (by (rw [aMk]; done))),?_,?_⟩
   · exact Nat.zero_le _
   · intro q hq; omega
  intro mm T H ⟨j,hmm,t1,t6,t7,t14,t15,t16,t24,t25,t26,hF,h713,hj,hc2⟩ Q7 p17 p27 p37
  unfold aHC
  refine W_r (bO t26 t25 (R_e ?_))
  refine aJ rfl (fun c8=>?_) fun c8=>?_
  ·
   refine aG (aE fun Q9 n9 x9 y9 z9=>(W_r (bY (i:=j) t24 t26 (by omega) rfl (aI rfl rfl (aA rfl (R_e (aB ?_)))))))
   refine W_r (aA t6 (aA rfl (aBa (z:=(iV 0)) (u:=(iV (lkI (owJ gs k j) (nth (nth gs k) j)))) (f:=(inI (owJ gs k j) (nth (nth gs k) j))) (rVq (V.mm 713 (u+1))) (rVq (iV (nth (nth gs k) j))) h713 aHJ (aA rfl (cR rfl rfl (cR rfl rfl (aA rfl ?_)))))))
   refine aA rfl (R_e (aB (W_r (aA rfl (aA rfl ?_)))))
   refine cC 3 (fun T H=>T 1=(iV i)∧T 6=(V.mm 713 (u+1))∧T 7=(iV ((k:Nat):Int))∧T 10=(iV (nth (nth gs k) j))∧T 14=(aD gs)∧T 15=(iV ((gs.length:Nat):Int))∧T 16=(iV ((k:Nat):Int))∧T 24=(aH (nth gs k))∧T 25=(iV (((nth gs k).length:Nat):Int))∧T 26=(iV ((j:Nat):Int))∧T 40=(V.bool ((inI (owJ gs k j) (nth (nth gs k) j))||decide ((nth (nth gs k) j) < (0:Int))))∧(∀ j,j∉[713]→H j=Hi j)∧H 713=(bz (u+1) bL 2 (dS (owJ gs k j)))∧True) ?_ ?_
   ·
    by_cases g10:(inI (owJ gs k j) (nth (nth gs k) j))=true
    ·
     refine G_n (ebT g10 rfl) (G_n (ebT g10 rfl) (bZ (ebT g10 rfl) rfl ?_))
     exact ⟨t1,t6,t7,rfl,t14,t15,t16,t24,t25,t26,(aC7 g10),hF,h713,trivial⟩
    ·
     refine aT (ebF g10 rfl) (aA rfl (aT (ebF g10 rfl) (bO rfl rfl (cD (ebF g10 rfl) rfl ?_))))
     exact ⟨t1,t6,t7,rfl,t14,t15,t16,t24,t25,t26,(aDx g10),hF,h713,trivial⟩
   intro T H ⟨t1,t6,t7,t10,t14,t15,t16,t24,t25,t26,t40,hF,h713,_⟩
   refine aA t40 ?_
   refine cC 4 (fun T H=>T 1=(iV i)∧T 6=(V.mm 713 (u+1))∧T 7=(iV ((k:Nat):Int))∧T 10=(iV (nth (nth gs k) j))∧T 14=(aD gs)∧T 15=(iV ((gs.length:Nat):Int))∧T 16=(iV ((k:Nat):Int))∧T 24=(aH (nth gs k))∧T 25=(iV (((nth gs k).length:Nat):Int))∧T 26=(iV ((j:Nat):Int))∧T 45=(V.bool (((inI (owJ gs k j) (nth (nth gs k) j))||decide ((nth (nth gs k) j) < (0:Int)))||decide (i≤(nth (nth gs k) j))))∧(∀ j,j∉[713]→H j=Hi j)∧H 713=(bz (u+1) bL 2 (dS (owJ gs k j)))∧True) ?_ ?_
   ·
    by_cases g11:((inI (owJ gs k j) (nth (nth gs k) j))||decide ((nth (nth gs k) j) < (0:Int)))=true
    ·
     have g11x:=g11
     try simp only [Bool.and_eq_true,Bool.or_eq_true,Bool.not_eq_true',decide_eq_true_eq] at g11x
     refine G_n (ebT g11 rfl) (G_n (ebT g11 rfl) (G_n (ebT g11 rfl) (bZ (ebT g11 rfl) rfl ?_)))
     exact ⟨t1,t6,t7,t10,t14,t15,t16,t24,t25,t26,(aC7 g11),hF,h713,trivial⟩
    ·
     have g11x:=g11
     try simp only [Bool.and_eq_true,Bool.or_eq_true,Bool.not_eq_true',decide_eq_true_eq] at g11x
     refine aT (ebF g11 rfl) (aA t10 (aT (ebF g11 rfl) (aA t1 (aT (ebF g11 rfl) (mM rfl rfl (cD (ebF g11 rfl) rfl ?_))))))
     exact ⟨t1,t6,t7,t10,t14,t15,t16,t24,t25,t26,(aDx g11),hF,h713,trivial⟩
   intro T H ⟨t1,t6,t7,t10,t14,t15,t16,t24,t25,t26,t45,hF,h713,_⟩
   refine R_e ?_
   refine dR t45 (fun c12=>?_) (fun c12=>?_)
   ·
    have d2:owB gs i k j=true:=c12
    refine aB (W_r (aA rfl (aA rfl (R_e (bC (y9 _ _ (p27 _ _ ?_)))))))
    refine y6 _ _ (y4 _ _ (p22 _ _ (y1 _ _ (bF (R:=fun T H=>T 4=(V.raw (.map none))∧T 5=(V.bool false)∧(∀ j,j∉[713]→H j=Hi j)∧H 713=(bz (u+1) bL 2 (dS (owJ gs k j)))∧True) ⟨(rVq (V.raw (.map none))),(rVq (V.bool false)),hF,h713,trivial⟩ ?_))))
    intro T H ⟨t4,t5,hF,h713,_⟩
    exfalso; have z:=aEZ (show k < gs.length by omega) (aTe (show j < (nth gs k).length by omega) d2); rw [hx] at z; cases z
   have d2:owB gs i k j=false:=c12
   have d3:inI (owJ gs k j) (nth (nth gs k) j)=false:=(Bool.or_eq_false_iff.1 (Bool.or_eq_false_iff.1 d2).1).1
   refine aG (W_t (aA t6 (aA t10 (aA t7 (vR (B':=(bz (u+1) bL 2 (dS (owJ gs k (j+1))))) (rVq (V.mm 713 (u+1))) (rVq (iV (nth (nth gs k) j))) (rNq k) h713 ((aTs d3).trans (by rw [aHS (by omega)])) (R_e (n9 _ _ ?_)))))))
   refine .done (W_t (bA t26 (rNq 1) (by omega) (aA rfl (R_e ?_))))
   refine p17 _ _ _ ?_ ⟨(j+1),rfl,t1,t6,t7,t14,t15,t16,t24,t25,(eTq (rNq (j+1)) (by rfl)),(dE hF (by decide)),(eTq (@rfl Blk (bz (u+1) bL 2 (dS (owJ gs k (j+1))))) (by rfl)),?_,?_⟩
   · omega
   · omega
   · intro q hq
     by_cases e:q=j
     · subst e; exact d2
     · exact hc2 q (by omega)
  have ej:owJ gs k j=owE gs (k+1):=aEn (by omega)
  refine aP (p37 _ _ _ (x6 _ _ (n4 _ _ (.done (W_t (bA t16 (rNq 1) (by omega) (aA rfl ?_)))))))
  refine R_e ?_
  refine p12 _ _ _ ?_ ⟨(k+1),rfl,t1,t6,t14,t15,(eTq (rNq (k+1)) (by rfl)),hF,(eTq h713 (by (rw [ej]; done))),?_,?_⟩
  · omega
  · omega
  · intro q hq
    by_cases e:q=k
    · subst e; exact ⟨d1,fun p hp=>hc2 p (by omega)⟩
    · exact hc q (by omega)
 have ek:gs.length=k:=by omega
 refine aP (p32 _ _ _ (x1 _ _ (.done (W_r (aA t6 (aA t6 (aAS (n:=((owE gs k).length)) (rVq (V.mm 713 (u+1))) h713 aR5 ?_)))))))
 refine aA t1 (gT rfl rfl (aA rfl (aA rfl (R_e (bH (bF (R:=fun T H=>T 4=(V.mm 713 (u+1))∧T 5=(V.bool (decide ((((owE gs k).length:Nat):Int)=i)))∧(∀ j,j∉[713]→H j=Hi j)∧H 713=(bz (u+1) bL 2 (dS (owE gs k)))∧True) ⟨(rVq (V.mm 713 (u+1))),(rVq (V.bool (decide ((((owE gs k).length:Nat):Int)=i)))),hF,h713,trivial⟩ ?_))))))
 intro T H ⟨t4,t5,hF,h713,_⟩
 skip
 have fh:=dJ.fin (dJ.put (B:=(bz (u+1) bL 2 (dS (owE gs gs.length)))) (dJ.start hF) h713 (jB.eq (by (rw [ek]; done))))
 exact aCU t4 t5 fh (cV.trans_eq (cV.same fh _) rfl) (cV.trans_eq (cV.same fh _) (by (rw [ek]; done)))
theorem aM3 (gs:List (List Int)) (i:Int) (u:Nat) (hb: ∀ k,k < gs.length→(nth gs k).length≤9223372036854775807) (hx:owX gs i=true) (Hi:aF) (hu:(Hi 713).ver=u):dB Tryz.prog 39 [(aD gs),(iV i)] Hi (V.tup [(V.raw (.map none)),(V.bool false)]) (upd Hi 713 (⟨u+1,false,false,0,0,[]⟩:Blk)):=by
 refine eW (k0:=700) Tryz.func39 aDC fun hB=>?_
 unfold s39
 dsimp only
 refine W_r (aA rfl (aA rfl (R_e (W_r (tL (i:=713) (n:=u) (rows:=dS (owE gs 0)) (by rfl) hu rfl (aA rfl (R_e ?_)))))))
 refine aB (W_r (aA rfl (bI rfl (aA rfl (R_e (aE fun Q1 n1 x1 y1 z1=>?_))))))
 refine bP (fun mm T H=> ∃ (k:Nat),mm=gs.length - k∧T 1=(iV i)∧T 6=(V.mm 713 (u+1))∧T 14=(aD gs)∧T 15=(iV ((gs.length:Nat):Int))∧T 16=(iV ((k:Nat):Int))∧(∀ j,j∉[713]→H j=Hi j)∧H 713=(bz (u+1) bL 2 (dS (owE gs k)))∧(k≤gs.length)∧(∀ q,q < k→(nth gs q).length≠0∧ ∀ p,p < (nth gs q).length→owB gs i q p=false)) ?_ ?_
 ·
  refine ⟨_,0,rfl,rfl,rfl,rfl,rfl,(eTq (rVq (iV 0)) rfl),(dE (fun _ _=>rfl) (by decide)),rfl,?_,?_⟩
  · exact Nat.zero_le _
  · intro q hq; omega
 intro mm T H ⟨k,hmm,t1,t6,t14,t15,t16,hF,h713,hk,hc⟩ Q2 p12 p22 p32
 unfold aG1
 refine W_r (bO t16 t15 (R_e ?_))
 refine aJ rfl (fun c3=>?_) fun c3=>?_
 ·
  have hbk:=hb k (by omega)
  refine aG (aE fun Q4 n4 x4 y4 z4=>(W_r (aA t16 (bY (i:=k) t14 t16 (by omega) rfl (aI rfl rfl (aA rfl (aA rfl ?_)))))))
  refine R_e (aB (W_r (aA rfl (bI rfl (gT rfl rfl (R_e ?_))))))
  refine aJ rfl (fun c5=>?_) fun c5=>?_
  ·
   have d1:(nth gs k).length=0:=by have z:=c5; omega
   refine aB (W_r (aA rfl (aA rfl (R_e (bC (y4 _ _ (p22 _ _ ?_)))))))
   refine y1 _ _ (bF (R:=fun T H=>T 4=(V.raw (.map none))∧T 5=(V.bool false)∧(∀ j,j∉[713]→H j=Hi j)∧H 713=(bz (u+1) bL 2 (dS (owE gs k)))∧True) ⟨(rVq (V.raw (.map none))),(rVq (V.bool false)),hF,h713,trivial⟩ ?_)
   intro T H ⟨t4,t5,hF,h713,_⟩
   skip
   have fh:=dJ.fin (dJ.putv (n:=(u+1)) (B:=(⟨u+1,false,false,0,0,[]⟩:Blk)) (dJ.start hF) (cVq h713) (by show _≤u+1; omega) rfl)
   exact aCU t4 t5 fh (cV.trans_eq (cV.same fh _) rfl) (cV.trans_eq (cV.same fh _) rfl)
  have d1:(nth gs k).length≠0:=by have z:=c5; omega
  refine aG (W_r (aA rfl (bI rfl (aA rfl (R_e (kA fun Q6 n6 x6 y6 z6=>?_))))))
  refine bP (fun mm T H=> ∃ (j:Nat),mm=(nth gs k).length - j∧T 1=(iV i)∧T 6=(V.mm 713 (u+1))∧T 7=(iV ((k:Nat):Int))∧T 14=(aD gs)∧T 15=(iV ((gs.length:Nat):Int))∧T 16=(iV ((k:Nat):Int))∧T 24=(aH (nth gs k))∧T 25=(iV (((nth gs k).length:Nat):Int))∧T 26=(iV ((j:Nat):Int))∧(∀ j,j∉[713]→H j=Hi j)∧H 713=(bz (u+1) bL 2 (dS (owJ gs k j)))∧(j≤(nth gs k).length)∧(∀ p,p < j→owB gs i k p=false)) ?_ ?_
  ·
   refine ⟨_,0,rfl,t1,t6,rfl,t14,t15,t16,(eTq (rVq (aH (nth gs k))) (by rfl)),(eTq (rNq ((nth gs k).length)) (by rfl)),(eTq (rVq (iV 0)) rfl),hF,(eTq h713 (by (rw [aMk]; done))),?_,?_⟩
   · exact Nat.zero_le _
   · intro q hq; omega
  intro mm T H ⟨j,hmm,t1,t6,t7,t14,t15,t16,t24,t25,t26,hF,h713,hj,hc2⟩ Q7 p17 p27 p37
  unfold aHC
  refine W_r (bO t26 t25 (R_e ?_))
  refine aJ rfl (fun c8=>?_) fun c8=>?_
  ·
   refine aG (aE fun Q9 n9 x9 y9 z9=>(W_r (bY (i:=j) t24 t26 (by omega) rfl (aI rfl rfl (aA rfl (R_e (aB ?_)))))))
   refine W_r (aA t6 (aA rfl (aBa (z:=(iV 0)) (u:=(iV (lkI (owJ gs k j) (nth (nth gs k) j)))) (f:=(inI (owJ gs k j) (nth (nth gs k) j))) (rVq (V.mm 713 (u+1))) (rVq (iV (nth (nth gs k) j))) h713 aHJ (aA rfl (cR rfl rfl (cR rfl rfl (aA rfl ?_)))))))
   refine aA rfl (R_e (aB (W_r (aA rfl (aA rfl ?_)))))
   refine cC 3 (fun T H=>T 1=(iV i)∧T 6=(V.mm 713 (u+1))∧T 7=(iV ((k:Nat):Int))∧T 10=(iV (nth (nth gs k) j))∧T 14=(aD gs)∧T 15=(iV ((gs.length:Nat):Int))∧T 16=(iV ((k:Nat):Int))∧T 24=(aH (nth gs k))∧T 25=(iV (((nth gs k).length:Nat):Int))∧T 26=(iV ((j:Nat):Int))∧T 40=(V.bool ((inI (owJ gs k j) (nth (nth gs k) j))||decide ((nth (nth gs k) j) < (0:Int))))∧(∀ j,j∉[713]→H j=Hi j)∧H 713=(bz (u+1) bL 2 (dS (owJ gs k j)))∧True) ?_ ?_
   ·
    by_cases g10:(inI (owJ gs k j) (nth (nth gs k) j))=true
    ·
     refine G_n (ebT g10 rfl) (G_n (ebT g10 rfl) (bZ (ebT g10 rfl) rfl ?_))
     exact ⟨t1,t6,t7,rfl,t14,t15,t16,t24,t25,t26,(aC7 g10),hF,h713,trivial⟩
    ·
     refine aT (ebF g10 rfl) (aA rfl (aT (ebF g10 rfl) (bO rfl rfl (cD (ebF g10 rfl) rfl ?_))))
     exact ⟨t1,t6,t7,rfl,t14,t15,t16,t24,t25,t26,(aDx g10),hF,h713,trivial⟩
   intro T H ⟨t1,t6,t7,t10,t14,t15,t16,t24,t25,t26,t40,hF,h713,_⟩
   refine aA t40 ?_
   refine cC 4 (fun T H=>T 1=(iV i)∧T 6=(V.mm 713 (u+1))∧T 7=(iV ((k:Nat):Int))∧T 10=(iV (nth (nth gs k) j))∧T 14=(aD gs)∧T 15=(iV ((gs.length:Nat):Int))∧T 16=(iV ((k:Nat):Int))∧T 24=(aH (nth gs k))∧T 25=(iV (((nth gs k).length:Nat):Int))∧T 26=(iV ((j:Nat):Int))∧T 45=(V.bool (((inI (owJ gs k j) (nth (nth gs k) j))||decide ((nth (nth gs k) j) < (0:Int)))||decide (i≤(nth (nth gs k) j))))∧(∀ j,j∉[713]→H j=Hi j)∧H 713=(bz (u+1) bL 2 (dS (owJ gs k j)))∧True) ?_ ?_
   ·
    by_cases g11:((inI (owJ gs k j) (nth (nth gs k) j))||decide ((nth (nth gs k) j) < (0:Int)))=true
    ·
     have g11x:=g11
     try simp only [Bool.and_eq_true,Bool.or_eq_true,Bool.not_eq_true',decide_eq_true_eq] at g11x
     refine G_n (ebT g11 rfl) (G_n (ebT g11 rfl) (G_n (ebT g11 rfl) (bZ (ebT g11 rfl) rfl ?_)))
     exact ⟨t1,t6,t7,t10,t14,t15,t16,t24,t25,t26,(aC7 g11),hF,h713,trivial⟩
    ·
     have g11x:=g11
     try simp only [Bool.and_eq_true,Bool.or_eq_true,Bool.not_eq_true',decide_eq_true_eq] at g11x
     refine aT (ebF g11 rfl) (aA t10 (aT (ebF g11 rfl) (aA t1 (aT (ebF g11 rfl) (mM rfl rfl (cD (ebF g11 rfl) rfl ?_))))))
     exact ⟨t1,t6,t7,t10,t14,t15,t16,t24,t25,t26,(aDx g11),hF,h713,trivial⟩
   intro T H ⟨t1,t6,t7,t10,t14,t15,t16,t24,t25,t26,t45,hF,h713,_⟩
   refine R_e ?_
   refine dR t45 (fun c12=>?_) (fun c12=>?_)
   ·
    have d2:owB gs i k j=true:=c12
    refine aB (W_r (aA rfl (aA rfl (R_e (bC (y9 _ _ (p27 _ _ ?_)))))))
    refine y6 _ _ (y4 _ _ (p22 _ _ (y1 _ _ (bF (R:=fun T H=>T 4=(V.raw (.map none))∧T 5=(V.bool false)∧(∀ j,j∉[713]→H j=Hi j)∧H 713=(bz (u+1) bL 2 (dS (owJ gs k j)))∧True) ⟨(rVq (V.raw (.map none))),(rVq (V.bool false)),hF,h713,trivial⟩ ?_))))
    intro T H ⟨t4,t5,hF,h713,_⟩
    skip
    have fh:=dJ.fin (dJ.putv (n:=(u+1)) (B:=(⟨u+1,false,false,0,0,[]⟩:Blk)) (dJ.start hF) (cVq h713) (by show _≤u+1; omega) rfl)
    exact aCU t4 t5 fh (cV.trans_eq (cV.same fh _) rfl) (cV.trans_eq (cV.same fh _) rfl)
   have d2:owB gs i k j=false:=c12
   have d3:inI (owJ gs k j) (nth (nth gs k) j)=false:=(Bool.or_eq_false_iff.1 (Bool.or_eq_false_iff.1 d2).1).1
   refine aG (W_t (aA t6 (aA t10 (aA t7 (vR (B':=(bz (u+1) bL 2 (dS (owJ gs k (j+1))))) (rVq (V.mm 713 (u+1))) (rVq (iV (nth (nth gs k) j))) (rNq k) h713 ((aTs d3).trans (by rw [aHS (by omega)])) (R_e (n9 _ _ ?_)))))))
   refine .done (W_t (bA t26 (rNq 1) (by omega) (aA rfl (R_e ?_))))
   refine p17 _ _ _ ?_ ⟨(j+1),rfl,t1,t6,t7,t14,t15,t16,t24,t25,(eTq (rNq (j+1)) (by rfl)),(dE hF (by decide)),(eTq (@rfl Blk (bz (u+1) bL 2 (dS (owJ gs k (j+1))))) (by rfl)),?_,?_⟩
   · omega
   · omega
   · intro q hq
     by_cases e:q=j
     · subst e; exact d2
     · exact hc2 q (by omega)
  have ej:owJ gs k j=owE gs (k+1):=aEn (by omega)
  refine aP (p37 _ _ _ (x6 _ _ (n4 _ _ (.done (W_t (bA t16 (rNq 1) (by omega) (aA rfl ?_)))))))
  refine R_e ?_
  refine p12 _ _ _ ?_ ⟨(k+1),rfl,t1,t6,t14,t15,(eTq (rNq (k+1)) (by rfl)),hF,(eTq h713 (by (rw [ej]; done))),?_,?_⟩
  · omega
  · omega
  · intro q hq
    by_cases e:q=k
    · subst e; exact ⟨d1,fun p hp=>hc2 p (by omega)⟩
    · exact hc q (by omega)
 have ek:gs.length=k:=by omega
 refine aP (p32 _ _ _ (x1 _ _ (.done (W_r (aA t6 (aA t6 (aAS (n:=((owE gs k).length)) (rVq (V.mm 713 (u+1))) h713 aR5 ?_)))))))
 refine aA t1 (gT rfl rfl (aA rfl (aA rfl (R_e (bH (bF (R:=fun T H=>T 4=(V.mm 713 (u+1))∧T 5=(V.bool (decide ((((owE gs k).length:Nat):Int)=i)))∧(∀ j,j∉[713]→H j=Hi j)∧H 713=(bz (u+1) bL 2 (dS (owE gs k)))∧True) ⟨(rVq (V.mm 713 (u+1))),(rVq (V.bool (decide ((((owE gs k).length:Nat):Int)=i)))),hF,h713,trivial⟩ ?_))))))
 intro T H ⟨t4,t5,hF,h713,_⟩
 exfalso; have z:=aHE (fun q hq=>hc q (by omega)); rw [hx] at z; cases z
end Go.Proofs.YtmnnhjhkaepbaaaGreat
namespace Go.Proofs.YtmnnhjhkaepbaaaGreat
open Go Go.Proofs
attribute [local irreducible] rP
theorem vZ (x w:List Int) (hx: ∀ v∈x,0≤v∧v < 256) (hl:x.length≤1000):aS Tryz.prog 40 [(V.agg [(aH x),(aH w)])] (V.str (kyS x)):=by
 refine pW Tryz.func40 aIc fun hB=>?_
 unfold s40
 dsimp only
 refine W_r (eU (i:=1) (n:=0) (m:=2) (cs:=[(aH x),(aH w)]) rfl (cVq rfl) rfl rfl rfl (aA rfl (R_e (W_r (bR rfl rfl (bD rfl rfl rfl rfl (bI rfl ?_)))))))
 refine oK (i:=9) (n:=0) (m:=x.length) (q:=x.length) (f:=bB) (x:=(0:UInt8)) rfl (cVq rfl) (rNq x.length) (rNq x.length) rfl (by omega) (by omega) (by omega) (aA rfl (R_e (aB (W_r (bR rfl rfl (bD rfl rfl rfl rfl (bI rfl ?_)))))))
 refine aA rfl (R_e (aE fun Q1 n1 x1 y1 z1=>?_))
 refine bP (fun mm T H=> ∃ (k:Nat),mm=x.length - k∧T 3=(V.ms 9 1 0 x.length)∧T 11=(aH x)∧T 12=(iV ((x.length:Nat):Int))∧T 13=(iV ((k:Nat):Int))∧H 1=(bk 1 80 2 [[(aH x),(aH w)]])∧H 9=(bk 1 5 1 (List.map bB (kyP x k)))∧(k≤x.length)) ?_ ?_
 ·
  refine ⟨_,0,rfl,rfl,rfl,rfl,(eTq (rVq (iV 0)) rfl),rfl,(eTq (@rfl Blk (bk 1 5 1 (List.map bB (List.replicate x.length (0:UInt8))))) (by (rw [kyP,← aA5,List.map_replicate]; first|done|rfl))),?_⟩
  · exact Nat.zero_le _
 intro mm T H ⟨k,hmm,t3,t11,t12,t13,h1,h9,hk⟩ Q2 p12 p22 p32
 unfold aL1
 refine W_r (bO t13 t12 (R_e ?_))
 refine aJ rfl (fun c3=>?_) fun c3=>?_
 ·
  have rx:=hx _ (aR (show k < x.length by omega))
  refine aG (aE fun Q4 n4 x4 y4 z4=>(W_r (aA t13 (bY (i:=k) t11 t13 (by omega) rfl (aI rfl rfl (aA rfl (aA rfl ?_)))))))
  refine R_e (W_t (aA t3 (aA rfl (aA rfl (aKv (x:=(nth x k)) (rVq (iV (nth x k))) (by omega) (by omega) (bW (i:=k) (rVq (V.ms 9 1 0 x.length)) (rNq k) h9 oB rfl (by omega) (bJ (vs:=[(u8V (UInt8.ofNat (nth x k).toNat))]) (B':=(bk 1 5 1 (List.map bB ((kyP x k).set k (UInt8.ofNat (nth x k).toNat))))) rfl rfl rfl h9 (gB (x:=(UInt8.ofNat (nth x k).toNat)) (i:=k) (by (unfold kyP; rw [gO]; omega)) rfl rfl rfl rfl) ?_)))))))
  refine R_e (n4 _ _ (.done (W_t (bA t13 (rNq 1) (by omega) (aA rfl (R_e ?_))))))
  refine p12 _ _ _ ?_ ⟨(k+1),rfl,t3,t11,t12,(eTq (rNq (k+1)) (by rfl)),h1,(eTq (@rfl Blk (bk 1 5 1 (List.map bB ((kyP x k).set k (UInt8.ofNat (nth x k).toNat))))) (by (rw [kyP,kyP,← oT (f:=fun j=>UInt8.ofNat (nth x j).toNat) (z:=(0:UInt8)) (n:=x.length) (j:=k) (by omega)]; first|done|rfl))),?_⟩
  · omega
  · omega
 refine aP (p32 _ _ _ (x1 _ _ (bF (R:=fun T H=>T 3=(V.ms 9 1 0 x.length)∧T 11=(aH x)∧T 12=(iV ((x.length:Nat):Int))∧T 13=(iV ((k:Nat):Int))∧T 14=(V.bool (decide (((k:Nat):Int) < ((x.length:Nat):Int))))∧H 1=(bk 1 80 2 [[(aH x),(aH w)]])∧H 9=(bk 1 5 1 (List.map bB (kyP x k)))∧True) ⟨t3,t11,t12,t13,(rVq (V.bool (decide (((k:Nat):Int) < ((x.length:Nat):Int))))),h1,h9,trivial⟩ ?_)))
 intro T H ⟨t3,t11,t12,t13,t14,h1,h9,_⟩
 refine .freeze 9 (.done ?_)
 refine bF (R:=fun T H=>T 3=(V.sl (List.map bB (kyP x k)))∧T 11=(aH x)∧T 12=(iV ((x.length:Nat):Int))∧T 13=(iV ((k:Nat):Int))∧T 14=(V.bool (decide (((k:Nat):Int) < ((x.length:Nat):Int))))∧H 1=(bk 1 80 2 [[(aH x),(aH w)]])∧((H 9).ver=1∧(H 9).live=false)∧True) ⟨(aK t3 (kC h9 (by rfl) (l:=(kyP x k)) rfl (by exact gO.symm))),(aK t11 rfl),(aK t12 rfl),(aK t13 rfl),(aK t14 rfl),(aL h1 (by decide)),(bN (cVq h9)),trivial⟩ ?_
 intro T H ⟨t3,t11,t12,t13,t14,h1,h9,_⟩
 refine W_r (aA t3 (aJU (l:=(kyP x k)) (rVq (V.sl (List.map bB (kyP x k)))) (aA rfl (R_e (bH ?_)))))
 refine bS (rVq (V.str (kyP x k))) (eD (by simp) ?_)
 · rw [aJh (by omega)]
end Go.Proofs.YtmnnhjhkaepbaaaGreat
namespace Go.Proofs.YtmnnhjhkaepbaaaGreat
open Go Go.Proofs
theorem aAD (m:M) (x w:List Int) (a g:Nat) (hm:aV m=0) (hg:g+1 < x.length) (h0:0≤nth x 0∧nth x 0 < m.nx.length) (h1:0≤nth x (g+1)∧nth x (g+1) < m.nx.length) (ha:a < m.i.toNat) (hxl:x.length≤1000) (hw:w.length≤100000):aS Tryz.prog 41 [(V.agg [(aH x),(aH w)]),(V.agg [(iV m.i),(iV m.s),(aD m.nx),(aD m.ot)]),(iV ((a:Nat):Int)),(iV ((g:Nat):Int))] (V.agg [(aH (fN m x a g)),(aH (rX w a))]):=by
 refine pW Tryz.func41 aGT fun hB=>?_
 unfold s41
 dsimp only
 have mo:=bK hm
 have r0:=mo.2.2.2.2.2.2.2 (nth x 0).toNat (by omega)
 have r1:=mo.2.2.2.2.2.2.2 (nth x (g+1)).toNat (by omega)
 have e1:nth (x.set 0 (nth (nth m.nx (nth x 0).toNat) a)) (g+1)=nth x (g+1):=by rw [fX (by omega),if_neg (by omega)]
 refine W_r (eU (i:=4) (n:=0) (m:=2) (cs:=[(aH x),(aH w)]) rfl (cVq rfl) rfl rfl rfl (eU (i:=5) (n:=0) (m:=4) (cs:=[(iV m.i),(iV m.s),(aD m.nx),(aD m.ot)]) rfl (cVq rfl) rfl rfl rfl (eR (i:=8) (n:=0) (m:=2) rfl (cVq rfl) rfl (R_e (W_r (fF (i:=10) (n:=0) rfl (cVq rfl) (bR rfl rfl ?_)))))))
 refine bD rfl rfl rfl rfl (jG (l:=([])) (m:=x) (f:=cI) (rVq (V.ms 10 1 0 0)) (show _=(bz 1 3 1 (List.map cI ([]))) from (@rfl Blk (bz 1 3 1 []))) (by rfl) (rVq (aH x)) (fun _=>rfl) (fun _=>rfl) (by omega) (by omega) (aA rfl (R_e (W_r (aA rfl (bR rfl rfl (bD rfl rfl rfl rfl ?_)))))))
 refine aA rfl (bW (i:=0) (rVq (V.ms 10 2 0 (0+x.length))) (rNq 0) (@rfl Blk (bz 2 3 1 (List.map cI x))) (cW (by omega)) rfl (by omega) (bT (v:=(iV (nth x 0))) rfl (@rfl Blk (bz 2 3 1 (List.map cI x))) (dY (by omega) (by rfl)) (dX (i:=(nth x 0)) (rVq (aD m.nx)) (rVq (iV (nth x 0))) (by omega) (by omega) rfl (aI rfl rfl (aA rfl (bY (i:=a) (rVq (aH (nth m.nx (nth x 0).toNat))) (rNq a) (by omega) rfl (aI rfl rfl ?_)))))))
 refine bW (i:=0) (rVq (V.ms 10 2 0 (0+x.length))) (rNq 0) (@rfl Blk (bz 2 3 1 (List.map cI x))) (cW (by omega)) rfl (by omega) (bJ (vs:=[(iV (nth (nth m.nx (nth x 0).toNat) a))]) (B':=(bz 2 3 1 (List.map cI (x.set 0 (nth (nth m.nx (nth x 0).toNat) a))))) rfl rfl rfl (@rfl Blk (bz 2 3 1 (List.map cI x))) (gB (x:=(nth (nth m.nx (nth x 0).toNat) a)) (i:=0) (by omega) rfl rfl rfl rfl) (R_e (W_r (aA rfl (aA rfl (bA rfl (rNq 1) (by omega) (bR rfl rfl ?_)))))))
 refine bD rfl rfl rfl rfl (aA rfl (aA rfl (bA rfl (rNq 1) (by omega) (bW (i:=(g+1)) (rVq (V.ms 10 2 0 (0+x.length))) (rNq (g+1)) (@rfl Blk (bz 2 3 1 (List.map cI (x.set 0 (nth (nth m.nx (nth x 0).toNat) a))))) (cW (by (rw [List.length_set]; omega))) rfl (by omega) (bT (v:=(iV (nth (x.set 0 (nth (nth m.nx (nth x 0).toNat) a)) (g+1)))) rfl (@rfl Blk (bz 2 3 1 (List.map cI (x.set 0 (nth (nth m.nx (nth x 0).toNat) a))))) (dY (by (rw [List.length_set]; omega)) (by rfl)) (dX (i:=(nth (x.set 0 (nth (nth m.nx (nth x 0).toNat) a)) (g+1))) (rVq (aD m.nx)) (rVq (iV (nth (x.set 0 (nth (nth m.nx (nth x 0).toNat) a)) (g+1)))) (by omega) (by omega) rfl (aI rfl rfl ?_)))))))
 refine aA rfl (bY (i:=a) (rVq (aH (nth m.nx (nth (x.set 0 (nth (nth m.nx (nth x 0).toNat) a)) (g+1)).toNat))) (rNq a) (by (rw [e1]; omega)) rfl (aI rfl rfl (bW (i:=(g+1)) (rVq (V.ms 10 2 0 (0+x.length))) (rNq (g+1)) (@rfl Blk (bz 2 3 1 (List.map cI (x.set 0 (nth (nth m.nx (nth x 0).toNat) a))))) (cW (by (rw [List.length_set]; omega))) rfl (by omega) (bJ (vs:=[(iV (nth (nth m.nx (nth (x.set 0 (nth (nth m.nx (nth x 0).toNat) a)) (g+1)).toNat) a))]) (B':=(bz 2 3 1 (List.map cI ((x.set 0 (nth (nth m.nx (nth x 0).toNat) a)).set (g+1) (nth (nth m.nx (nth (x.set 0 (nth (nth m.nx (nth x 0).toNat) a)) (g+1)).toNat) a))))) rfl rfl rfl (@rfl Blk (bz 2 3 1 (List.map cI (x.set 0 (nth (nth m.nx (nth x 0).toNat) a))))) (gB (x:=(nth (nth m.nx (nth (x.set 0 (nth (nth m.nx (nth x 0).toNat) a)) (g+1)).toNat) a)) (i:=(g+1)) (by (rw [List.length_set]; omega)) rfl rfl rfl rfl) (R_e ?_)))))
 refine oI (fun T H=>T 8=(mPq 8)∧H 4=(bk 1 80 2 [[(aH x),(aH w)]])∧H 5=(bMq m)∧H 8=(bk 1 80 2 [[(V.ms 10 2 0 (0+x.length)),(V.ms 43 3 0 ((0+w.length)+1))]])∧H 10=(bz 2 3 1 (List.map cI ((x.set 0 (nth (nth m.nx (nth x 0).toNat) a)).set (g+1) (nth (nth m.nx (nth (x.set 0 (nth (nth m.nx (nth x 0).toNat) a)) (g+1)).toNat) a))))∧H 43=(bz 3 3 1 (List.map cI (w++[((a:Nat):Int)])))∧True) ?_ ?_
 ·
  refine aA rfl (fF (i:=43) (n:=0) rfl (cVq rfl) (bR rfl rfl (bD rfl rfl rfl rfl (jG (l:=([])) (m:=w) (f:=cI) (rVq (V.ms 43 1 0 0)) (show _=(bz 1 3 1 (List.map cI ([]))) from (@rfl Blk (bz 1 3 1 []))) (by rfl) (rVq (aH w)) (fun _=>rfl) (fun _=>rfl) (by omega) (by omega) (aA rfl (cO rfl rfl (cH (l:=w) (f:=cI) (x:=((a:Nat):Int)) (rVq (V.ms 43 2 0 (0+w.length))) (@rfl Blk (bz 2 3 1 (List.map cI w))) (by simp) (rVq (V.sl [[(iV ((a:Nat):Int))]])) rfl rfl (by omega) (by omega) ?_)))))))
  refine fY rfl rfl (aOp rfl rfl rfl rfl rfl rfl rfl rfl rfl ?_)
  exact iQ ⟨rfl,rfl,rfl,rfl,rfl,rfl,trivial⟩
 intro T H ⟨t8,h4,h5,h8,h10,h43,_⟩
 refine bH ?_
 refine aHQ (lW (u:=(V.agg [(V.ms 10 2 0 (0+x.length)),(V.ms 43 3 0 ((0+w.length)+1))])) t8 h8 (lB oB rfl rfl)) (aK1 (kN h10 (by rfl) (l:=((x.set 0 (nth (nth m.nx (nth x 0).toNat) a)).set (g+1) (nth (nth m.nx (nth (x.set 0 (nth (nth m.nx (nth x 0).toNat) a)) (g+1)).toNat) a))) rfl (by simp) (fun _=>by simp) ?_) (kN h43 (by rfl) (l:=(w++[((a:Nat):Int)])) rfl (by simp) (fun _=>by simp) ?_))
 · first|rfl|(rw [fN]; rfl)|skip
 · first|rfl|(rw [fN]; rfl)|skip
end Go.Proofs.YtmnnhjhkaepbaaaGreat
namespace Go.Proofs.YtmnnhjhkaepbaaaGreat
open Go Go.Proofs
attribute [local irreducible] rP
theorem aFD (m:M) (gs:List (List Int)) (hg:gs.length≤4):aS Tryz.prog 18 [(V.agg [(iV m.i),(iV m.s),(aD m.nx),(aD m.ot)]),(aD gs)] (V.tup [(aH ((isD m gs).1)),(V.bool ((isD m gs).2.1)),(iV ((isD m gs).2.2))]):=by
 refine pW Tryz.func18 aGM fun hB=>?_
 unfold s18
 dsimp only
 have hb:=hB.2.2
 refine W_r (eU (i:=2) (n:=0) (m:=4) (cs:=[(iV m.i),(iV m.s),(aD m.nx),(aD m.ot)]) rfl (cVq rfl) rfl rfl rfl (aA rfl (aA rfl (aA rfl (R_e (aB (W_r ?_)))))))
 refine bD rfl rfl rfl rfl (aX (gI m) rfl (aA rfl (R_e (aB (W_r (aA rfl (fB rfl rfl ?_)))))))
 refine R_e ?_
 refine aJ rfl (fun c1=>?_) fun c1=>?_
 ·
  have d0:=c1
  have e9:isD m gs=([],false,aV m):=by unfold isD; rw [if_pos d0]
  refine aB (W_r (aA rfl (aA rfl (aA rfl (aA rfl (R_e (bC ?_)))))))
  refine pP (rVq V.nilsl) (rVq (V.bool false)) (rVq (iV (aV m))) (gG ?_) (eM ?_) (aW ?_)
  · rw [e9]; try rfl
  · rw [e9]; try rfl
  · rw [e9]; try rfl
 have hm:aV m=0:=by omega
 have mo:=bK hm
 refine aG (kK fun K hK=>(aA rfl (bR rfl rfl (bD rfl rfl rfl rfl ?_))))
 by_cases heF:owX gs m.i=true
 ·
  refine jA (bV rfl (bV rfl fP)) (aM3 gs m.i 0 hb heF _ (cVq rfl)) (aA rfl (cR rfl rfl (cR rfl rfl (aA rfl (aA rfl ?_)))))
  refine iQ (hK _ _ ?_); clear hK K
  refine bF (R:=fun T H=>T 1=(aD gs)∧T 2=(mPq 2)∧T 8=(V.raw (.map none))∧T 9=(V.bool false)∧H 2=(bMq m)∧H 10=bZq∧H 15=bZq∧H 18=bZq∧H 36=bZq∧H 51=bZq∧H 56=bZq∧H 713=(⟨1,false,false,0,0,[]⟩:Blk)∧True) ⟨rfl,rfl,rfl,rfl,rfl,rfl,rfl,rfl,rfl,rfl,rfl,rfl,trivial⟩ ?_
  intro T H ⟨t1,t2,t8,t9,h2,h10,h15,h18,h36,h51,h56,h713,_⟩
  refine aB (W_r (aA t9 (aAX rfl (R_e ?_))))
  refine dR rfl (fun c4=>?_) (fun c4=>?_)
  ·
   have e2:gsD gs m.i=false:=by first|exact aLP heF|exact aMm c4
   have e9:isD m gs=([],false,1):=by unfold isD; rw [if_neg (by omega),if_neg (by rw [e2]; decide)]
   refine aB (W_r (aA rfl (aA rfl (aA rfl (R_e (bC ?_))))))
   refine pP (rVq V.nilsl) (rVq (V.bool false)) (rVq (iV 1)) (gG ?_) (eM ?_) (aW ?_)
   · rw [e9]; try rfl
   · rw [e9]; try rfl
   · rw [e9]; try rfl
  · cases c4
 ·
  refine jA (bV rfl (bV rfl fP)) (aTq gs m.i 0 hb (by simpa using heF) _ (cVq rfl)) (aA rfl (cR rfl rfl (cR rfl rfl (aA rfl (aA rfl ?_)))))
  refine iQ (hK _ _ ?_); clear hK K
  refine bF (R:=fun T H=>T 1=(aD gs)∧T 2=(mPq 2)∧T 8=(V.mm 713 1)∧T 9=(V.bool (decide ((((owE gs gs.length).length:Nat):Int)=m.i)))∧H 2=(bMq m)∧H 10=bZq∧H 15=bZq∧H 18=bZq∧H 36=bZq∧H 51=bZq∧H 56=bZq∧H 713=(bz 1 bL 2 (dS (owE gs gs.length)))∧True) ⟨rfl,rfl,rfl,rfl,rfl,rfl,rfl,rfl,rfl,rfl,rfl,rfl,trivial⟩ ?_
  intro T H ⟨t1,t2,t8,t9,h2,h10,h15,h18,h36,h51,h56,h713,_⟩
  refine aB (W_r (aA t9 (aBP rfl (R_e ?_))))
  refine aJ rfl (fun c7=>?_) fun c7=>?_
  ·
   have e2:gsD gs m.i=false:=by first|exact aLP heF|exact aMm c7
   have e9:isD m gs=([],false,1):=by unfold isD; rw [if_neg (by omega),if_neg (by rw [e2]; decide)]
   refine aB (W_r (aA rfl (aA rfl (aA rfl (R_e (bC ?_))))))
   refine pP (rVq V.nilsl) (rVq (V.bool false)) (rVq (iV 1)) (gG ?_) (eM ?_) (aW ?_)
   · rw [e9]; try rfl
   · rw [e9]; try rfl
   · rw [e9]; try rfl
  have e3:gsD gs m.i=true:=aSI heF (by have z:=c7; omega)
  have e8:isD m gs=isL m gs 4097 0 (is0 m gs):=by unfold isD; rw [if_neg (by omega),if_pos e3]
  refine aG ?_
  refine mY (fun T H=>T 2=(mPq 2)∧T 8=(V.mm 713 1)∧T 10=(mPq 10)∧H 2=(bMq m)∧H 10=(bk 1 80 2 [[(V.ms 36 1 0 (gs.length+1)),V.nilsl]])∧H 15=bZq∧H 18=bZq∧H 36=(bk 1 3 1 (List.map cI (List.replicate (gs.length+1) 0)))∧H 51=bZq∧H 56=bZq∧H 713=(bz 1 bL 2 (dS (owE gs gs.length)))∧True) ?_ ?_
  ·
   refine aA t1 (bI rfl (bA rfl (rNq 1) (by omega) (oK (i:=36) (n:=0) (m:=(gs.length+1)) (q:=(gs.length+1)) (f:=cI) (x:=0) rfl (cVq h36) (rNq (gs.length+1)) (rNq (gs.length+1)) rfl (by omega) (by omega) (by omega) (fY rfl rfl (eR (i:=10) (n:=0) (m:=2) rfl (cVq h10) rfl (bJ (vs:=[(V.ms 36 1 0 (gs.length+1)),V.nilsl]) (B':=(bk 1 80 2 [[(V.ms 36 1 0 (gs.length+1)),V.nilsl]])) rfl rfl rfl rfl (sB oB rfl rfl rfl rfl rfl) ?_))))))
   exact iQ ⟨t2,t8,rfl,h2,rfl,h15,h18,rfl,h51,h56,h713,trivial⟩
  intro T H ⟨t2,t8,t10,h2,h10,h15,h18,h36,h51,h56,h713,_⟩
  refine aOR (r':=[(V.ms 36 1 0 (gs.length+1)),(aH ([]))]) h10 rfl (.done ?_)
  refine bF (R:=fun T H=>T 2=(mPq 2)∧T 8=(V.mm 713 1)∧T 10=(mPq 10)∧H 2=(bMq m)∧H 10=(bk 1 80 2 [[(V.ms 36 1 0 (gs.length+1)),(aH ([]))]])∧H 15=bZq∧H 18=bZq∧H 36=(bk 1 3 1 (List.map cI (List.replicate (gs.length+1) 0)))∧H 51=bZq∧H 56=bZq∧H 713=(bz 1 bL 2 (dS (owE gs gs.length)))∧True) ⟨t2,t8,t10,(uTq h2),(aC _ _ _),(uTq h15),(uTq h18),(uTq h36),(uTq h51),(uTq h56),(uTq h713),trivial⟩ ?_
  intro T H ⟨t2,t8,t10,h2,h10,h15,h18,h36,h51,h56,h713,_⟩
  refine aB (W_r (bR t10 h10 (bD rfl h10 rfl rfl (dK rfl h36 (by rfl) (aA rfl (R_e (aE fun Q8 n8 x8 y8 z8=>?_)))))))
  refine bP (fun mm T H=> ∃ (k:Nat),mm=(gs.length+1) - k∧T 2=(mPq 2)∧T 8=(V.mm 713 1)∧T 10=(mPq 10)∧T 40=(iV (((gs.length+1):Nat):Int))∧T 41=(iV ((k:Nat):Int))∧H 2=(bMq m)∧H 10=(bk 1 80 2 [[(V.ms 36 1 0 (gs.length+1)),(aH ([]))]])∧H 15=bZq∧H 18=bZq∧H 36=(bk 1 3 1 (List.map cI (dL (fun _=>m.s) 0 (gs.length+1) k)))∧H 51=bZq∧H 56=bZq∧H 713=(bz 1 bL 2 (dS (owE gs gs.length)))∧(k≤(gs.length+1))) ?_ ?_
  ·
   refine ⟨_,0,rfl,t2,t8,t10,(eTq (rNq (gs.length+1)) (by rfl)),(eTq (rVq (iV 0)) rfl),h2,(eTq h10 (by rfl)),h15,h18,(eTq h36 (by (rw [← aA5,List.map_replicate]; first|done|rfl))),h51,h56,h713,?_⟩
   · exact Nat.zero_le _
  intro mm T H ⟨k,hmm,t2,t8,t10,t40,t41,h2,h10,h15,h18,h36,h51,h56,h713,hk⟩ Q9 p19 p29 p39
  unfold aMB
  refine W_r (bO t41 t40 (R_e ?_))
  refine aJ rfl (fun c10=>?_) fun c10=>?_
  ·
   refine aG (aE fun Q11 n11 x11 y11 z11=>(W_r (aA t41 (aA rfl (R_e (W_t (bR t10 h10 ?_)))))))
   refine bD rfl h10 rfl rfl (aA rfl (bR t2 h2 (bD rfl h2 rfl rfl (bW (i:=k) (rVq (V.ms 36 1 0 (gs.length+1))) (rNq k) h36 oB rfl (by omega) (bJ (vs:=[(iV m.s)]) (B':=(bk 1 3 1 (List.map cI ((dL (fun _=>m.s) 0 (gs.length+1) k).set k m.s)))) rfl rfl rfl h36 (gB (x:=m.s) (i:=k) (by (rw [gO]; omega)) rfl rfl rfl rfl) (R_e (n11 _ _ ?_)))))))
   refine .done (W_t (bA t41 (rNq 1) (by omega) (aA rfl (R_e ?_))))
   refine p19 _ _ _ ?_ ⟨(k+1),rfl,t2,t8,t10,t40,(eTq (rNq (k+1)) (by rfl)),h2,h10,h15,h18,(eTq (@rfl Blk (bk 1 3 1 (List.map cI ((dL (fun _=>m.s) 0 (gs.length+1) k).set k m.s)))) (by (rw [← oT (f:=fun _=>m.s) (z:=0) (n:=(gs.length+1)) (j:=k) (by omega)]; first|done|rfl))),h51,h56,h713,?_⟩
   · omega
   · omega
  have e5:dL (fun _=>m.s) 0 (gs.length+1) k=List.replicate (gs.length+1) m.s:=aOu (by omega)
  refine aP (p39 _ _ _ (x8 _ _ (bF (R:=fun T H=>T 2=(mPq 2)∧T 8=(V.mm 713 1)∧T 10=(mPq 10)∧T 40=(iV (((gs.length+1):Nat):Int))∧T 41=(iV ((k:Nat):Int))∧T 42=(V.bool (decide (((k:Nat):Int) < (((gs.length+1):Nat):Int))))∧H 2=(bMq m)∧H 10=(bk 1 80 2 [[(V.ms 36 1 0 (gs.length+1)),(aH ([]))]])∧H 15=bZq∧H 18=bZq∧H 36=(bk 1 3 1 (List.map cI (dL (fun _=>m.s) 0 (gs.length+1) k)))∧H 51=bZq∧H 56=bZq∧H 713=(bz 1 bL 2 (dS (owE gs gs.length)))∧True) ⟨t2,t8,t10,t40,t41,(rVq (V.bool (decide (((k:Nat):Int) < (((gs.length+1):Nat):Int))))),h2,h10,h15,h18,h36,h51,h56,h713,trivial⟩ ?_)))
  intro T H ⟨t2,t8,t10,t40,t41,t42,h2,h10,h15,h18,h36,h51,h56,h713,_⟩
  refine aF7 (id:=36) (id2:=10) (rows:=[[(V.ms 36 1 0 (gs.length+1)),(aH ([]))]]) (i:=0) (off:=0) (r:=[(V.ms 36 1 0 (gs.length+1)),(aH ([]))]) (m:=(dL (fun _=>m.s) 0 (gs.length+1) k)) (g:=cI) (by decide) h36 h10 (by (simp only [List.length_cons,List.length_nil]; omega)) (by exact gO.symm) rfl (.done ?_)
  refine bF (R:=fun T H=>T 2=(mPq 2)∧T 8=(V.mm 713 1)∧T 10=(mPq 10)∧T 40=(iV (((gs.length+1):Nat):Int))∧T 41=(iV ((k:Nat):Int))∧T 42=(V.bool (decide (((k:Nat):Int) < (((gs.length+1):Nat):Int))))∧H 2=(bMq m)∧H 10=(bk 1 80 2 [[(aH (dL (fun _=>m.s) 0 (gs.length+1) k)),(aH ([]))]])∧H 15=bZq∧H 18=bZq∧((H 36).ver=1∧(H 36).live=false)∧H 51=bZq∧H 56=bZq∧H 713=(bz 1 bL 2 (dS (owE gs gs.length)))∧True) ⟨(aK t2 rfl),(aK t8 rfl),(aK t10 rfl),(aK t40 rfl),(aK t41 rfl),(aK t42 rfl),(uTq (aL h2 (by decide))),(aC _ _ _),(uTq (aL h15 (by decide))),(uTq (aL h18 (by decide))),⟨(cVq (aQ _ _ (by decide))).trans (bN (cVq h36)).1,(congrArg Blk.live (aQ _ _ (by decide))).trans (bN (cVq h36)).2⟩,(uTq (aL h51 (by decide))),(uTq (aL h56 (by decide))),(uTq (aL h713 (by decide))),trivial⟩ ?_
  intro T H ⟨t2,t8,t10,t40,t41,t42,h2,h10,h15,h18,h36,h51,h56,h713,_⟩
  refine W_r (tL (i:=51) (n:=0) (rows:=gV []) rfl (cVq h51) rfl (bD t10 h10 rfl rfl (aX (vZ (dL (fun _=>m.s) 0 (gs.length+1) k) ([]) (by rw [e5]; exact ((aMA (gs:=gs) hm) 0 Nat.one_pos).1.byte hm) (by rw [gO]; omega)) rfl (vR (B':=(bz 1 bL 2 (gV (snE (is0 m gs))))) (rVq (V.mm 51 1)) (rVq (V.str (kyS (dL (fun _=>m.s) 0 (gs.length+1) k)))) (rVq (V.bool true)) (@rfl Blk (bz 1 bL 2 (gV []))) (by rw [e5]; exact aBo rfl) (aA rfl (aA rfl (R_e ?_)))))))
  refine W_r (bD t10 h10 rfl rfl (kZ (i:=56) (n:=0) (qs:=[(0,(V.agg [(aH (dL (fun _=>m.s) 0 (gs.length+1) k)),(aH ([]))]))]) (rows:=[[(aH (dL (fun _=>m.s) 0 (gs.length+1) k)),(aH ([]))]]) rfl (cVq h56) (cY (congrArg (fun v=>(0,v)) rfl) rfl) rfl (aA rfl (R_e (aB (W_r (aA rfl ?_)))))))
  refine R_e (aE fun Q12 n12 x12 y12 z12=>?_)
  refine bP (fun mm T H=> ∃ (i:Nat) (w:Nat) (l:List Sit) (v15:Nat) (v18:Nat),mm=4097 - i∧T 2=(mPq 2)∧T 8=(V.mm 713 1)∧T 12=(V.mm 51 1)∧T 13=(V.ms 56 w 0 l.length)∧T 14=(iV ((i:Nat):Int))∧H 2=(bMq m)∧H 10=(bk 1 80 2 [[(aH (dL (fun _=>m.s) 0 (gs.length+1) k)),(aH ([]))]])∧((H 15).ver=v15∧(H 15).live=false)∧((H 18).ver=v18∧(H 18).live=false)∧((H 36).ver=1∧(H 36).live=false)∧H 51=(bz 1 bL 2 (gV (snE l)))∧H 56=(bk w 80 2 (List.map cSi l))∧H 713=(bz 1 bL 2 (dS (owE gs gs.length)))∧(i≤4096∧i≤l.length)∧(SpI m gs l)∧(l.length≤1+64*i)∧(isL m gs 4097 0 (is0 m gs)=isL m gs (4097 - i) i l)) ?_ ?_
  ·
   refine ⟨_,0,1,(is0 m gs),0,0,rfl,t2,t8,rfl,(eTq (rVq (V.ms 56 1 0 1)) (by rfl)),(eTq (rVq (iV 0)) rfl),h2,h10,⟨(cVq h15),congrArg Blk.live h15⟩,⟨(cVq h18),congrArg Blk.live h18⟩,h36,(eTq (@rfl Blk (bz 1 bL 2 (gV (snE (is0 m gs))))) (by rfl)),(eTq (@rfl Blk (bk 1 80 2 [[(aH (dL (fun _=>m.s) 0 (gs.length+1) k)),(aH ([]))]])) (by (rw [e5]; first|done|rfl))),h713,?_,?_,?_,?_⟩
   · exact ⟨by omega,Nat.zero_le _⟩
   · exact aMA hm
   · exact Nat.le_refl _
   · rfl
  intro mm T H ⟨i,w,l,v15,v18,hmm,t2,t8,t12,t13,t14,h2,h10,h15,h18,h36,h51,h56,h713,hi,hI,hll,hc⟩ Q13 p113 p213 p313
  unfold aMi
  refine aB (W_r (aA t14 (aA t13 (dK rfl h56 (by simp) (bO rfl rfl (R_e ?_))))))
  refine aJ rfl (fun c14=>?_) fun c14=>?_
  ·
   obtain ⟨⟨x1,x2⟩,x3⟩:=hI i (by omega)
   refine aG (aE fun Q15 n15 x15 y15 z15=>(aB (W_r (aA t14 (gT rfl rfl (R_e ?_))))))
   refine aJ rfl (fun c16=>?_) fun c16=>?_
   ·
    have e9:isD m gs=([],false,11):=by rw [e8,hc,aKU (by omega) (by omega)]
    refine aB (W_r (aA rfl (aA rfl (aA rfl (R_e (bC (y15 _ _ ?_)))))))
    refine p213 _ _ (y12 _ _ ?_)
    refine pP (rVq V.nilsl) (rVq (V.bool false)) (rVq (iV 11)) (gG ?_) (eM ?_) (aW ?_)
    · rw [e9]; try rfl
    · rw [e9]; try rfl
    · rw [e9]; try rfl
   refine aG (W_r (aA t13 (aA t14 (bW (i:=i) (rVq (V.ms 56 w 0 l.length)) (rNq i) h56 oB rfl (by omega) (bT (v:=(V.agg [(aH ((nth l i).1)),(aH ((nth l i).2))])) rfl h56 (dY (by omega) (by rfl)) (eR (i:=15) (n:=v15) (m:=2) rfl h15.1 rfl (bJ (vs:=[(aH ((nth l i).1)),(aH ((nth l i).2))]) (B':=(bk (v15+1) 80 2 [[(aH ((nth l i).1)),(aH ((nth l i).2))]])) rfl rfl rfl rfl (sB oB rfl rfl rfl rfl rfl) ?_)))))))
   refine R_e (W_r (bR t2 h2 (bD rfl h2 rfl rfl (aA rfl (R_e (kA fun Q17 n17 x17 y17 z17=>?_))))))
   refine bP (fun mm T H=> ∃ (j:Nat) (w2:Nat) (l2:List Sit) (v18:Nat),mm=m.i.toNat - j∧T 2=(mPq 2)∧T 8=(V.mm 713 1)∧T 12=(V.mm 51 1)∧T 13=(V.ms 56 w2 0 l2.length)∧T 14=(iV ((i:Nat):Int))∧T 15=(V.mp 15 (v15+1) 0 0)∧T 70=(iV m.i)∧T 71=(iV ((j:Nat):Int))∧H 2=(bMq m)∧H 10=(bk 1 80 2 [[(aH (dL (fun _=>m.s) 0 (gs.length+1) k)),(aH ([]))]])∧H 15=(bk (v15+1) 80 2 [[(aH ((nth l i).1)),(aH ((nth l i).2))]])∧((H 18).ver=v18∧(H 18).live=false)∧((H 36).ver=1∧(H 36).live=false)∧H 51=(bz 1 bL 2 (gV (snE l2)))∧H 56=(bk w2 80 2 (List.map cSi l2))∧H 713=(bz 1 bL 2 (dS (owE gs gs.length)))∧(j≤m.i.toNat)∧(SpI m gs l2)∧(l2.length≤1+64*i+j∧l.length≤l2.length)∧(isR m gs (nth l i) m.i.toNat 0 l=isR m gs (nth l i) (m.i.toNat - j) j l2)) ?_ ?_
   ·
    refine ⟨_,0,w,l,v18,rfl,t2,t8,t12,t13,t14,rfl,rfl,(eTq (rVq (iV 0)) rfl),h2,h10,rfl,h18,h36,h51,h56,h713,?_,?_,?_,?_⟩
    · exact Nat.zero_le _
    · exact hI
    · exact ⟨by omega,Nat.le_refl _⟩
    · rfl
   intro mm T H ⟨j,w2,l2,v18,hmm,t2,t8,t12,t13,t14,t15,t70,t71,h2,h10,h15,h18,h36,h51,h56,h713,hj,hI2,hl2,hq⟩ Q18 p118 p218 p318
   unfold aMn
   refine W_r (bO t71 t70 (R_e ?_))
   refine aJ rfl (fun c19=>?_) fun c19=>?_
   ·
    obtain ⟨o1,o2,o3,o4⟩:=qK (gs:=gs) (by omega) e3 (show j < m.i.toNat by omega)
    have hyO:=aR4 (gs:=gs) (g:=gpN gs j) hm (hI i (by omega)).1 (show j < m.i.toNat by omega) o3
    have hyw:(mN m gs (nth l i) j).2.length=(nth l i).2.length+1:=by show ((nth l i).2++[((j:Nat):Int)]).length=_; simp
    have y0:=x2 0 (by omega)
    have y1:=x2 (gpN gs j+1) (by omega)
    have q0:=mo.2.2.2.2.2.2.2 (nth (nth l i).1 0).toNat (by omega)
    have q1:=mo.2.2.2.2.2.2.2 (nth (nth l i).1 (gpN gs j+1)).toNat (by omega)
    refine aG (aE fun Q20 n20 x20 y20 z20=>(W_r (aA t71 (aA rfl (R_e (W_r (aA t8 ?_)))))))
    refine aA rfl (aBC (z:=(iV 0)) (u:=(iV (((gpN gs j):Nat):Int))) (f:=(inI (owE gs gs.length) ((j:Nat):Int))) (rVq (V.mm 713 1)) (rNq j) h713 (aGm (by omega) e3 (by omega)) (aA rfl (R_e (W_r (bD t15 h15 rfl rfl (bD t2 h2 rfl rfl (aA rfl ?_)))))))
    refine aA rfl (aX (aAD m ((nth l i).1) ((nth l i).2) j (gpN gs j) hm (by rw [x1]; omega) y0 y1 (by omega) (by rw [x1]; omega) (by omega)) rfl (eR (i:=18) (n:=v18) (m:=2) rfl h18.1 rfl (bJ (vs:=[(aH (fN m ((nth l i).1) j (gpN gs j))),(aH (rX ((nth l i).2) j))]) (B':=(bk (v18+1) 80 2 [[(aH (fN m ((nth l i).1) j (gpN gs j))),(aH (rX ((nth l i).2) j))]])) rfl rfl rfl rfl (sB oB rfl rfl rfl rfl rfl) (R_e (aB (W_r (bR t2 h2 ?_)))))))
    refine bD rfl h2 rfl rfl (bR t15 h15 (bD rfl h15 rfl rfl (bY (i:=0) (rVq (aH ((nth l i).1))) (rNq 0) (by omega) rfl (aI rfl rfl (dX (i:=(nth ((nth l i).1) 0)) (rVq (aD m.ot)) (rVq (iV (nth ((nth l i).1) 0))) (by omega) (by omega) rfl (aI rfl rfl (aA rfl ?_)))))))
    refine bY (i:=j) (rVq (aH (nth m.ot (nth ((nth l i).1) 0).toNat))) (rNq j) (by omega) rfl (aI rfl rfl (bR t2 h2 (bD rfl h2 rfl rfl (bR t15 h15 (bD rfl h15 rfl rfl (aA rfl (bA rfl (rNq 1) (by omega) ?_)))))))
    refine bY (i:=((gpN gs j)+1)) (rVq (aH ((nth l i).1))) (rNq ((gpN gs j)+1)) (by omega) rfl (aI rfl rfl (dX (i:=(nth ((nth l i).1) ((gpN gs j)+1))) (rVq (aD m.ot)) (rVq (iV (nth ((nth l i).1) ((gpN gs j)+1)))) (by omega) (by omega) rfl (aI rfl rfl (aA rfl (bY (i:=j) (rVq (aH (nth m.ot (nth ((nth l i).1) ((gpN gs j)+1)).toNat))) (rNq j) (by omega) rfl (aI rfl rfl (fB rfl rfl ?_)))))))
    refine R_e ?_
    refine aJ rfl (fun c21=>?_) fun c21=>?_
    ·
     have d1:aBw m gs (nth l i).1 j=true:=decide_eq_true c21
     have e9:isD m gs=((mN m gs (nth l i) j).2,true,0):=by rw [e8,hc,aK3 (w:=(mN m gs (nth l i) j).2) (by omega) (by omega) (by rw [hq,aKt (by omega) d1])]
     refine aB ?_
     refine oI (fun T H=>T 4=(aH (rX ((nth l i).2) j))∧T 5=(V.bool true)∧T 6=(iV 0)∧H 2=(bMq m)∧H 10=(bk 1 80 2 [[(aH (dL (fun _=>m.s) 0 (gs.length+1) k)),(aH ([]))]])∧H 15=(bk (v15+1) 80 2 [[(aH ((nth l i).1)),(aH ((nth l i).2))]])∧H 18=(bk (v18+1) 80 2 [[(aH (fN m ((nth l i).1) j (gpN gs j))),(aH (rX ((nth l i).2) j))]])∧((H 36).ver=1∧(H 36).live=false)∧H 51=(bz 1 bL 2 (gV (snE l2)))∧H 56=(bk w2 80 2 (List.map cSi l2))∧H 713=(bz 1 bL 2 (dS (owE gs gs.length)))∧True) ?_ ?_
     ·
      refine bR rfl rfl (bD rfl rfl rfl rfl (aA rfl (aA rfl (aA rfl ?_))))
      exact iQ ⟨rfl,rfl,rfl,h2,h10,h15,rfl,h36,h51,h56,h713,trivial⟩
     intro T H ⟨t4,t5,t6,h2,h10,h15,h18,h36,h51,h56,h713,_⟩
     refine bC (y20 _ _ (p218 _ _ (y17 _ _ (y15 _ _ (p213 _ _ (y12 _ _ ?_))))))
     refine pP t4 t5 t6 (sA ?_ (fun _=>by simp)) (eM ?_) (aW ?_)
     · rw [e9]; try rfl
     · rw [e9]; try rfl
     · rw [e9]; try rfl
    have d1:aBw m gs (nth l i).1 j=false:=decide_eq_false c21
    refine aG ?_
    refine oI (fun T H=>T 2=(mPq 2)∧T 8=(V.mm 713 1)∧T 12=(V.mm 51 1)∧T 13=(V.ms 56 w2 0 l2.length)∧T 14=(iV ((i:Nat):Int))∧T 15=(V.mp 15 (v15+1) 0 0)∧T 18=(V.mp 18 (v18+1) 0 0)∧T 70=(iV m.i)∧T 71=(iV ((j:Nat):Int))∧T 113=(V.bool (!(gN l2 (fN m (nth l i).1 j (gpN gs j)))))∧H 2=(bMq m)∧H 10=(bk 1 80 2 [[(aH (dL (fun _=>m.s) 0 (gs.length+1) k)),(aH ([]))]])∧H 15=(bk (v15+1) 80 2 [[(aH ((nth l i).1)),(aH ((nth l i).2))]])∧H 18=(bk (v18+1) 80 2 [[(aH (fN m ((nth l i).1) j (gpN gs j))),(aH (rX ((nth l i).2) j))]])∧((H 36).ver=1∧(H 36).live=false)∧H 51=(bz 1 bL 2 (gV (snE l2)))∧H 56=(bk w2 80 2 (List.map cSi l2))∧H 713=(bz 1 bL 2 (dS (owE gs gs.length)))∧True) ?_ ?_
    ·
     refine aA t12 (bD rfl rfl rfl rfl (aX (vZ (fN m ((nth l i).1) j (gpN gs j)) (rX ((nth l i).2) j) (hyO.byte hm) (by have z:=hyO.1; omega)) rfl (aBC (z:=(V.bool false)) (u:=(V.bool (gN l2 (fN m (nth l i).1 j (gpN gs j))))) (f:=(gN l2 (fN m (nth l i).1 j (gpN gs j)))) (rVq (V.mm 51 1)) (rVq (V.str (kyS (fN m ((nth l i).1) j (gpN gs j))))) h51 (aKL hm hI2 hyO) (aAX rfl ?_))))
     exact iQ ⟨t2,t8,t12,t13,t14,t15,rfl,t70,t71,rfl,h2,h10,h15,rfl,h36,h51,h56,h713,trivial⟩
    intro T H ⟨t2,t8,t12,t13,t14,t15,t18,t70,t71,t113,h2,h10,h15,h18,h36,h51,h56,h713,_⟩
    refine aEy t113 (fun c22=>?_) (fun c22=>?_)
    ·
     have d3:gN l2 (fN m (nth l i).1 j (gpN gs j))=false:=by have z:=c22; simpa using z
     refine W_r (aA t12 (bD t18 h18 rfl rfl (aX (vZ (fN m ((nth l i).1) j (gpN gs j)) (rX ((nth l i).2) j) (hyO.byte hm) (by have z:=hyO.1; omega)) rfl (vR (B':=(bz 1 bL 2 (gV (snE (l2++[(mN m gs (nth l i) j)]))))) (rVq (V.mm 51 1)) (rVq (V.str (kyS (fN m ((nth l i).1) j (gpN gs j))))) (rVq (V.bool true)) h51 (aP1 (y:=(mN m gs (nth l i) j)) hm hI2 hyO d3) (R_e (W_t (aA t13 ?_)))))))
     refine bD t18 h18 rfl rfl (cO rfl rfl (cH (l:=l2) (f:=cSi) (x:=((fN m ((nth l i).1) j (gpN gs j),rX ((nth l i).2) j):Sit)) (rVq (V.ms 56 w2 0 l2.length)) h56 (by rfl) (rVq (V.sl [[(aH (fN m ((nth l i).1) j (gpN gs j))),(aH (rX ((nth l i).2) j))]])) rfl rfl (by omega) (by omega) (aA rfl (R_e (n20 _ _ (bF (R:=fun T H=>T 2=(mPq 2)∧T 8=(V.mm 713 1)∧T 12=(V.mm 51 1)∧T 13=(V.ms 56 (w2+1) 0 (l2.length+1))∧T 14=(iV ((i:Nat):Int))∧T 15=(V.mp 15 (v15+1) 0 0)∧T 70=(iV m.i)∧T 71=(iV ((j:Nat):Int))∧H 2=(bMq m)∧H 10=(bk 1 80 2 [[(aH (dL (fun _=>m.s) 0 (gs.length+1) k)),(aH ([]))]])∧H 15=(bk (v15+1) 80 2 [[(aH ((nth l i).1)),(aH ((nth l i).2))]])∧H 18=(bk (v18+1) 80 2 [[(aH (fN m ((nth l i).1) j (gpN gs j))),(aH (rX ((nth l i).2) j))]])∧((H 36).ver=1∧(H 36).live=false)∧H 51=(bz 1 bL 2 (gV (snE (l2++[(mN m gs (nth l i) j)]))))∧H 56=(bk (w2+1) 80 2 (List.map cSi (l2++[((fN m ((nth l i).1) j (gpN gs j),rX ((nth l i).2) j):Sit)])))∧H 713=(bz 1 bL 2 (dS (owE gs gs.length)))∧True) ⟨t2,t8,t12,(rVq (V.ms 56 (w2+1) 0 (l2.length+1))),t14,t15,t70,t71,h2,h10,h15,h18,h36,rfl,rfl,h713,trivial⟩ ?_))))))
     intro T H ⟨t2,t8,t12,t13,t14,t15,t70,t71,h2,h10,h15,h18,h36,h51,h56,h713,_⟩
     refine .freeze 18 (.done ?_)
     refine bF (R:=fun T H=>T 2=(mPq 2)∧T 8=(V.mm 713 1)∧T 12=(V.mm 51 1)∧T 13=(V.ms 56 (w2+1) 0 (l2.length+1))∧T 14=(iV ((i:Nat):Int))∧T 15=(V.mp 15 (v15+1) 0 0)∧T 70=(iV m.i)∧T 71=(iV ((j:Nat):Int))∧H 2=(bMq m)∧H 10=(bk 1 80 2 [[(aH (dL (fun _=>m.s) 0 (gs.length+1) k)),(aH ([]))]])∧H 15=(bk (v15+1) 80 2 [[(aH ((nth l i).1)),(aH ((nth l i).2))]])∧((H 18).ver=v18+1∧(H 18).live=false)∧((H 36).ver=1∧(H 36).live=false)∧H 51=(bz 1 bL 2 (gV (snE (l2++[(mN m gs (nth l i) j)]))))∧H 56=(bk (w2+1) 80 2 (List.map cSi (l2++[((fN m ((nth l i).1) j (gpN gs j),rX ((nth l i).2) j):Sit)])))∧H 713=(bz 1 bL 2 (dS (owE gs gs.length)))∧True) ⟨(aK t2 rfl),(aK t8 rfl),(aK t12 rfl),(aK t13 (cP (by decide))),(aK t14 rfl),(aK t15 rfl),(aK t70 rfl),(aK t71 rfl),(aL h2 (by decide)),(aL h10 (by decide)),(aL h15 (by decide)),(bN (cVq h18)),(eB h36),(aL h51 (by decide)),(aL h56 (by decide)),(aL h713 (by decide)),trivial⟩ ?_
     intro T H ⟨t2,t8,t12,t13,t14,t15,t70,t71,h2,h10,h15,h18,h36,h51,h56,h713,_⟩
     refine W_t (bA t71 (rNq 1) (by omega) (aA rfl (R_e ?_)))
     refine p118 _ _ _ ?_ ⟨(j+1),(w2+1),(l2++[(mN m gs (nth l i) j)]),(v18+1),rfl,t2,t8,t12,(eTq t13 (by simp)),t14,t15,t70,(eTq (rNq (j+1)) (by rfl)),h2,h10,h15,h18,h36,(eTq h51 (by rfl)),(eTq h56 (by rfl)),h713,?_,?_,?_,?_⟩
     · omega
     · omega
     · first|exact hI2|exact hI2.add hyO (by rw [hyw]; omega)
     · first|omega|(rw [List.length_append]; simp only [List.length_cons,List.length_nil]; omega)
     · first|(rw [hq,aAW (by omega) d1,aHj (y:=(mN m gs (nth l i) j)) d3]; done)|(rw [hq,aAW (by omega) d1,aEu (y:=(mN m gs (nth l i) j)) d3]; done)
    have d3:gN l2 (fN m (nth l i).1 j (gpN gs j))=true:=by have z:=c22; simpa using z
    refine fK (n20 _ _ ?_)
    refine .freeze 18 (.done ?_)
    refine bF (R:=fun T H=>T 2=(mPq 2)∧T 8=(V.mm 713 1)∧T 12=(V.mm 51 1)∧T 13=(V.ms 56 w2 0 l2.length)∧T 14=(iV ((i:Nat):Int))∧T 15=(V.mp 15 (v15+1) 0 0)∧T 18=(V.mp 18 (v18+1) 0 0)∧T 70=(iV m.i)∧T 71=(iV ((j:Nat):Int))∧T 113=(V.bool (!(gN l2 (fN m (nth l i).1 j (gpN gs j)))))∧H 2=(bMq m)∧H 10=(bk 1 80 2 [[(aH (dL (fun _=>m.s) 0 (gs.length+1) k)),(aH ([]))]])∧H 15=(bk (v15+1) 80 2 [[(aH ((nth l i).1)),(aH ((nth l i).2))]])∧((H 18).ver=v18+1∧(H 18).live=false)∧((H 36).ver=1∧(H 36).live=false)∧H 51=(bz 1 bL 2 (gV (snE l2)))∧H 56=(bk w2 80 2 (List.map cSi l2))∧H 713=(bz 1 bL 2 (dS (owE gs gs.length)))∧True) ⟨(aK t2 rfl),(aK t8 rfl),(aK t12 rfl),(aK t13 (cP (by decide))),(aK t14 rfl),(aK t15 rfl),(aK t18 rfl),(aK t70 rfl),(aK t71 rfl),(aK t113 rfl),(aL h2 (by decide)),(aL h10 (by decide)),(aL h15 (by decide)),(bN (cVq h18)),(eB h36),(aL h51 (by decide)),(aL h56 (by decide)),(aL h713 (by decide)),trivial⟩ ?_
    intro T H ⟨t2,t8,t12,t13,t14,t15,t18,t70,t71,t113,h2,h10,h15,h18,h36,h51,h56,h713,_⟩
    refine W_t (bA t71 (rNq 1) (by omega) (aA rfl (R_e ?_)))
    refine p118 _ _ _ ?_ ⟨(j+1),w2,l2,(v18+1),rfl,t2,t8,t12,t13,t14,t15,t70,(eTq (rNq (j+1)) (by rfl)),h2,h10,h15,h18,h36,h51,h56,h713,?_,?_,?_,?_⟩
    · omega
    · omega
    · first|exact hI2|exact hI2.add hyO (by rw [hyw]; omega)
    · first|omega|(rw [List.length_append]; simp only [List.length_cons,List.length_nil]; omega)
    · first|(rw [hq,aAW (by omega) d1,aHj (y:=(mN m gs (nth l i) j)) d3]; done)|(rw [hq,aAW (by omega) d1,aEu (y:=(mN m gs (nth l i) j)) d3]; done)
   have f1:isR m gs (nth l i) m.i.toNat 0 l=.inr l2:=by rw [hq,aJN (by omega)]
   refine aP (p318 _ _ _ (x17 _ _ (n15 _ _ (bF (R:=fun T H=>T 2=(mPq 2)∧T 8=(V.mm 713 1)∧T 12=(V.mm 51 1)∧T 13=(V.ms 56 w2 0 l2.length)∧T 14=(iV ((i:Nat):Int))∧T 15=(V.mp 15 (v15+1) 0 0)∧T 70=(iV m.i)∧T 71=(iV ((j:Nat):Int))∧T 72=(V.bool (decide (((j:Nat):Int) < m.i)))∧H 2=(bMq m)∧H 10=(bk 1 80 2 [[(aH (dL (fun _=>m.s) 0 (gs.length+1) k)),(aH ([]))]])∧H 15=(bk (v15+1) 80 2 [[(aH ((nth l i).1)),(aH ((nth l i).2))]])∧((H 18).ver=v18∧(H 18).live=false)∧((H 36).ver=1∧(H 36).live=false)∧H 51=(bz 1 bL 2 (gV (snE l2)))∧H 56=(bk w2 80 2 (List.map cSi l2))∧H 713=(bz 1 bL 2 (dS (owE gs gs.length)))∧True) ⟨t2,t8,t12,t13,t14,t15,t70,t71,(rVq (V.bool (decide (((j:Nat):Int) < m.i)))),h2,h10,h15,h18,h36,h51,h56,h713,trivial⟩ ?_))))
   intro T H ⟨t2,t8,t12,t13,t14,t15,t70,t71,t72,h2,h10,h15,h18,h36,h51,h56,h713,_⟩
   refine .freeze 15 (.done ?_)
   refine bF (R:=fun T H=>T 2=(mPq 2)∧T 8=(V.mm 713 1)∧T 12=(V.mm 51 1)∧T 13=(V.ms 56 w2 0 l2.length)∧T 14=(iV ((i:Nat):Int))∧T 15=(V.mp 15 (v15+1) 0 0)∧T 70=(iV m.i)∧T 71=(iV ((j:Nat):Int))∧T 72=(V.bool (decide (((j:Nat):Int) < m.i)))∧H 2=(bMq m)∧H 10=(bk 1 80 2 [[(aH (dL (fun _=>m.s) 0 (gs.length+1) k)),(aH ([]))]])∧((H 15).ver=v15+1∧(H 15).live=false)∧((H 18).ver=v18∧(H 18).live=false)∧((H 36).ver=1∧(H 36).live=false)∧H 51=(bz 1 bL 2 (gV (snE l2)))∧H 56=(bk w2 80 2 (List.map cSi l2))∧H 713=(bz 1 bL 2 (dS (owE gs gs.length)))∧True) ⟨(aK t2 rfl),(aK t8 rfl),(aK t12 rfl),(aK t13 (cP (by decide))),(aK t14 rfl),(aK t15 rfl),(aK t70 rfl),(aK t71 rfl),(aK t72 rfl),(aL h2 (by decide)),(aL h10 (by decide)),(bN (cVq h15)),(eB h18),(eB h36),(aL h51 (by decide)),(aL h56 (by decide)),(aL h713 (by decide)),trivial⟩ ?_
   intro T H ⟨t2,t8,t12,t13,t14,t15,t70,t71,t72,h2,h10,h15,h18,h36,h51,h56,h713,_⟩
   refine W_t (aA t14 (bA rfl (rNq 1) (by omega) (aA rfl (R_e ?_))))
   refine p113 _ _ _ ?_ ⟨(i+1),w2,l2,(v15+1),v18,rfl,t2,t8,t12,t13,(eTq (rNq (i+1)) (by rfl)),h2,h10,h15,h18,h36,h51,h56,h713,?_,?_,?_,?_⟩
   · omega
   · exact ⟨by omega,by omega⟩
   · exact hI2
   · omega
   · rw [hc,aQk (by omega) (by omega) f1]
  have e9:isD m gs=([],false,0):=by rw [e8,hc,aLw (by omega) (by omega)]
  refine aP (p313 _ _ _ (x12 _ _ (.done (W_r (aA rfl (aA rfl (aA rfl ?_)))))))
  refine R_e (bH ?_)
  refine pP (rVq V.nilsl) (rVq (V.bool false)) (rVq (iV 0)) (gG ?_) (eM ?_) (aW ?_)
  · rw [e9]; try rfl
  · rw [e9]; try rfl
  · rw [e9]; try rfl
end Go.Proofs.YtmnnhjhkaepbaaaGreat
namespace Go.Proofs.YtmnnhjhkaepbaaaGreat
open Go Go.Proofs
attribute [local irreducible] rP
theorem aDP (m:M):aS Tryz.prog 76 [(V.agg [(iV m.i),(iV m.s),(aD m.nx),(aD m.ot)])] (aH (rch m)):=by
 refine pW Tryz.func76 aHc fun hB=>?_
 unfold s76
 dsimp only
 refine W_r (eU (i:=1) (n:=0) (m:=4) (cs:=[(iV m.i),(iV m.s),(aD m.nx),(aD m.ot)]) rfl (cVq rfl) rfl rfl rfl (aA rfl (R_e (aB (W_r (bD rfl rfl rfl rfl (aX (gI m) rfl ?_)))))))
 refine fB rfl rfl (R_e ?_)
 refine aJ rfl (fun c1=>?_) fun c1=>?_
 ·
  have d0:=c1
  refine aB (W_r (aA rfl (R_e (bC ?_))))
  refine bS (rVq V.nilsl) (gG ?_)
  · rw [rch,if_pos d0]
 have hm:aV m=0:=by omega
 obtain ⟨v1,v2,v3,v4,v5,v6,v7,_⟩:=bK hm
 refine aG (W_r (bR rfl rfl (bD rfl rfl rfl rfl (bI rfl (oK (i:=14) (n:=0) (m:=m.nx.length) (q:=m.nx.length) (f:=cB) (x:=false) rfl (cVq rfl) (rNq m.nx.length) (rNq m.nx.length) rfl (by omega) (by omega) (by omega) (aA rfl (R_e ?_)))))))
 refine W_r (aA rfl (bR rfl rfl (bD rfl rfl rfl rfl (gC (i:=m.s) (rVq (V.ms 14 1 0 m.nx.length)) (rVq (iV m.s)) (@rfl Blk (bk 1 4 1 (List.map cB (List.replicate m.nx.length false)))) oB rfl (by omega) (by omega) (bJ (vs:=[(V.bool true)]) (B':=(bk 1 4 1 (List.map cB ((List.replicate m.nx.length false).set m.s.toNat true)))) rfl rfl rfl (@rfl Blk (bk 1 4 1 (List.map cB (List.replicate m.nx.length false)))) (gB (x:=true) (i:=m.s.toNat) (by (simp only [List.length_replicate]; omega)) rfl rfl rfl rfl) (R_e (W_r ?_)))))))
 refine bR rfl rfl (bD rfl rfl rfl rfl (kZ (i:=21) (n:=0) (qs:=[(0,(iV m.s))]) (rows:=[[(iV m.s)]]) rfl (cVq rfl) (cY (congrArg (fun v=>(0,v)) rfl) rfl) rfl (aA rfl (R_e (aB (W_r (aA rfl ?_)))))))
 refine R_e (aE fun Q2 n2 x2 y2 z2=>?_)
 refine bP (fun mm T H=> ∃ (k:Nat) (w:Nat) (P:RS),mm=m.nx.length - k∧T 1=(mPq 1)∧T 3=(V.ms 14 1 0 m.nx.length)∧T 4=(V.ms 21 w 0 P.1.length)∧T 5=(iV ((k:Nat):Int))∧H 1=(bMq m)∧H 14=(bk 1 4 1 (List.map cB P.2))∧H 21=(bk w 3 1 (List.map cI P.1))∧(k≤P.1.length)∧(RI m.nx.length P)∧(gY m m.nx.length 0 (kX m)=gY m (m.nx.length - k) k P)) ?_ ?_
 ·
  refine ⟨_,0,1,(kX m),rfl,rfl,rfl,(eTq (rVq (V.ms 21 1 0 1)) (by rfl)),(eTq (rVq (iV 0)) rfl),rfl,(eTq (@rfl Blk (bk 1 4 1 (List.map cB ((List.replicate m.nx.length false).set m.s.toNat true)))) (by rfl)),(eTq (@rfl Blk (bk 1 3 1 [[(iV m.s)]])) (by rfl)),?_,?_,?_⟩
  · exact Nat.zero_le _
  · exact aAg hm
  · rfl
 intro mm T H ⟨k,w,P,hmm,t1,t3,t4,t5,h1,h14,h21,hk,hr,hc⟩ Q3 p13 p23 p33
 unfold aMy
 refine aB (W_r (aA t5 (aA t4 (dK rfl h21 (by simp) (bO rfl rfl (R_e ?_))))))
 refine aJ rfl (fun c4=>?_) fun c4=>?_
 ·
  have r1:=hr.rng _ (aR (show k < P.1.length by omega))
  have r0:=hr.len
  have r5:=hr.blen
  have r6:=((bK hm).2.2.2.2.2.2.2 (nth P.1 k).toNat (by omega)).1
  refine aG (aE fun Q5 n5 x5 y5 z5=>(W_r (bR t1 h1 (bD rfl h1 rfl rfl (aA t4 (aA t5 (bW (i:=k) (rVq (V.ms 21 w 0 P.1.length)) (rNq k) h21 oB rfl (by omega) ?_)))))))
  refine bT (v:=(iV (nth P.1 k))) rfl h21 (dY (by omega) (by rfl)) (dX (i:=(nth P.1 k)) (rVq (aD m.nx)) (rVq (iV (nth P.1 k))) (by omega) (by omega) rfl (aI rfl rfl (bI rfl (aA rfl (R_e (kA fun Q6 n6 x6 y6 z6=>?_))))))
  refine bP (fun mm T H=> ∃ (j:Nat) (w2:Nat) (Q:RS),mm=(nth m.nx (nth P.1 k).toNat).length - j∧T 1=(mPq 1)∧T 3=(V.ms 14 1 0 m.nx.length)∧T 4=(V.ms 21 w2 0 Q.1.length)∧T 5=(iV ((k:Nat):Int))∧T 35=(aH (nth m.nx (nth P.1 k).toNat))∧T 36=(iV (((nth m.nx (nth P.1 k).toNat).length:Nat):Int))∧T 37=(iV ((j:Nat):Int))∧H 1=(bMq m)∧H 14=(bk 1 4 1 (List.map cB Q.2))∧H 21=(bk w2 3 1 (List.map cI Q.1))∧(j≤(nth m.nx (nth P.1 k).toNat).length)∧(Q=((nth m.nx (nth P.1 k).toNat).take j).foldl fT P)∧(RI m.nx.length Q)) ?_ ?_
  ·
   refine ⟨_,0,w,P,rfl,t1,t3,t4,t5,rfl,rfl,(eTq (rVq (iV 0)) rfl),h1,h14,h21,?_,?_,?_⟩
   · omega
   · rfl
   · exact hr
  intro mm T H ⟨j,w2,Q,hmm,t1,t3,t4,t5,t35,t36,t37,h1,h14,h21,hj,hq,hrq⟩ Q7 p17 p27 p37
  unfold aLM
  refine W_r (bO t37 t36 (R_e ?_))
  refine aJ rfl (fun c8=>?_) fun c8=>?_
  ·
   have r2:=zP hm r1.1 r1.2 _ (aR (show j < (nth m.nx (nth P.1 k).toNat).length by omega))
   have r3:=hrq.blen
   have r4:=hrq.len
   refine aG (aE fun Q9 n9 x9 y9 z9=>(W_r (bY (i:=j) t35 t37 (by omega) rfl (aI rfl rfl (aA rfl (R_e (W_r ?_)))))))
   refine aA t3 (aA rfl (gC (i:=(nth (nth m.nx (nth P.1 k).toNat) j)) (rVq (V.ms 14 1 0 m.nx.length)) (rVq (iV (nth (nth m.nx (nth P.1 k).toNat) j))) h14 oB rfl (by omega) (by omega) (bT (v:=(V.bool (nth Q.2 ((nth (nth m.nx (nth P.1 k).toNat) j).toNat)))) rfl h14 (dY (by omega) (by rfl)) (aAX rfl (R_e ?_)))))
   refine aEy rfl (fun c10=>?_) (fun c10=>?_)
   ·
    have d2:nth Q.2 (nth (nth m.nx (nth P.1 k).toNat) j).toNat=false:=by simpa using c10
    refine W_r (aA t3 (aA rfl (gC (i:=(nth (nth m.nx (nth P.1 k).toNat) j)) (rVq (V.ms 14 1 0 m.nx.length)) (rVq (iV (nth (nth m.nx (nth P.1 k).toNat) j))) h14 oB rfl (by omega) (by omega) (bJ (vs:=[(V.bool true)]) (B':=(bk 1 4 1 (List.map cB (Q.2.set ((nth (nth m.nx (nth P.1 k).toNat) j).toNat) true)))) rfl rfl rfl h14 (gB (x:=true) (i:=((nth (nth m.nx (nth P.1 k).toNat) j).toNat)) (by omega) rfl rfl rfl rfl) (R_e (W_t (aA t4 ?_)))))))
    refine aA rfl (cO rfl rfl (cH (l:=Q.1) (f:=cI) (x:=(nth (nth m.nx (nth P.1 k).toNat) j)) (rVq (V.ms 21 w2 0 Q.1.length)) h21 (by rfl) (rVq (V.sl [[(iV (nth (nth m.nx (nth P.1 k).toNat) j))]])) rfl rfl (by omega) (by omega) (aA rfl (R_e (n9 _ _ (.done (W_t ?_)))))))
    refine bA t37 (rNq 1) (by omega) (aA rfl (R_e ?_))
    refine p17 _ _ _ ?_ ⟨(j+1),(w2+1),(fT Q (nth (nth m.nx (nth P.1 k).toNat) j)),rfl,t1,t3,(eTq (rVq (V.ms 21 (w2+1) 0 (Q.1.length+1))) (by (rw [zU d2,List.length_append]; rfl))),t5,t35,t36,(eTq (rNq (j+1)) (by rfl)),h1,(eTq (@rfl Blk (bk 1 4 1 (List.map cB (Q.2.set ((nth (nth m.nx (nth P.1 k).toNat) j).toNat) true)))) (by (rw [zU d2]; done))),(eTq (@rfl Blk (bk (w2+1) 3 1 (List.map cI (Q.1++[(nth (nth m.nx (nth P.1 k).toNat) j)])))) (by (rw [zU d2]; done))),?_,?_,?_⟩
    · omega
    · omega
    · rw [qZ (by omega),← hq]
    · exact hrq.step r2.1 r2.2
   have d2:nth Q.2 (nth (nth m.nx (nth P.1 k).toNat) j).toNat=true:=by simpa using c10
   refine fK (n9 _ _ (.done (W_t (bA t37 (rNq 1) (by omega) (aA rfl (R_e ?_))))))
   refine p17 _ _ _ ?_ ⟨(j+1),w2,(fT Q (nth (nth m.nx (nth P.1 k).toNat) j)),rfl,t1,t3,(eTq t4 (by (rw [tZ d2]; done))),t5,t35,t36,(eTq (rNq (j+1)) (by rfl)),h1,(eTq h14 (by (rw [tZ d2]; done))),(eTq h21 (by (rw [tZ d2]; done))),?_,?_,?_⟩
   · omega
   · omega
   · rw [qZ (by omega),← hq]
   · exact hrq.step r2.1 r2.2
  have e9:Q=iM m P k:=by rw [hq]; unfold iM; rw [List.take_of_length_le (by omega)]
  refine aP (p37 _ _ _ (x6 _ _ (n5 _ _ (.done (W_t (aA t5 (bA rfl (rNq 1) (by omega) ?_)))))))
  refine aA rfl (R_e ?_)
  refine p13 _ _ _ ?_ ⟨(k+1),w2,(iM m P k),rfl,t1,t3,(eTq t4 (by (rw [← e9]; done))),(eTq (rNq (k+1)) (by rfl)),h1,(eTq h14 (by (rw [← e9]; done))),(eTq h21 (by (rw [← e9]; done))),?_,?_,?_⟩
  · omega
  · obtain ⟨x,hx⟩:=iE (nth m.nx (nth P.1 k).toNat) P
    have hg:(iM m P k).1=P.1++x:=hx
    rw [hg,List.length_append]; omega
  · exact hr.row hm (by omega)
  · rw [hc,aCT (by omega) (by omega)]
 refine aP (p33 _ _ _ (x2 _ _ (.done (W_r (aA t4 (aA rfl (R_e ?_)))))))
 refine bH ?_
 refine bS (rVq (V.ms 21 w 0 P.1.length)) (kN h21 (by simp) (l:=P.1) rfl (by rfl) (fun _=>by simp) ?_)
 · rw [rch,if_neg (by omega),hc,aAp (by omega)]
end Go.Proofs.YtmnnhjhkaepbaaaGreat
namespace Go.Proofs.YtmnnhjhkaepbaaaGreat
open Go Go.Proofs
attribute [local irreducible] rP
theorem aDy (m:M):aS Tryz.prog 48 [(V.agg [(iV m.i),(iV m.s),(aD m.nx),(aD m.ot)])] (V.tup [(V.agg [(iV ((trR m).i)),(iV ((trR m).s)),(aD ((trR m).nx)),(aD ((trR m).ot))]),(iV (aV m))]):=by
 refine pW Tryz.func48 aG5 fun hB=>?_
 unfold s48
 dsimp only
 refine W_r (eU (i:=1) (n:=0) (m:=4) (cs:=[(iV m.i),(iV m.s),(aD m.nx),(aD m.ot)]) rfl (cVq rfl) rfl rfl rfl (eR (i:=2) (n:=0) (m:=4) rfl (cVq rfl) rfl (aA rfl (R_e (aB (W_r (bD rfl rfl rfl rfl ?_)))))))
 refine aX (gI m) rfl (aA rfl (R_e (aB (W_r (aA rfl (fB rfl rfl (R_e ?_)))))))
 refine aJ rfl (fun c1=>?_) fun c1=>?_
 ·
  have d0:=c1
  refine aB (W_r (fY rfl rfl (aA rfl (bJ (vs:=[(iV 0),(iV 0),V.nilsl,V.nilsl]) (B':=bNq) rfl rfl rfl rfl (sB oB rfl rfl rfl rfl rfl) (aA rfl (R_e (bC ?_)))))))
  refine rO (lW (u:=(V.agg [(iV 0),(iV 0),V.nilsl,V.nilsl])) rfl (@rfl Blk bNq) (lB oB rfl rfl)) (rB (rVq (iV (aV m)))) (qV (cY (aW ?_) (cY (aW ?_) (cY (gG ?_) (cY (gG ?_) rfl))))) (eD (by simp) rfl)
  · rw [trR,if_neg d0]; try rfl
  · rw [trR,if_neg d0]; try rfl
  · rw [trR,if_neg d0]; try rfl
  · rw [trR,if_neg d0]; try rfl
 have d0:=c1
 have hm:aV m=0:=by omega
 have mo:=bK hm
 have rc:=iA hm
 have rl:=rc.len
 have me:=mo.2.2.2.2.2.2.1
 refine aG (W_r (bD rfl rfl rfl rfl (aX (aDP m) rfl (aA rfl (R_e (W_r (bR rfl rfl ?_)))))))
 refine bD rfl rfl rfl rfl (bI rfl (oK (i:=26) (n:=0) (m:=m.nx.length) (q:=m.nx.length) (f:=cI) (x:=0) rfl (cVq rfl) (rNq m.nx.length) (rNq m.nx.length) rfl (by omega) (by omega) (by omega) (aA rfl (R_e (aB (W_r (aA rfl ?_)))))))
 refine bI rfl (aA rfl (R_e (aE fun Q2 n2 x2 y2 z2=>?_)))
 refine bP (fun mm T H=> ∃ (k:Nat) (N:List Int),mm=(rch m).length - k∧T 1=(mPq 1)∧T 2=(mPq 2)∧T 5=(aH (rch m))∧T 6=(V.ms 26 1 0 m.nx.length)∧T 27=(aH (rch m))∧T 28=(iV (((rch m).length:Nat):Int))∧T 29=(iV ((k:Nat):Int))∧H 1=(bMq m)∧H 2=bNq∧H 9=bZq∧H 26=(bk 1 3 1 (List.map cI N))∧H 50=bZq∧H 812=bZq∧H 813=bZq∧(k≤(rch m).length)∧(N.length=m.nx.length)∧(∀ j,j < k→nth N (nth (rch m) j).toNat=(j:Int))) ?_ ?_
 ·
  refine ⟨_,0,(List.replicate m.nx.length 0),rfl,rfl,rfl,rfl,rfl,rfl,rfl,(eTq (rVq (iV 0)) rfl),rfl,rfl,rfl,(eTq (@rfl Blk (bk 1 3 1 (List.map cI (List.replicate m.nx.length 0)))) (by rfl)),rfl,rfl,rfl,?_,?_,?_⟩
  · exact Nat.zero_le _
  · exact List.length_replicate ..
  · intro j hj; omega
 intro mm T H ⟨k,N,hmm,t1,t2,t5,t6,t27,t28,t29,h1,h2,h9,h26,h50,h812,h813,hk,hN,hP⟩ Q3 p13 p23 p33
 unfold aMq
 refine W_r (bO t29 t28 (R_e ?_))
 refine aJ rfl (fun c4=>?_) fun c4=>?_
 ·
  have rk:=rc.rng k (by omega)
  refine aG (aE fun Q5 n5 x5 y5 z5=>(W_r (aA t29 (bY (i:=k) t27 t29 (by omega) rfl (aI rfl rfl (aA rfl (aA rfl ?_)))))))
  refine R_e (W_t (aA t6 (aA rfl (aA rfl (gC (i:=(nth (rch m) k)) (rVq (V.ms 26 1 0 m.nx.length)) (rVq (iV (nth (rch m) k))) h26 oB rfl (by omega) (by omega) (bJ (vs:=[(iV ((k:Nat):Int))]) (B':=(bk 1 3 1 (List.map cI (N.set ((nth (rch m) k).toNat) ((k:Nat):Int))))) rfl rfl rfl h26 (gB (x:=((k:Nat):Int)) (i:=((nth (rch m) k).toNat)) (by omega) rfl rfl rfl rfl) (R_e ?_)))))))
  refine n5 _ _ (.done (W_t (bA t29 (rNq 1) (by omega) (aA rfl (R_e ?_)))))
  refine p13 _ _ _ ?_ ⟨(k+1),(N.set (nth (rch m) k).toNat ((k:Nat):Int)),rfl,t1,t2,t5,t6,t27,t28,(eTq (rNq (k+1)) (by rfl)),h1,h2,h9,(eTq (@rfl Blk (bk 1 3 1 (List.map cI (N.set ((nth (rch m) k).toNat) ((k:Nat):Int))))) (by rfl)),h50,h812,h813,?_,?_,?_⟩
  · omega
  · omega
  · rw [List.length_set]; exact hN
  · exact aH3 rc (by omega) hN hP
 have hnum:=aKI rc (fun j hj=>hP j (by omega))
 refine aP (p33 _ _ _ (x2 _ _ (.done (W_r (bR t1 h1 (bD rfl h1 rfl rfl (fY rfl rfl ?_)))))))
 refine eR (i:=9) (n:=0) (m:=4) rfl (cVq h9) rfl (bJ (vs:=[(iV m.i),(iV 0),V.nilsl,V.nilsl]) (B':=(bk 1 24 4 [[(iV m.i),(iV 0),V.nilsl,V.nilsl]])) rfl rfl rfl rfl (sB oB rfl rfl rfl rfl rfl) (R_e (aB ?_)))
 refine mY (fun T H=>T 1=(mPq 1)∧T 2=(mPq 2)∧T 6=(V.ms 26 1 0 m.nx.length)∧T 9=(mPq 9)∧T 42=(aH (rch m))∧T 43=(iV (((rch m).length:Nat):Int))∧T 44=(iV 0)∧H 1=(bMq m)∧H 2=bNq∧H 9=(bk 1 24 4 [[(iV m.i),(iV 0),V.nilsl,V.nilsl]])∧H 26=(bk 1 3 1 (List.map cI N))∧H 50=bZq∧H 812=bZq∧H 813=bZq∧True) ?_ ?_
 ·
  refine aA t5 (bI rfl (aA rfl ?_))
  exact iQ ⟨t1,t2,t6,rfl,rfl,rfl,rfl,h1,h2,rfl,h26,h50,h812,h813,trivial⟩
 intro T H ⟨t1,t2,t6,t9,t42,t43,t44,h1,h2,h9,h26,h50,h812,h813,_⟩
 refine .lazyCell 812 25 1 9 0 2 [(iV m.i),(iV 0),V.nilsl,V.nilsl] (by decide) (by rw [h9]; rfl) (by rw [h9]; rfl) rfl (bF (R:=fun T H=>T 1=(mPq 1)∧T 2=(mPq 2)∧T 6=(V.ms 26 1 0 m.nx.length)∧T 9=(mPq 9)∧T 42=(aH (rch m))∧T 43=(iV (((rch m).length:Nat):Int))∧T 44=(iV 0)∧H 1=(bMq m)∧H 2=bNq∧H 9=(bk 1 24 4 [[(iV m.i),(iV 0),(V.ms 812 1 0 0),V.nilsl]])∧H 26=(bk 1 3 1 (List.map cI N))∧H 50=bZq∧H 812=(bz 1 25 1 [])∧H 813=bZq∧True) ⟨t1,t2,t6,t9,t42,t43,t44,(uTq (uTq h1)),(uTq (uTq h2)),(by rw [aC,h9,(cVq h812)]; rfl),(uTq (uTq h26)),(uTq (uTq h50)),(by rw [aQ _ _ (by decide),aC,(cVq h812)]),(uTq (uTq h813)),trivial⟩ ?_)
 intro T H ⟨t1,t2,t6,t9,t42,t43,t44,h1,h2,h9,h26,h50,h812,h813,_⟩
 refine .lazyCell 813 25 1 9 0 3 [(iV m.i),(iV 0),(V.ms 812 1 0 0),V.nilsl] (by decide) (by rw [h9]; rfl) (by rw [h9]; rfl) rfl (.done ?_)
 refine bF (R:=fun T H=>T 1=(mPq 1)∧T 2=(mPq 2)∧T 6=(V.ms 26 1 0 m.nx.length)∧T 9=(mPq 9)∧T 42=(aH (rch m))∧T 43=(iV (((rch m).length:Nat):Int))∧T 44=(iV 0)∧H 1=(bMq m)∧H 2=bNq∧H 9=(bk 1 24 4 [[(iV m.i),(iV 0),(V.ms 812 1 0 0),(V.ms 813 1 0 0)]])∧H 26=(bk 1 3 1 (List.map cI N))∧H 50=bZq∧H 812=(bz 1 25 1 [])∧H 813=(bz 1 25 1 [])∧True) ⟨t1,t2,t6,t9,t42,t43,t44,(uTq (uTq h1)),(uTq (uTq h2)),(by rw [aC,h9,(cVq h813)]; rfl),(uTq (uTq h26)),(uTq (uTq h50)),(uTq (uTq h812)),(by rw [aQ _ _ (by decide),aC,(cVq h813)]),trivial⟩ ?_
 intro T H ⟨t1,t2,t6,t9,t42,t43,t44,h1,h2,h9,h26,h50,h812,h813,_⟩
 refine aE fun Q6 n6 x6 y6 z6=>?_
 refine bP (fun mm T H=> ∃ (k:Nat) (v:Nat) (w:Nat) (v50:Nat),mm=(rch m).length - k∧T 1=(mPq 1)∧T 2=(mPq 2)∧T 6=(V.ms 26 1 0 m.nx.length)∧T 9=(mPq 9)∧T 42=(aH (rch m))∧T 43=(iV (((rch m).length:Nat):Int))∧T 44=(iV ((k:Nat):Int))∧H 1=(bMq m)∧H 2=bNq∧H 9=(bk 1 24 4 [[(iV m.i),(iV 0),(V.ms 812 v 0 k),(V.ms 813 w 0 k)]])∧H 26=(bk 1 3 1 (List.map cI N))∧((H 50).ver=v50∧(H 50).live=false)∧H 812=(bz v 25 1 (List.map cL (tbl (tNx m) k)))∧H 813=(bz w 25 1 (List.map cL (tbl (tOt m) k)))∧(k≤(rch m).length)) ?_ ?_
 ·
  refine ⟨_,0,1,1,0,rfl,t1,t2,t6,t9,t42,t43,(eTq t44 rfl),h1,h2,h9,h26,⟨(cVq h50),congrArg Blk.live h50⟩,(eTq h812 (by rfl)),(eTq h813 (by rfl)),?_⟩
  · exact Nat.zero_le _
 intro mm T H ⟨k,v,w,v50,hmm,t1,t2,t6,t9,t42,t43,t44,h1,h2,h9,h26,h50,h812,h813,hk⟩ Q7 p17 p27 p37
 unfold aMJ
 refine W_r (bO t44 t43 (R_e ?_))
 refine aJ rfl (fun c8=>?_) fun c8=>?_
 ·
  have rk:=rc.rng k (by omega)
  have rr:=mo.2.2.2.2.2.2.2 (nth (rch m) k).toNat (by omega)
  have eo:tOt m k=nth m.ot (nth (rch m) k).toNat:=aIX hm (by omega)
  refine aG (aE fun Q9 n9 x9 y9 z9=>(W_r (bY (i:=k) t42 t44 (by omega) rfl (aI rfl rfl (aA rfl (R_e (W_r ?_)))))))
  refine bR t1 h1 (bD rfl h1 rfl rfl (oK (i:=50) (n:=v50) (m:=m.i.toNat) (q:=m.i.toNat) (f:=cI) (x:=0) rfl h50.1 (eTq (rVq (iV m.i)) (congrArg (V.int .i64) (by omega))) (eTq (rVq (iV m.i)) (congrArg (V.int .i64) (by omega))) rfl (by omega) (by omega) (by omega) (aA rfl (R_e (aB (W_r (bR t1 h1 ?_)))))))
  refine bD rfl h1 rfl rfl (aA rfl (dX (i:=(nth (rch m) k)) (rVq (aD m.nx)) (rVq (iV (nth (rch m) k))) (by omega) (by omega) rfl (aI rfl rfl (bI rfl (aA rfl (R_e (aE fun Q10 n10 x10 y10 z10=>?_)))))))
  refine bP (fun mm T H=> ∃ (j:Nat) (u:Nat),mm=m.i.toNat - j∧T 1=(mPq 1)∧T 2=(mPq 2)∧T 6=(V.ms 26 1 0 m.nx.length)∧T 9=(mPq 9)∧T 11=(iV (nth (rch m) k))∧T 12=(V.ms 50 u 0 m.i.toNat)∧T 42=(aH (rch m))∧T 43=(iV (((rch m).length:Nat):Int))∧T 44=(iV ((k:Nat):Int))∧T 55=(aH (nth m.nx (nth (rch m) k).toNat))∧T 56=(iV (((nth m.nx (nth (rch m) k).toNat).length:Nat):Int))∧T 57=(iV ((j:Nat):Int))∧H 1=(bMq m)∧H 2=bNq∧H 9=(bk 1 24 4 [[(iV m.i),(iV 0),(V.ms 812 v 0 k),(V.ms 813 w 0 k)]])∧H 26=(bk 1 3 1 (List.map cI N))∧H 50=(bk u 3 1 (List.map cI (dL (dG m k) 0 m.i.toNat j)))∧H 812=(bz v 25 1 (List.map cL (tbl (tNx m) k)))∧H 813=(bz w 25 1 (List.map cL (tbl (tOt m) k)))∧(j≤m.i.toNat)) ?_ ?_
  ·
   refine ⟨_,0,(v50+1),rfl,t1,t2,t6,t9,rfl,(eTq (rVq (V.ms 50 (v50+1) 0 m.i.toNat)) (by rfl)),t42,t43,t44,(eTq (rVq (aH (nth m.nx (nth (rch m) k).toNat))) (by rfl)),(eTq (rNq ((nth m.nx (nth (rch m) k).toNat).length)) (by rfl)),(eTq (rVq (iV 0)) rfl),h1,h2,h9,h26,(eTq (@rfl Blk (bk (v50+1) 3 1 (List.map cI (List.replicate m.i.toNat 0)))) (by (rw [← aA5,List.map_replicate]; done))),h812,h813,?_⟩
   · exact Nat.zero_le _
  intro mm T H ⟨j,u,hmm,t1,t2,t6,t9,t11,t12,t42,t43,t44,t55,t56,t57,h1,h2,h9,h26,h50,h812,h813,hj⟩ Q11 p111 p211 p311
  unfold aME
  refine W_r (bO t57 t56 (R_e ?_))
  refine aJ rfl (fun c12=>?_) fun c12=>?_
  ·
   have rj:=rr.2.2 j (by omega)
   have rin:=rc.clo k (by omega) _ (aR (show j < (nth m.nx (nth (rch m) k).toNat).length by omega))
   have rn:=hnum _ rin
   refine aG (aE fun Q13 n13 x13 y13 z13=>(W_r (aA t57 (bY (i:=j) t55 t57 (by omega) rfl (aI rfl rfl (aA rfl (aA rfl ?_)))))))
   refine R_e (W_t (aA t12 (aA rfl (aA t6 (aA rfl (gC (i:=(nth (nth m.nx (nth (rch m) k).toNat) j)) (rVq (V.ms 26 1 0 m.nx.length)) (rVq (iV (nth (nth m.nx (nth (rch m) k).toNat) j))) h26 oB rfl (by omega) (by omega) (bT (v:=(iV (nth N ((nth (nth m.nx (nth (rch m) k).toNat) j).toNat)))) rfl h26 (dY (by omega) (by rfl)) ?_)))))))
   refine bW (i:=j) (rVq (V.ms 50 u 0 m.i.toNat)) (rNq j) h50 oB rfl (by omega) (bJ (vs:=[(iV (nth N ((nth (nth m.nx (nth (rch m) k).toNat) j).toNat)))]) (B':=(bk u 3 1 (List.map cI ((dL (dG m k) 0 m.i.toNat j).set j (nth N ((nth (nth m.nx (nth (rch m) k).toNat) j).toNat)))))) rfl rfl rfl h50 (gB (x:=(nth N ((nth (nth m.nx (nth (rch m) k).toNat) j).toNat))) (i:=j) (by (rw [gO]; omega)) rfl rfl rfl rfl) (R_e (n13 _ _ (.done (W_t (bA t57 (rNq 1) (by omega) (aA rfl ?_)))))))
   refine R_e ?_
   refine p111 _ _ _ ?_ ⟨(j+1),u,rfl,t1,t2,t6,t9,t11,t12,t42,t43,t44,t55,t56,(eTq (rNq (j+1)) (by rfl)),h1,h2,h9,h26,(eTq (@rfl Blk (bk u 3 1 (List.map cI ((dL (dG m k) 0 m.i.toNat j).set j (nth N ((nth (nth m.nx (nth (rch m) k).toNat) j).toNat)))))) (by (rw [rn,← oT (f:=dG m k) (z:=0) (n:=m.i.toNat) (j:=j) (by omega)]; rfl))),h812,h813,?_⟩
   · omega
   · omega
  have ej:dL (dG m k) 0 m.i.toNat j=tNx m k:=mR (by omega)
  refine aP (p311 _ _ _ (x10 _ _ (bF (R:=fun T H=>T 1=(mPq 1)∧T 2=(mPq 2)∧T 6=(V.ms 26 1 0 m.nx.length)∧T 9=(mPq 9)∧T 11=(iV (nth (rch m) k))∧T 12=(V.ms 50 u 0 m.i.toNat)∧T 42=(aH (rch m))∧T 43=(iV (((rch m).length:Nat):Int))∧T 44=(iV ((k:Nat):Int))∧T 55=(aH (nth m.nx (nth (rch m) k).toNat))∧T 56=(iV (((nth m.nx (nth (rch m) k).toNat).length:Nat):Int))∧T 57=(iV ((j:Nat):Int))∧T 58=(V.bool (decide (((j:Nat):Int) < (((nth m.nx (nth (rch m) k).toNat).length:Nat):Int))))∧H 1=(bMq m)∧H 2=bNq∧H 9=(bk 1 24 4 [[(iV m.i),(iV 0),(V.ms 812 v 0 k),(V.ms 813 w 0 k)]])∧H 26=(bk 1 3 1 (List.map cI N))∧H 50=(bk u 3 1 (List.map cI (dL (dG m k) 0 m.i.toNat j)))∧H 812=(bz v 25 1 (List.map cL (tbl (tNx m) k)))∧H 813=(bz w 25 1 (List.map cL (tbl (tOt m) k)))∧True) ⟨t1,t2,t6,t9,t11,t12,t42,t43,t44,t55,t56,t57,(rVq (V.bool (decide (((j:Nat):Int) < (((nth m.nx (nth (rch m) k).toNat).length:Nat):Int))))),h1,h2,h9,h26,h50,h812,h813,trivial⟩ ?_)))
  intro T H ⟨t1,t2,t6,t9,t11,t12,t42,t43,t44,t55,t56,t57,t58,h1,h2,h9,h26,h50,h812,h813,_⟩
  refine .freeze 50 (.done ?_)
  refine bF (R:=fun T H=>T 1=(mPq 1)∧T 2=(mPq 2)∧T 6=(V.ms 26 1 0 m.nx.length)∧T 9=(mPq 9)∧T 11=(iV (nth (rch m) k))∧T 12=(aH (dL (dG m k) 0 m.i.toNat j))∧T 42=(aH (rch m))∧T 43=(iV (((rch m).length:Nat):Int))∧T 44=(iV ((k:Nat):Int))∧T 55=(aH (nth m.nx (nth (rch m) k).toNat))∧T 56=(iV (((nth m.nx (nth (rch m) k).toNat).length:Nat):Int))∧T 57=(iV ((j:Nat):Int))∧T 58=(V.bool (decide (((j:Nat):Int) < (((nth m.nx (nth (rch m) k).toNat).length:Nat):Int))))∧H 1=(bMq m)∧H 2=bNq∧H 9=(bk 1 24 4 [[(iV m.i),(iV 0),(V.ms 812 v 0 k),(V.ms 813 w 0 k)]])∧H 26=(bk 1 3 1 (List.map cI N))∧((H 50).ver=u∧(H 50).live=false)∧H 812=(bz v 25 1 (List.map cL (tbl (tNx m) k)))∧H 813=(bz w 25 1 (List.map cL (tbl (tOt m) k)))∧True) ⟨(aK t1 rfl),(aK t2 rfl),(aK t6 (cP (by decide))),(aK t9 rfl),(aK t11 rfl),(aK t12 (kC h50 (by simp) (l:=(dL (dG m k) 0 m.i.toNat j)) rfl (by exact (aU _ _).symm))),(aK t42 rfl),(aK t43 rfl),(aK t44 rfl),(aK t55 rfl),(aK t56 rfl),(aK t57 rfl),(aK t58 rfl),(aL h1 (by decide)),(aL h2 (by decide)),(aL h9 (by decide)),(aL h26 (by decide)),(bN (cVq h50)),(aL h812 (by decide)),(aL h813 (by decide)),trivial⟩ ?_
  intro T H ⟨t1,t2,t6,t9,t11,t12,t42,t43,t44,t55,t56,t57,t58,h1,h2,h9,h26,h50,h812,h813,_⟩
  refine W_r (bR t9 h9 (bD rfl h9 rfl rfl (aA t12 (cO rfl rfl (cH (l:=(tbl (tNx m) k)) (f:=cL) (x:=(dL (dG m k) 0 m.i.toNat j)) (rVq (V.ms 812 v 0 k)) h812 (by exact (aU _ _).symm) (rVq (V.sl [[(aH (dL (dG m k) 0 m.i.toNat j))]])) rfl rfl (by omega) (by omega) (bR t9 h9 (bJ (vs:=[(V.ms 812 (v+1) 0 (k+1))]) (B':=(bk 1 24 4 [[(iV m.i),(iV 0),(V.ms 812 (v+1) 0 (k+1)),(V.ms 813 w 0 k)]])) rfl rfl rfl h9 (sB oB rfl rfl rfl rfl rfl) ?_)))))))
  refine R_e (W_t (bR t9 rfl (bD rfl rfl rfl rfl (bR t1 h1 (bD rfl h1 rfl rfl (aA t11 (dX (i:=(nth (rch m) k)) (rVq (aD m.ot)) (rVq (iV (nth (rch m) k))) (by omega) (by omega) rfl ?_)))))))
  refine aI rfl rfl (aX (lD (nth m.ot (nth (rch m) k).toNat) (by omega)) rfl (cO rfl rfl (cH (l:=(tbl (tOt m) k)) (f:=cL) (x:=(nth m.ot (nth (rch m) k).toNat)) (rVq (V.ms 813 w 0 k)) h813 (by exact (aU _ _).symm) (rVq (V.sl [[(aH (nth m.ot (nth (rch m) k).toNat))]])) rfl rfl (by omega) (by omega) (bR t9 rfl (bJ (vs:=[(V.ms 813 (w+1) 0 (k+1))]) (B':=(bk 1 24 4 [[(iV m.i),(iV 0),(V.ms 812 (v+1) 0 (k+1)),(V.ms 813 (w+1) 0 (k+1))]])) rfl rfl rfl rfl (sB oB rfl rfl rfl rfl rfl) (R_e (n9 _ _ ?_)))))))
  refine .done (W_t (bA t44 (rNq 1) (by omega) (aA rfl (R_e ?_))))
  refine p17 _ _ _ ?_ ⟨(k+1),(v+1),(w+1),u,rfl,t1,t2,t6,t9,t42,t43,(eTq (rNq (k+1)) (by rfl)),h1,h2,(eTq (@rfl Blk (bk 1 24 4 [[(iV m.i),(iV 0),(V.ms 812 (v+1) 0 (k+1)),(V.ms 813 (w+1) 0 (k+1))]])) (by rfl)),h26,h50,(eTq (@rfl Blk (bz (v+1) 25 1 (List.map cL (tbl (tNx m) k++[dL (dG m k) 0 m.i.toNat j])))) (by (rw [fW,ej]; first|done|rfl))),(eTq (@rfl Blk (bz (w+1) 25 1 (List.map cL (tbl (tOt m) k++[(nth m.ot (nth (rch m) k).toNat)])))) (by (rw [fW,eo]; first|done|rfl))),?_⟩
  · omega
  · omega
 refine aP (p37 _ _ _ (x6 _ _ (.done (W_r (bD t9 h9 rfl rfl (bJ (vs:=[(iV m.i),(iV 0),(V.ms 812 v 0 k),(V.ms 813 w 0 k)]) (B':=(bk 1 24 4 [[(iV m.i),(iV 0),(V.ms 812 v 0 k),(V.ms 813 w 0 k)]])) t2 rfl rfl h2 (sB oB rfl rfl rfl rfl rfl) (aA rfl ?_)))))))
 refine R_e (bH ?_)
 refine rO (lW (u:=(V.agg [(iV m.i),(iV 0),(V.ms 812 v 0 k),(V.ms 813 w 0 k)])) t2 (@rfl Blk (bk 1 24 4 [[(iV m.i),(iV 0),(V.ms 812 v 0 k),(V.ms 813 w 0 k)]])) (lB oB rfl rfl)) (rB (rVq (iV 0))) (qV (cY (aW ?_) (cY (aW ?_) (cY (kN h812 (by simp) (l:=(tbl (tNx m) k)) rfl (by exact (aU _ _).symm) (fun _=>by simp) ?_) (cY (kN h813 (by simp) (l:=(tbl (tOt m) k)) rfl (by exact (aU _ _).symm) (fun _=>by simp) ?_) rfl))))) (aW ?_)
 · rw [trR,if_pos hm,fM hm]; try first|rfl|(rw [show k=(rch m).length by omega]; done)|(rw [show k=(rch m).length by omega]; rfl)
 · rw [trR,if_pos hm,fM hm]; try first|rfl|(rw [show k=(rch m).length by omega]; done)|(rw [show k=(rch m).length by omega]; rfl)
 · rw [trR,if_pos hm,fM hm]; try first|rfl|(rw [show k=(rch m).length by omega]; done)|(rw [show k=(rch m).length by omega]; rfl)
 · rw [trR,if_pos hm,fM hm]; try first|rfl|(rw [show k=(rch m).length by omega]; done)|(rw [show k=(rch m).length by omega]; rfl)
 · exact hm.symm
end Go.Proofs.YtmnnhjhkaepbaaaGreat
namespace Go.Proofs.YtmnnhjhkaepbaaaGreat
open Go Go.Proofs
attribute [local irreducible] rP xD
theorem aFH (m:M) (c:List Int) (hm:aV m=0) (hc:c.length=m.nx.length):aS Tryz.prog 169 [(V.agg [(iV m.i),(iV m.s),(aD m.nx),(aD m.ot)]),(aH c)] (V.tup [(aH (tbl (nmf (sgF m c)) m.nx.length)),(iV (((cnf (sgF m c) m.nx.length):Nat):Int))]):=by
 refine pW Tryz.func169 aEP fun hB=>?_
 unfold aJv
 dsimp only
 have mo:=bK hm
 refine W_r (eU (i:=2) (n:=0) (m:=4) (cs:=[(iV m.i),(iV m.s),(aD m.nx),(aD m.ot)]) rfl (cVq rfl) rfl rfl rfl (aA rfl (aA rfl (R_e (W_r (tL (i:=13) (n:=0) (rows:=jP (fE (sgF m c) 0)) rfl (cVq rfl) rfl (aA rfl ?_)))))))
 refine R_e (W_r (aA rfl (bI rfl (oK (i:=16) (n:=0) (m:=c.length) (q:=c.length) (f:=cI) (x:=0) rfl (cVq rfl) (rNq c.length) (rNq c.length) rfl (by omega) (by omega) (by omega) (aA rfl (R_e (aB ?_)))))))
 refine W_r (aA rfl (bI rfl (aA rfl (R_e (aE fun Q1 n1 x1 y1 z1=>?_)))))
 refine bP (fun mm T H=> ∃ (k:Nat) (v9:Nat),mm=c.length - k∧T 1=(aH c)∧T 2=(mPq 2)∧T 6=(V.mm 13 1)∧T 7=(V.ms 16 1 0 c.length)∧T 18=(iV ((c.length:Nat):Int))∧T 19=(iV ((k:Nat):Int))∧H 2=(bMq m)∧((H 9).ver=v9∧(H 9).live=false)∧H 13=(bz 1 bL 2 (jP (fE (sgF m c) k)))∧H 16=(bk 1 3 1 (List.map cI (dL (nmf (sgF m c)) 0 c.length k)))∧(k≤c.length)) ?_ ?_
 ·
  refine ⟨_,0,0,rfl,rfl,rfl,rfl,rfl,rfl,(eTq (rVq (iV 0)) rfl),rfl,⟨(cVq rfl),congrArg Blk.live (@rfl Blk bZq)⟩,rfl,(eTq (@rfl Blk (bk 1 3 1 (List.map cI (List.replicate c.length 0)))) (by (rw [← aA5,List.map_replicate]; done))),?_⟩
  · exact Nat.zero_le _
 intro mm T H ⟨k,v9,hmm,t1,t2,t6,t7,t18,t19,h2,h9,h13,h16,hk⟩ Q2 p12 p22 p32
 unfold aGC
 refine W_r (bO t19 t18 (R_e ?_))
 refine aJ rfl (fun c3=>?_) fun c3=>?_
 ·
  have rr:=mo.2.2.2.2.2.2.2 k (by omega)
  refine aG (aE fun Q4 n4 x4 y4 z4=>(W_r (aA t19 (aA rfl (R_e (W_r (aGt (i:=9) (n:=v9) (m:=128) (rows:=(List.map kF ([sgP m c k 0]))) rfl h9.1 rfl (by rw [aRA]; rfl) ?_)))))))
  refine R_e (aB (W_r (bR t2 h2 (bD rfl h2 rfl rfl (aA rfl (R_e (aE fun Q5 n5 x5 y5 z5=>?_)))))))
  refine bP (fun mm T H=> ∃ (j:Nat) (u:Nat),mm=m.i.toNat - j∧T 1=(aH c)∧T 2=(mPq 2)∧T 6=(V.mm 13 1)∧T 7=(V.ms 16 1 0 c.length)∧T 8=(iV ((k:Nat):Int))∧T 9=(V.mp 9 u 0 0)∧T 18=(iV ((c.length:Nat):Int))∧T 19=(iV ((k:Nat):Int))∧T 23=(iV m.i)∧T 24=(iV ((j:Nat):Int))∧H 2=(bMq m)∧H 9=(bk u 289 128 (List.map kF ([sgP m c k j])))∧H 13=(bz 1 bL 2 (jP (fE (sgF m c) k)))∧H 16=(bk 1 3 1 (List.map cI (dL (nmf (sgF m c)) 0 c.length k)))∧(j≤m.i.toNat)) ?_ ?_
  ·
   refine ⟨_,0,(v9+1),rfl,t1,t2,t6,t7,rfl,(eTq (rVq (V.mp 9 (v9+1) 0 0)) (by rfl)),t18,t19,rfl,(eTq (rVq (iV 0)) rfl),h2,(eTq (@rfl Blk (bk (v9+1) 289 128 (List.map kF ([sgP m c k 0])))) (by rfl)),h13,h16,?_⟩
   · exact Nat.zero_le _
  intro mm T H ⟨j,u,hmm,t1,t2,t6,t7,t8,t9,t18,t19,t23,t24,h2,h9,h13,h16,hj⟩ Q6 p16 p26 p36
  unfold aGY
  refine W_r (bO t24 t23 (R_e ?_))
  refine aJ rfl (fun c7=>?_) fun c7=>?_
  ·
   have rj:=rr.2.2 j (by omega)
   refine aG (aE fun Q8 n8 x8 y8 z8=>(W_r (aA t24 (aA rfl (R_e (W_r (aA rfl ?_)))))))
   refine bR t2 h2 (bD rfl h2 rfl rfl (aA t8 (bY (i:=k) (rVq (aD m.ot)) (rNq k) (by omega) rfl (aI rfl rfl (aA rfl (bY (i:=j) (rVq (aH (nth m.ot k))) (rNq j) (by omega) rfl (aI rfl rfl ?_)))))))
   refine zD (i:=j) (o':=j) t9 (rNq j) h9 oB (by omega) (by omega) (bJ (vs:=[(iV (nth (nth m.ot k) j))]) (B':=(bk u 289 128 (List.map kF ([(sgP m c k j).set j (nth (nth m.ot k) j)])))) rfl rfl rfl h9 (stR (by rw [tI]; omega)) (R_e (W_t (aA rfl (aLN rfl rfl (by omega) (by omega) (aA t1 (bR t2 h2 ?_)))))))
   refine bD rfl h2 rfl rfl (aA t8 (bY (i:=k) (rVq (aD m.nx)) (rNq k) (by omega) rfl (aI rfl rfl (aA rfl (bY (i:=j) (rVq (aH (nth m.nx k))) (rNq j) (by omega) rfl (aI rfl rfl (dX (i:=(nth (nth m.nx k) j)) (rVq (aH c)) (rVq (iV (nth (nth m.nx k) j))) (by omega) (by omega) rfl ?_)))))))
   refine aI rfl rfl (zD (i:=(((64:Int)+((j:Nat):Int)).toNat)) (o':=(((64:Int)+((j:Nat):Int)).toNat)) t9 (eTq (rVq (iV ((64:Int)+((j:Nat):Int)))) (aGJ (by omega))) (@rfl Blk (bk u 289 128 (List.map kF ([(sgP m c k j).set j (nth (nth m.ot k) j)])))) oB (by omega) (by omega) (bJ (vs:=[(iV (nth c (nth (nth m.nx k) j).toNat))]) (B':=(bk u 289 128 (List.map kF ([sgP m c k (j+1)])))) rfl rfl rfl (@rfl Blk (bk u 289 128 (List.map kF ([(sgP m c k j).set j (nth (nth m.ot k) j)])))) (aUi (m:=m) (c:=c) (k:=k) (j:=j) (by omega)) (R_e (n8 _ _ (.done (W_t (bA t24 (rNq 1) (by omega) ?_)))))))
   refine aA rfl (R_e ?_)
   refine p16 _ _ _ ?_ ⟨(j+1),u,rfl,t1,t2,t6,t7,t8,t9,t18,t19,t23,(eTq (rNq (j+1)) (by rfl)),h2,(eTq (@rfl Blk (bk u 289 128 (List.map kF ([sgP m c k (j+1)])))) (by rfl)),h13,h16,?_⟩
   · omega
   · omega
  have ej:sgP m c k j=sgF m c k:=by unfold sgF; rw [show m.i.toNat=j by omega]
  refine aP (p36 _ _ _ (x5 _ _ (.done (W_r (aA t6 (bT (v:=(oQ (sgF m c k))) t9 h9 (by rw [ej]; exact ldR (tW k)) (aBa (z:=(iV 0)) (u:=(iV (if lsf (sgF m c) k=k then 0 else nmf (sgF m c) k))) (f:=decide (lsf (sgF m c) k≠k)) (rVq (V.mm 13 1)) (rVq (oQ (sgF m c k))) h13 (aTo tW) ?_)))))))
  refine aA rfl (cR rfl rfl (cR rfl rfl (aA rfl (aA rfl (R_e (aB (W_r ?_)))))))
  refine aA rfl (aBP rfl (R_e ?_))
  refine aJ rfl (fun c9=>?_) fun c9=>?_
  ·
   have d1:lsf (sgF m c) k=k:=by have z:=c9; simpa using z
   have d2:=rD d1
   refine aB (W_r (aA t6 (aAS (n:=(cnf (sgF m c) k)) (rVq (V.mm 13 1)) h13 aT1 (aA rfl (R_e (W_r (aA t6 ?_)))))))
   refine bT (v:=(oQ (sgF m c k))) t9 h9 (by rw [ej]; exact ldR (tW k)) (aA rfl (vR (B':=(bz 1 bL 2 (jP (fE (sgF m c) (k+1))))) (rVq (V.mm 13 1)) (rVq (oQ (sgF m c k))) (rNq (cnf (sgF m c) k)) h13 (aUo tW d1) (R_e (W_t (aA t7 (aA t8 (aA rfl ?_)))))))
   refine bW (i:=k) (rVq (V.ms 16 1 0 c.length)) (rNq k) h16 oB rfl (by omega) (bJ (vs:=[(iV ((cnf (sgF m c) k:Nat):Int))]) (B':=(bk 1 3 1 (List.map cI ((dL (nmf (sgF m c)) 0 c.length k).set k ((cnf (sgF m c) k:Nat):Int))))) rfl rfl rfl h16 (gB (x:=((cnf (sgF m c) k:Nat):Int)) (i:=k) (by (rw [gO]; omega)) rfl rfl rfl rfl) (R_e (n4 _ _ (bF (R:=fun T H=>T 1=(aH c)∧T 2=(mPq 2)∧T 6=(V.mm 13 1)∧T 7=(V.ms 16 1 0 c.length)∧T 18=(iV ((c.length:Nat):Int))∧T 19=(iV ((k:Nat):Int))∧H 2=(bMq m)∧H 9=(bk u 289 128 (List.map kF ([sgP m c k j])))∧H 13=(bz 1 bL 2 (jP (fE (sgF m c) (k+1))))∧H 16=(bk 1 3 1 (List.map cI ((dL (nmf (sgF m c)) 0 c.length k).set k ((cnf (sgF m c) k:Nat):Int))))∧True) ⟨t1,t2,t6,t7,t18,t19,h2,h9,rfl,rfl,trivial⟩ ?_))))
   intro T H ⟨t1,t2,t6,t7,t18,t19,h2,h9,h13,h16,_⟩
   refine .freeze 9 (.done ?_)
   refine bF (R:=fun T H=>T 1=(aH c)∧T 2=(mPq 2)∧T 6=(V.mm 13 1)∧T 7=(V.ms 16 1 0 c.length)∧T 18=(iV ((c.length:Nat):Int))∧T 19=(iV ((k:Nat):Int))∧H 2=(bMq m)∧((H 9).ver=u∧(H 9).live=false)∧H 13=(bz 1 bL 2 (jP (fE (sgF m c) (k+1))))∧H 16=(bk 1 3 1 (List.map cI ((dL (nmf (sgF m c)) 0 c.length k).set k ((cnf (sgF m c) k:Nat):Int))))∧True) ⟨(aK t1 rfl),(aK t2 rfl),(aK t6 rfl),(aK t7 (cP (by decide))),(aK t18 rfl),(aK t19 rfl),(aL h2 (by decide)),(bN (cVq h9)),(aL h13 (by decide)),(aL h16 (by decide)),trivial⟩ ?_
   intro T H ⟨t1,t2,t6,t7,t18,t19,h2,h9,h13,h16,_⟩
   refine W_t (bA t19 (rNq 1) (by omega) (aA rfl (R_e ?_)))
   refine p12 _ _ _ ?_ ⟨(k+1),u,rfl,t1,t2,t6,t7,t18,(eTq (rNq (k+1)) (by rfl)),h2,h9,(eTq h13 (by rfl)),(eTq h16 (by (rw [← d2,← oT (f:=nmf (sgF m c)) (z:=0) (n:=c.length) (j:=k) (by omega)]; first|done|rfl))),?_⟩
   · omega
   · omega
  have d1: ¬lsf (sgF m c) k=k:=by have z:=c9; simpa using z
  refine aG (W_t (aA t7 (aA t8 (aA rfl (bW (i:=k) (rVq (V.ms 16 1 0 c.length)) (rNq k) h16 oB rfl (by omega) (bJ (vs:=[(iV (if lsf (sgF m c) k=k then 0 else nmf (sgF m c) k))]) (B':=(bk 1 3 1 (List.map cI ((dL (nmf (sgF m c)) 0 c.length k).set k (if lsf (sgF m c) k=k then 0 else nmf (sgF m c) k))))) rfl rfl rfl h16 (gB (x:=(if lsf (sgF m c) k=k then 0 else nmf (sgF m c) k)) (i:=k) (by (rw [gO]; omega)) rfl rfl rfl rfl) (R_e ?_)))))))
  refine n4 _ _ (bF (R:=fun T H=>T 1=(aH c)∧T 2=(mPq 2)∧T 6=(V.mm 13 1)∧T 7=(V.ms 16 1 0 c.length)∧T 18=(iV ((c.length:Nat):Int))∧T 19=(iV ((k:Nat):Int))∧H 2=(bMq m)∧H 9=(bk u 289 128 (List.map kF ([sgP m c k j])))∧H 13=(bz 1 bL 2 (jP (fE (sgF m c) k)))∧H 16=(bk 1 3 1 (List.map cI ((dL (nmf (sgF m c)) 0 c.length k).set k (if lsf (sgF m c) k=k then 0 else nmf (sgF m c) k))))∧True) ⟨t1,t2,t6,t7,t18,t19,h2,h9,h13,rfl,trivial⟩ ?_)
  intro T H ⟨t1,t2,t6,t7,t18,t19,h2,h9,h13,h16,_⟩
  refine .freeze 9 (.done ?_)
  refine bF (R:=fun T H=>T 1=(aH c)∧T 2=(mPq 2)∧T 6=(V.mm 13 1)∧T 7=(V.ms 16 1 0 c.length)∧T 18=(iV ((c.length:Nat):Int))∧T 19=(iV ((k:Nat):Int))∧H 2=(bMq m)∧((H 9).ver=u∧(H 9).live=false)∧H 13=(bz 1 bL 2 (jP (fE (sgF m c) k)))∧H 16=(bk 1 3 1 (List.map cI ((dL (nmf (sgF m c)) 0 c.length k).set k (if lsf (sgF m c) k=k then 0 else nmf (sgF m c) k))))∧True) ⟨(aK t1 rfl),(aK t2 rfl),(aK t6 rfl),(aK t7 (cP (by decide))),(aK t18 rfl),(aK t19 rfl),(aL h2 (by decide)),(bN (cVq h9)),(aL h13 (by decide)),(aL h16 (by decide)),trivial⟩ ?_
  intro T H ⟨t1,t2,t6,t7,t18,t19,h2,h9,h13,h16,_⟩
  refine W_t (bA t19 (rNq 1) (by omega) (aA rfl (R_e ?_)))
  refine p12 _ _ _ ?_ ⟨(k+1),u,rfl,t1,t2,t6,t7,t18,(eTq (rNq (k+1)) (by rfl)),h2,h9,(eTq h13 (by (rw [aQg d1]; done))),(eTq h16 (by (rw [if_neg d1,← oT (f:=nmf (sgF m c)) (z:=0) (n:=c.length) (j:=k) (by omega)]; first|done|rfl))),?_⟩
  · omega
  · omega
 have ek:k=m.nx.length:=by omega
 refine aP (p32 _ _ _ (x1 _ _ (.done (W_r (aA t7 (aA t6 (aAS (n:=(cnf (sgF m c) m.nx.length)) (rVq (V.mm 13 1)) h13 (by rw [ek]; exact aT1) ?_)))))))
 refine aA rfl (aA rfl (R_e (bH ?_)))
 refine lV (rVq (V.ms 16 1 0 c.length)) (rNq (cnf (sgF m c) m.nx.length)) (kN h16 (by rfl) (l:=(dL (nmf (sgF m c)) 0 c.length k)) rfl (by (rw [gO])) (fun _=>by simp) ?_) (eD (by simp) rfl)
 · first|rfl|(rw [mR (by omega),hc]; done)|(rw [mR (by omega),hc]; rfl)
end Go.Proofs.YtmnnhjhkaepbaaaGreat
namespace Go.Proofs.YtmnnhjhkaepbaaaGreat
open Go Go.Proofs
attribute [local irreducible] rP
theorem aCj (m:M) (hm:aV m=0):aS Tryz.prog 123 [(V.agg [(iV m.i),(iV m.s),(aD m.nx),(aD m.ot)]),(iV 128)] (V.tup [(aH (clK m (tB m))),(iV (((tB m):Nat):Int))]):=by
 refine pW Tryz.func123 aD1 fun hB=>?_
 unfold aKh
 dsimp only
 have mo:=bK hm
 obtain ⟨s1,s2,s3⟩:=aGV hm
 have k0:=aSd hm
 refine W_r (eU (i:=2) (n:=0) (m:=4) (cs:=[(iV m.i),(iV m.s),(aD m.nx),(aD m.ot)]) rfl (cVq rfl) rfl rfl rfl (aA rfl (aA rfl (R_e ?_))))
 refine mY (fun T H=>T 1=(iV 128)∧T 2=(mPq 2)∧T 6=(V.ms 14 1 0 m.nx.length)∧T 7=(iV 1)∧H 2=(bMq m)∧H 14=(bk 1 3 1 (List.map cI (List.replicate m.nx.length 0)))∧True) ?_ ?_
 ·
  refine bR rfl rfl (bD rfl rfl rfl rfl (bI rfl (oK (i:=14) (n:=0) (m:=m.nx.length) (q:=m.nx.length) (f:=cI) (x:=0) rfl (cVq rfl) (rNq m.nx.length) (rNq m.nx.length) rfl (by omega) (by omega) (by omega) (aA rfl (aA rfl ?_)))))
  exact iQ ⟨rfl,rfl,rfl,rfl,rfl,rfl,trivial⟩
 intro T H ⟨t1,t2,t6,t7,h2,h14,_⟩
 refine .freeze 14 (.done ?_)
 refine bF (R:=fun T H=>T 1=(iV 128)∧T 2=(mPq 2)∧T 6=(aH (List.replicate m.nx.length 0))∧T 7=(iV 1)∧H 2=(bMq m)∧((H 14).ver=1∧(H 14).live=false)∧True) ⟨(aK t1 rfl),(aK t2 rfl),(aK t6 (kC h14 (by rfl) (l:=(List.replicate m.nx.length 0)) rfl (by simp))),(aK t7 rfl),(aL h2 (by decide)),(bN (cVq h14)),trivial⟩ ?_
 intro T H ⟨t1,t2,t6,t7,h2,h14,_⟩
 refine aB (W_r (aA t1 (aL9 (m:=128) (n:=0) (rNq 128) (rNq 0) (bR t2 h2 (bD rfl h2 rfl rfl (bI rfl (aE6 (m:=(max 128 0)) (n:=m.nx.length) rfl rfl ?_)))))))
 refine aA rfl (R_e (aE fun Q1 n1 x1 y1 z1=>?_))
 refine bP (fun mm T H=> ∃ (k:Nat),mm=m.nx.length - k∧T 1=(iV 128)∧T 2=(mPq 2)∧T 6=(aH (clK m k))∧T 7=(iV (((ctK m k):Nat):Int))∧T 20=(iV ((m.nx.length:Nat):Int))∧T 21=(iV ((k:Nat):Int))∧H 2=(bMq m)∧((H 14).ver=1∧(H 14).live=false)∧(k≤tB m)) ?_ ?_
 ·
  refine ⟨_,0,rfl,t1,t2,(eTq t6 (by exact congrArg aH aTb.symm)),(eTq t7 (by exact congrArg iV (by omega))),(eTq (rNq (min (max 128 0) m.nx.length)) (by exact congrArg iV (by omega))),(eTq (rVq (iV 0)) rfl),h2,h14,?_⟩
  · exact Nat.zero_le _
 intro mm T H ⟨k,hmm,t1,t2,t6,t7,t20,t21,h2,h14,hk⟩ Q2 p12 p22 p32
 unfold aHH
 refine W_r (bO t21 t20 (R_e ?_))
 refine aJ rfl (fun c3=>?_) fun c3=>?_
 ·
  obtain ⟨e1,e2⟩:=aJR hm (by omega) k
  refine aG (aE fun Q4 n4 x4 y4 z4=>(W_r (aA t21 (aA rfl (R_e (W_r (bD t2 h2 rfl rfl ?_)))))))
  refine aA t6 (aX (aFH m (clK m k) hm (aDE k)) rfl (aA rfl (cR rfl rfl (cR rfl rfl (aA rfl (aA rfl (R_e ?_)))))))
  refine aB (W_r (aA rfl (aA t7 (gT rfl rfl (R_e ?_)))))
  refine aJ rfl (fun c5=>?_) fun c5=>?_
  ·
   have d1:=c5
   have d2:k=tB m:=Nat.le_antisymm hk (Nat.le_of_not_lt fun z=>s3 k z (by omega))
   refine aB (W_r (aA t6 (aA rfl (aA rfl (aA rfl (R_e (bC ?_)))))))
   refine y4 _ _ (p22 _ _ (y1 _ _ ?_))
   refine lV (rVq (aH (clK m k))) (rNq k) (sA ?_ (fun _=>by simp)) (aW ?_)
   · first|rfl|omega|(rw [d2]; done)
   · first|rfl|omega|(rw [d2]; done)
  have d1:=c5
  refine aG (W_t (aA rfl (aA rfl (aA rfl (aA rfl (R_e (n4 _ _ ?_)))))))
  refine .done (W_t (bA t21 (rNq 1) (by omega) (aA rfl (R_e ?_))))
  refine p12 _ _ _ ?_ ⟨(k+1),rfl,t1,t2,(eTq (rVq (aH (tbl (nmf (sgF m (clK m k))) m.nx.length))) (by exact congrArg aH e1)),(eTq (rNq (cnf (sgF m (clK m k)) m.nx.length)) (by exact congrArg iV (by omega))),t20,(eTq (rNq (k+1)) (by rfl)),h2,h14,?_⟩
  · omega
  · have z:k≠tB m:=fun e=>by subst e; omega
    omega
 refine aP (p32 _ _ _ (x1 _ _ (.done (W_r (aA t6 (aA t1 (aL9 (m:=128) (n:=0) (rNq 128) (rNq 0) ?_)))))))
 refine bR t2 h2 (bD rfl h2 rfl rfl (bI rfl (aE6 (m:=(max 128 0)) (n:=m.nx.length) rfl rfl (aA rfl (aA rfl (R_e (bH ?_)))))))
 refine lV (rVq (aH (clK m k))) (rNq (min (max 128 0) m.nx.length)) (sA ?_ (fun _=>by simp)) (aW ?_)
 · first|rfl|omega|(rw [d2]; done)
 · first|rfl|omega|(rw [d2]; done)
end Go.Proofs.YtmnnhjhkaepbaaaGreat
namespace Go.Proofs.YtmnnhjhkaepbaaaGreat
open Go Go.Proofs
theorem aDl (m:M):aS Tryz.prog 78 [(V.agg [(iV m.i),(iV m.s),(aD m.nx),(aD m.ot)]),(iV 128)] (V.tup [(aH (clP m)),(iV (aV m))]):=by
 refine pW Tryz.func78 aG0 fun hB=>?_
 unfold s78
 dsimp only
 refine W_r (eU (i:=2) (n:=0) (m:=4) (cs:=[(iV m.i),(iV m.s),(aD m.nx),(aD m.ot)]) rfl (cVq rfl) rfl rfl rfl (aA rfl (aA rfl (R_e (aB (W_r (bD rfl rfl rfl rfl ?_)))))))
 refine aX (gI m) rfl (aA rfl (R_e (aB (W_r (aA rfl (fB rfl rfl (R_e ?_)))))))
 refine aJ rfl (fun c1=>?_) fun c1=>?_
 ·
  have d0:=c1
  refine aB (W_r (aA rfl (aA rfl (aA rfl (R_e (bC ?_))))))
  refine lV (rVq V.nilsl) (rVq (iV (aV m))) (gG ?_) (eD (by simp) rfl)
  · rw [clP,if_neg d0]; try rfl
 have hm:aV m=0:=by omega
 refine aG (W_r (bD rfl rfl rfl rfl (aA rfl (aX (aCj m (by omega)) rfl (aA rfl (cR rfl rfl (cR rfl rfl ?_)))))))
 refine aA rfl (aA rfl (R_e (W_r (aA rfl (aA rfl (aA rfl (R_e ?_)))))))
 refine bH ?_
 refine lV (rVq (aH (clK m (tB m)))) (rVq (iV 0)) (sA ?_ (fun _=>by simp)) (aW ?_)
 · rw [clP,if_pos hm]
 · exact hm.symm
theorem xR (m:M):aS Tryz.prog 49 [(V.agg [(iV m.i),(iV m.s),(aD m.nx),(aD m.ot)])] (V.tup [(aH (clP m)),(iV (aV m))]):=by
 refine pW Tryz.func49 aHm fun hB=>?_
 unfold s49
 dsimp only
 refine W_r (eU (i:=1) (n:=0) (m:=4) (cs:=[(iV m.i),(iV m.s),(aD m.nx),(aD m.ot)]) rfl (cVq rfl) rfl rfl rfl (aA rfl (aA rfl (R_e (W_r (bD rfl rfl rfl rfl (aX (aDl m) rfl ?_)))))))
 refine cR rfl rfl (cR rfl rfl (aA rfl (aA rfl (R_e (bH ?_)))))
 refine lV (rVq (aH (clP m))) (rVq (iV (aV m))) (eD (by simp) rfl) (eD (by simp) rfl)
theorem aFQ (m:M):aS Tryz.prog 25 [(V.agg [(iV m.i),(iV m.s),(aD m.nx),(aD m.ot)])] (V.tup [(V.agg [(iV ((mnR m).i)),(iV ((mnR m).s)),(aD ((mnR m).nx)),(aD ((mnR m).ot))]),(iV (aV m))]):=by
 refine pW Tryz.func25 aHN fun hB=>?_
 unfold s25
 dsimp only
 refine W_r (eU (i:=1) (n:=0) (m:=4) (cs:=[(iV m.i),(iV m.s),(aD m.nx),(aD m.ot)]) rfl (cVq rfl) rfl rfl rfl (eR (i:=2) (n:=0) (m:=4) rfl (cVq rfl) rfl (aA rfl (R_e (W_r (bD rfl rfl rfl rfl (aX (aDy m) rfl ?_)))))))
 refine aA rfl (cR rfl rfl (cR rfl rfl (eR (i:=4) (n:=0) (m:=4) rfl (cVq rfl) rfl (bJ (vs:=[(iV ((trR m).i)),(iV ((trR m).s)),(aD ((trR m).nx)),(aD ((trR m).ot))]) (B':=(bk 1 24 4 [[(iV ((trR m).i)),(iV ((trR m).s)),(aD ((trR m).nx)),(aD ((trR m).ot))]])) rfl rfl rfl rfl (sB oB rfl rfl rfl rfl rfl) (aA rfl (R_e (aB ?_)))))))
 refine W_r (aA rfl (fB rfl rfl (R_e ?_)))
 refine aJ rfl (fun c1=>?_) fun c1=>?_
 ·
  have d0:=c1
  refine aB (W_r (fY rfl rfl (aA rfl (bJ (vs:=[(iV 0),(iV 0),V.nilsl,V.nilsl]) (B':=bNq) rfl rfl rfl rfl (sB oB rfl rfl rfl rfl rfl) (aA rfl (R_e (bC ?_)))))))
  refine rO (lW (u:=(V.agg [(iV 0),(iV 0),V.nilsl,V.nilsl])) rfl (@rfl Blk bNq) (lB oB rfl rfl)) (rB (rVq (iV (aV m)))) (qV (cY (aW ?_) (cY (aW ?_) (cY (gG ?_) (cY (gG ?_) rfl))))) (eD (by simp) rfl)
  · rw [mnR,if_neg d0]; try rfl
  · rw [mnR,if_neg d0]; try rfl
  · rw [mnR,if_neg d0]; try rfl
  · rw [mnR,if_neg d0]; try rfl
 have hm:aV m=0:=by omega
 have mo:=bK hm
 have rc:=iA hm
 have rl:=rc.len
 have me:=mo.2.2.2.2.2.2.1
 obtain ⟨p1,p2,p3,p4,p5,p6⟩:=aGb hm
 refine aG (W_r (bD rfl rfl rfl rfl (aX (xR (trR m)) rfl (aA rfl (cR rfl rfl (cR rfl rfl (aA rfl ?_)))))))
 refine aA rfl (R_e (aB (W_r (aA rfl (fB rfl rfl (R_e ?_))))))
 refine aJ rfl (fun c2=>?_) fun c2=>?_
 · exfalso; omega
 refine aG (W_r (bR rfl rfl (bD rfl rfl rfl rfl (fY rfl rfl (eR (i:=7) (n:=0) (m:=4) rfl (cVq rfl) rfl (bJ (vs:=[(iV ((trR m).i)),(iV 0),V.nilsl,V.nilsl]) (B':=(bk 1 24 4 [[(iV ((trR m).i)),(iV 0),V.nilsl,V.nilsl]])) rfl rfl rfl rfl (sB oB rfl rfl rfl rfl rfl) (R_e ?_)))))))
 refine aB ?_
 refine mY (fun T H=>T 2=(mPq 2)∧T 4=(mPq 4)∧T 6=(aH (clP (trR m)))∧T 7=(mPq 7)∧T 34=(aH (clP (trR m)))∧T 35=(iV (((clP (trR m)).length:Nat):Int))∧T 36=(iV 0)∧H 1=(bMq m)∧H 2=bNq∧H 4=(bk 1 24 4 [[(iV ((trR m).i)),(iV ((trR m).s)),(aD ((trR m).nx)),(aD ((trR m).ot))]])∧H 7=(bk 1 24 4 [[(iV ((trR m).i)),(iV 0),V.nilsl,V.nilsl]])∧H 10=bZq∧H 72=bZq∧H 812=bZq∧H 813=bZq∧True) ?_ ?_
 ·
  refine aA rfl (bI rfl (aA rfl ?_))
  exact iQ ⟨rfl,rfl,rfl,rfl,rfl,rfl,rfl,rfl,rfl,rfl,rfl,rfl,rfl,rfl,rfl,trivial⟩
 intro T H ⟨t2,t4,t6,t7,t34,t35,t36,h1,h2,h4,h7,h10,h72,h812,h813,_⟩
 refine .lazyCell 812 25 1 7 0 2 [(iV ((trR m).i)),(iV 0),V.nilsl,V.nilsl] (by decide) (by rw [h7]; rfl) (by rw [h7]; rfl) rfl (bF (R:=fun T H=>T 2=(mPq 2)∧T 4=(mPq 4)∧T 6=(aH (clP (trR m)))∧T 7=(mPq 7)∧T 34=(aH (clP (trR m)))∧T 35=(iV (((clP (trR m)).length:Nat):Int))∧T 36=(iV 0)∧H 1=(bMq m)∧H 2=bNq∧H 4=(bk 1 24 4 [[(iV ((trR m).i)),(iV ((trR m).s)),(aD ((trR m).nx)),(aD ((trR m).ot))]])∧H 7=(bk 1 24 4 [[(iV ((trR m).i)),(iV 0),(V.ms 812 1 0 0),V.nilsl]])∧H 10=bZq∧H 72=bZq∧H 812=(bz 1 25 1 [])∧H 813=bZq∧True) ⟨t2,t4,t6,t7,t34,t35,t36,(uTq (uTq h1)),(uTq (uTq h2)),(uTq (uTq h4)),(by rw [aC,h7,(cVq h812)]; rfl),(uTq (uTq h10)),(uTq (uTq h72)),(by rw [aQ _ _ (by decide),aC,(cVq h812)]),(uTq (uTq h813)),trivial⟩ ?_)
 intro T H ⟨t2,t4,t6,t7,t34,t35,t36,h1,h2,h4,h7,h10,h72,h812,h813,_⟩
 refine .lazyCell 813 25 1 7 0 3 [(iV ((trR m).i)),(iV 0),(V.ms 812 1 0 0),V.nilsl] (by decide) (by rw [h7]; rfl) (by rw [h7]; rfl) rfl (.done ?_)
 refine bF (R:=fun T H=>T 2=(mPq 2)∧T 4=(mPq 4)∧T 6=(aH (clP (trR m)))∧T 7=(mPq 7)∧T 34=(aH (clP (trR m)))∧T 35=(iV (((clP (trR m)).length:Nat):Int))∧T 36=(iV 0)∧H 1=(bMq m)∧H 2=bNq∧H 4=(bk 1 24 4 [[(iV ((trR m).i)),(iV ((trR m).s)),(aD ((trR m).nx)),(aD ((trR m).ot))]])∧H 7=(bk 1 24 4 [[(iV ((trR m).i)),(iV 0),(V.ms 812 1 0 0),(V.ms 813 1 0 0)]])∧H 10=bZq∧H 72=bZq∧H 812=(bz 1 25 1 [])∧H 813=(bz 1 25 1 [])∧True) ⟨t2,t4,t6,t7,t34,t35,t36,(uTq (uTq h1)),(uTq (uTq h2)),(uTq (uTq h4)),(by rw [aC,h7,(cVq h813)]; rfl),(uTq (uTq h10)),(uTq (uTq h72)),(uTq (uTq h812)),(by rw [aQ _ _ (by decide),aC,(cVq h813)]),trivial⟩ ?_
 intro T H ⟨t2,t4,t6,t7,t34,t35,t36,h1,h2,h4,h7,h10,h72,h812,h813,_⟩
 refine aE fun Q3 n3 x3 y3 z3=>?_
 refine bP (fun mm T H=> ∃ (k:Nat) (v:Nat) (w:Nat) (v10:Nat) (v72:Nat),mm=(rch m).length - k∧T 2=(mPq 2)∧T 4=(mPq 4)∧T 6=(aH (clP (trR m)))∧T 7=(mPq 7)∧T 34=(aH (clP (trR m)))∧T 35=(iV (((clP (trR m)).length:Nat):Int))∧T 36=(iV ((k:Nat):Int))∧H 1=(bMq m)∧H 2=bNq∧H 4=(bk 1 24 4 [[(iV ((trR m).i)),(iV ((trR m).s)),(aD ((trR m).nx)),(aD ((trR m).ot))]])∧H 7=(bk 1 24 4 [[(iV m.i),(iV 0),(V.ms 812 v 0 ((FK m k).length)),(V.ms 813 w 0 ((FK m k).length))]])∧((H 10).ver=v10∧(H 10).live=false)∧((H 72).ver=v72∧(H 72).live=false)∧H 812=(bz v 25 1 (List.map cL ((FK m k).map (lO m))))∧H 813=(bz w 25 1 (List.map cL ((FK m k).map (tOt m))))∧(k≤(rch m).length)) ?_ ?_
 ·
  refine ⟨_,0,1,1,0,0,rfl,t2,t4,(eTq t6 (by rfl)),t7,(eTq t34 (by rfl)),(eTq t35 (by rfl)),(eTq t36 rfl),h1,h2,h4,(eTq h7 (by (rw [p2]; rfl))),⟨(cVq h10),congrArg Blk.live h10⟩,⟨(cVq h72),congrArg Blk.live h72⟩,(eTq h812 (by rfl)),(eTq h813 (by rfl)),?_⟩
  · exact Nat.zero_le _
 intro mm T H ⟨k,v,w,v10,v72,hmm,t2,t4,t6,t7,t34,t35,t36,h1,h2,h4,h7,h10,h72,h812,h813,hk⟩ Q4 p14 p24 p34
 unfold aMf
 refine W_r (bO t36 t35 (R_e ?_))
 refine aJ rfl (fun c5=>?_) fun c5=>?_
 ·
  obtain ⟨g1,g2,g3,g4,g5,g6⟩:=p6 k (by omega)
  have fl:=mS (m:=m) k
  have cl:=rU (f:=cRc m) k
  have n2:(nth (trR m).nx k).length=m.i.toNat:=by rw [g2,g4]
  have n3:(nth (trR m).ot k).length=m.i.toNat:=by rw [g3,g5]
  refine aG (aE fun Q6 n6 x6 y6 z6=>(W_r (aA t36 (bY (i:=k) t34 t36 (by omega) rfl (aI rfl rfl (aA rfl (aA rfl ?_)))))))
  refine R_e (aB (W_r (aA rfl (bR t7 h7 (bD rfl h7 rfl rfl (dK rfl h812 (by simp) (bO rfl rfl ?_)))))))
  refine R_e ?_
  refine aJ rfl (fun c7=>?_) fun c7=>?_
  ·
   have fs:FK m (k+1)=FK m k:=aNl (by rw [← g1,← fl]; exact c7)
   refine aP (x6 _ _ (.done (W_t (bA t36 (rNq 1) (by omega) (aA rfl (R_e ?_))))))
   refine p14 _ _ _ ?_ ⟨(k+1),v,w,v10,v72,rfl,t2,t4,t6,t7,t34,t35,(eTq (rNq (k+1)) (by rfl)),h1,h2,h4,(eTq h7 (by (rw [fs]; done))),h10,h72,(eTq h812 (by (rw [fs]; done))),(eTq h813 (by (rw [fs]; done))),?_⟩
   · omega
   · omega
  have fs:FK m (k+1)=FK m k++[k]:=aQY (by rw [← g1,← fl]; exact c7)
  refine aG (W_r (fF (i:=10) (n:=v10) rfl h10.1 (R_e (aB (W_r (bR t4 h4 (bD rfl h4 rfl rfl ?_)))))))
  refine aA rfl (bY (i:=k) (rVq (aD ((trR m).nx))) (rNq k) (by omega) rfl (aI rfl rfl (bI rfl (aA rfl (R_e (aE fun Q8 n8 x8 y8 z8=>?_))))))
  refine bP (fun mm T H=> ∃ (j:Nat) (u:Nat),mm=m.i.toNat - j∧T 2=(mPq 2)∧T 4=(mPq 4)∧T 6=(aH (clP (trR m)))∧T 7=(mPq 7)∧T 8=(iV ((k:Nat):Int))∧T 10=(V.ms 10 u 0 j)∧T 34=(aH (clP (trR m)))∧T 35=(iV (((clP (trR m)).length:Nat):Int))∧T 36=(iV ((k:Nat):Int))∧T 50=(aH (nth (trR m).nx k))∧T 51=(iV (((nth (trR m).nx k).length:Nat):Int))∧T 52=(iV ((j:Nat):Int))∧H 1=(bMq m)∧H 2=bNq∧H 4=(bk 1 24 4 [[(iV ((trR m).i)),(iV ((trR m).s)),(aD ((trR m).nx)),(aD ((trR m).ot))]])∧H 7=(bk 1 24 4 [[(iV m.i),(iV 0),(V.ms 812 v 0 ((FK m k).length)),(V.ms 813 w 0 ((FK m k).length))]])∧H 10=(bz u 3 1 (List.map cI (tbl (kQ m k) j)))∧((H 72).ver=v72∧(H 72).live=false)∧H 812=(bz v 25 1 (List.map cL ((FK m k).map (lO m))))∧H 813=(bz w 25 1 (List.map cL ((FK m k).map (tOt m))))∧(j≤m.i.toNat)) ?_ ?_
  ·
   refine ⟨_,0,(v10+1),rfl,t2,t4,t6,t7,rfl,(eTq (rVq (V.ms 10 (v10+1) 0 0)) (by rfl)),t34,t35,t36,(eTq (rVq (aH (nth ((trR m).nx) k))) (by rfl)),(eTq (rNq ((nth ((trR m).nx) k).length)) (by rfl)),(eTq (rVq (iV 0)) rfl),h1,h2,h4,h7,(eTq (@rfl Blk (bz (v10+1) 3 1 [])) (by rfl)),h72,h812,h813,?_⟩
   · exact Nat.zero_le _
  intro mm T H ⟨j,u,hmm,t2,t4,t6,t7,t8,t10,t34,t35,t36,t50,t51,t52,h1,h2,h4,h7,h10,h72,h812,h813,hj⟩ Q9 p19 p29 p39
  unfold aMb
  refine W_r (bO t52 t51 (R_e ?_))
  refine aJ rfl (fun c10=>?_) fun c10=>?_
  ·
   obtain ⟨y1,y2,y3⟩:=g6 j (by omega)
   rw [← g2] at y1
   have e5:nth (clP (trR m)) (nth (nth (trR m).nx k) j).toNat=kQ m k j:=by rw [y1]; exact (p6 _ y3).1
   rw [← y1] at y2 y3
   refine aG (aE fun Q11 n11 x11 y11 z11=>(W_r (bY (i:=j) t50 t52 (by omega) rfl (aI rfl rfl (aA rfl (R_e (W_t ?_)))))))
   refine aA t10 (aA t6 (aA rfl (dX (i:=(nth (nth (trR m).nx k) j)) (rVq (aH (clP (trR m)))) (rVq (iV (nth (nth (trR m).nx k) j))) (by omega) (by omega) rfl (aI rfl rfl (cO rfl rfl (cH (l:=(tbl (kQ m k) j)) (f:=cI) (x:=(nth (clP (trR m)) (nth (nth (trR m).nx k) j).toNat)) (rVq (V.ms 10 u 0 j)) h10 (by exact (aU _ _).symm) (rVq (V.sl [[(iV (nth (clP (trR m)) (nth (nth (trR m).nx k) j).toNat))]])) rfl rfl (by omega) (by omega) (aA rfl ?_)))))))
   refine R_e (n11 _ _ (.done (W_t (bA t52 (rNq 1) (by omega) (aA rfl (R_e ?_))))))
   refine p19 _ _ _ ?_ ⟨(j+1),(u+1),rfl,t2,t4,t6,t7,t8,(eTq (rVq (V.ms 10 (u+1) 0 (j+1))) (by rfl)),t34,t35,t36,t50,t51,(eTq (rNq (j+1)) (by rfl)),h1,h2,h4,h7,(eTq (@rfl Blk (bz (u+1) 3 1 (List.map cI (tbl (kQ m k) j++[(nth (clP (trR m)) (nth (nth (trR m).nx k) j).toNat)])))) (by (rw [fW,e5]; first|done|rfl))),h72,h812,h813,?_⟩
   · omega
   · omega
  have ej:lO m k=tbl (kQ m k) j:=by unfold lO kQ; rw [show m.i.toNat=j by omega]
  refine aP (p39 _ _ _ (x8 _ _ (bF (R:=fun T H=>T 2=(mPq 2)∧T 4=(mPq 4)∧T 6=(aH (clP (trR m)))∧T 7=(mPq 7)∧T 8=(iV ((k:Nat):Int))∧T 10=(V.ms 10 u 0 j)∧T 34=(aH (clP (trR m)))∧T 35=(iV (((clP (trR m)).length:Nat):Int))∧T 36=(iV ((k:Nat):Int))∧T 50=(aH (nth (trR m).nx k))∧T 51=(iV (((nth (trR m).nx k).length:Nat):Int))∧T 52=(iV ((j:Nat):Int))∧T 53=(V.bool (decide (((j:Nat):Int) < (((nth (trR m).nx k).length:Nat):Int))))∧H 1=(bMq m)∧H 2=bNq∧H 4=(bk 1 24 4 [[(iV ((trR m).i)),(iV ((trR m).s)),(aD ((trR m).nx)),(aD ((trR m).ot))]])∧H 7=(bk 1 24 4 [[(iV m.i),(iV 0),(V.ms 812 v 0 ((FK m k).length)),(V.ms 813 w 0 ((FK m k).length))]])∧H 10=(bz u 3 1 (List.map cI (tbl (kQ m k) j)))∧((H 72).ver=v72∧(H 72).live=false)∧H 812=(bz v 25 1 (List.map cL ((FK m k).map (lO m))))∧H 813=(bz w 25 1 (List.map cL ((FK m k).map (tOt m))))∧True) ⟨t2,t4,t6,t7,t8,t10,t34,t35,t36,t50,t51,t52,(rVq (V.bool (decide (((j:Nat):Int) < (((nth (trR m).nx k).length:Nat):Int))))),h1,h2,h4,h7,h10,h72,h812,h813,trivial⟩ ?_)))
  intro T H ⟨t2,t4,t6,t7,t8,t10,t34,t35,t36,t50,t51,t52,t53,h1,h2,h4,h7,h10,h72,h812,h813,_⟩
  refine .freeze 10 (.done ?_)
  refine bF (R:=fun T H=>T 2=(mPq 2)∧T 4=(mPq 4)∧T 6=(aH (clP (trR m)))∧T 7=(mPq 7)∧T 8=(iV ((k:Nat):Int))∧T 10=(aH (tbl (kQ m k) j))∧T 34=(aH (clP (trR m)))∧T 35=(iV (((clP (trR m)).length:Nat):Int))∧T 36=(iV ((k:Nat):Int))∧T 50=(aH (nth (trR m).nx k))∧T 51=(iV (((nth (trR m).nx k).length:Nat):Int))∧T 52=(iV ((j:Nat):Int))∧T 53=(V.bool (decide (((j:Nat):Int) < (((nth (trR m).nx k).length:Nat):Int))))∧H 1=(bMq m)∧H 2=bNq∧H 4=(bk 1 24 4 [[(iV ((trR m).i)),(iV ((trR m).s)),(aD ((trR m).nx)),(aD ((trR m).ot))]])∧H 7=(bk 1 24 4 [[(iV m.i),(iV 0),(V.ms 812 v 0 ((FK m k).length)),(V.ms 813 w 0 ((FK m k).length))]])∧((H 10).ver=u∧(H 10).live=false)∧((H 72).ver=v72∧(H 72).live=false)∧H 812=(bz v 25 1 (List.map cL ((FK m k).map (lO m))))∧H 813=(bz w 25 1 (List.map cL ((FK m k).map (tOt m))))∧True) ⟨(aK t2 rfl),(aK t4 rfl),(aK t6 rfl),(aK t7 rfl),(aK t8 rfl),(aK t10 (kC h10 (by simp) (l:=(tbl (kQ m k) j)) rfl (by exact (aU _ _).symm))),(aK t34 rfl),(aK t35 rfl),(aK t36 rfl),(aK t50 rfl),(aK t51 rfl),(aK t52 rfl),(aK t53 rfl),(aL h1 (by decide)),(aL h2 (by decide)),(aL h4 (by decide)),(aL h7 (by decide)),(bN (cVq h10)),(eB h72),(aL h812 (by decide)),(aL h813 (by decide)),trivial⟩ ?_
  intro T H ⟨t2,t4,t6,t7,t8,t10,t34,t35,t36,t50,t51,t52,t53,h1,h2,h4,h7,h10,h72,h812,h813,_⟩
  refine W_r (bR t7 h7 (bD rfl h7 rfl rfl (aA t10 (cO rfl rfl (cH (l:=((FK m k).map (lO m))) (f:=cL) (x:=(tbl (kQ m k) j)) (rVq (V.ms 812 v 0 ((FK m k).length))) h812 (by simp) (rVq (V.sl [[(aH (tbl (kQ m k) j))]])) rfl rfl (by omega) (by omega) (bR t7 h7 (bJ (vs:=[(V.ms 812 (v+1) 0 (((FK m k).length)+1))]) (B':=(bk 1 24 4 [[(iV m.i),(iV 0),(V.ms 812 (v+1) 0 (((FK m k).length)+1)),(V.ms 813 w 0 ((FK m k).length))]])) rfl rfl rfl h7 (sB oB rfl rfl rfl rfl rfl) ?_)))))))
  refine R_e (aUC (bR t7 rfl (bD rfl rfl rfl rfl (fF (i:=72) (n:=v72) rfl h72.1 (bR t4 h4 (bD rfl h4 rfl rfl (aA t8 ?_)))))))
  refine bY (i:=k) (rVq (aD ((trR m).ot))) (rNq k) (by omega) rfl (aI rfl rfl (jG (l:=([])) (m:=(nth ((trR m).ot) k)) (f:=cI) (rVq (V.ms 72 (v72+1) 0 0)) (show _=(bz (v72+1) 3 1 (List.map cI ([]))) from (@rfl Blk (bz (v72+1) 3 1 []))) (by rfl) (rVq (aH (nth ((trR m).ot) k))) (fun _=>rfl) (fun _=>rfl) (by omega) (by omega) (cO rfl rfl (aF8 (l:=((FK m k).map (tOt m))) (f:=cL) (rVq (V.ms 813 w 0 ((FK m k).length))) h813 (by simp) (rVq (V.sl [[(V.ms 72 (v72+2) 0 (0+(nth ((trR m).ot) k).length))]])) (by simp [cK,V.one]) (by (simp; omega)) (by (simp; omega)) (bR t7 rfl (bJ (vs:=[(V.ms 813 (w+1) 0 (((FK m k).length)+1))]) (B':=(bk 1 24 4 [[(iV m.i),(iV 0),(V.ms 812 (v+1) 0 (((FK m k).length)+1)),(V.ms 813 (w+1) 0 (((FK m k).length)+1))]])) rfl rfl rfl rfl (sB oB rfl rfl rfl rfl rfl) (R_e ?_)))))))
  refine ⟨by simp [ddB,apV,jQ,aHX,t2,t34,t35,t36,t4,t6,t7,t8],?_⟩
  refine n6 _ _ (bF (R:=fun T H=>T 2=(mPq 2)∧T 4=(mPq 4)∧T 6=(aH (clP (trR m)))∧T 7=(mPq 7)∧T 34=(aH (clP (trR m)))∧T 35=(iV (((clP (trR m)).length:Nat):Int))∧T 36=(iV ((k:Nat):Int))∧H 1=(bMq m)∧H 2=bNq∧H 4=(bk 1 24 4 [[(iV ((trR m).i)),(iV ((trR m).s)),(aD ((trR m).nx)),(aD ((trR m).ot))]])∧H 7=(bk 1 24 4 [[(iV m.i),(iV 0),(V.ms 812 (v+1) 0 (((FK m k).length)+1)),(V.ms 813 (w+1) 0 (((FK m k).length)+1))]])∧((H 10).ver=u∧(H 10).live=false)∧H 72=(bz (v72+2) 3 1 (List.map cI ([]++(nth ((trR m).ot) k))))∧H 812=(bz (v+1) 25 1 (List.map cL ((FK m k).map (lO m)++[tbl (kQ m k) j])))∧H 813=(bz (w+1) 25 1 (List.map cL ((FK m k).map (tOt m))++[[(V.ms 72 (v72+2) 0 (0+(nth ((trR m).ot) k).length))]]))∧True) ⟨t2,t4,t6,t7,t34,t35,t36,h1,h2,h4,rfl,h10,rfl,rfl,rfl,trivial⟩ ?_)
  intro T H ⟨t2,t4,t6,t7,t34,t35,t36,h1,h2,h4,h7,h10,h72,h812,h813,_⟩
  refine aJd (id:=72) (id2:=813) (rows0:=List.map cL ((FK m k).map (tOt m))) (off:=0) (r:=[(V.ms 72 (v72+2) 0 (0+(nth ((trR m).ot) k).length))]) (m:=([]++(nth ((trR m).ot) k))) (g:=cI) (by decide) h72 h813 (by simp) rfl (.done ?_)
  refine bF (R:=fun T H=>T 2=(mPq 2)∧T 4=(mPq 4)∧T 6=(aH (clP (trR m)))∧T 7=(mPq 7)∧T 34=(aH (clP (trR m)))∧T 35=(iV (((clP (trR m)).length:Nat):Int))∧T 36=(iV ((k:Nat):Int))∧H 1=(bMq m)∧H 2=bNq∧H 4=(bk 1 24 4 [[(iV ((trR m).i)),(iV ((trR m).s)),(aD ((trR m).nx)),(aD ((trR m).ot))]])∧H 7=(bk 1 24 4 [[(iV m.i),(iV 0),(V.ms 812 (v+1) 0 (((FK m k).length)+1)),(V.ms 813 (w+1) 0 (((FK m k).length)+1))]])∧((H 10).ver=u∧(H 10).live=false)∧((H 72).ver=v72+2∧(H 72).live=false)∧H 812=(bz (v+1) 25 1 (List.map cL ((FK m k).map (lO m)++[tbl (kQ m k) j])))∧H 813=(bz (w+1) 25 1 (List.map cL ((FK m k).map (tOt m)++[[]++(nth ((trR m).ot) k)])))∧True) ⟨(aK t2 rfl),(aK t4 rfl),(aK t6 rfl),(aK t7 rfl),(aK t34 rfl),(aK t35 rfl),(aK t36 rfl),(uTq (aL h1 (by decide))),(uTq (aL h2 (by decide))),(uTq (aL h4 (by decide))),(uTq (aL h7 (by decide))),⟨(cVq (aQ _ _ (by decide))).trans (eB h10).1,(congrArg Blk.live (aQ _ _ (by decide))).trans (eB h10).2⟩,⟨(cVq (aQ _ _ (by decide))).trans (bN (cVq h72)).1,(congrArg Blk.live (aQ _ _ (by decide))).trans (bN (cVq h72)).2⟩,(uTq (aL h812 (by decide))),(eTq (aC _ _ _) (aKR rfl)),trivial⟩ ?_
  intro T H ⟨t2,t4,t6,t7,t34,t35,t36,h1,h2,h4,h7,h10,h72,h812,h813,_⟩
  refine W_t (bA t36 (rNq 1) (by omega) (aA rfl (R_e ?_)))
  refine p14 _ _ _ ?_ ⟨(k+1),(v+1),(w+1),u,(v72+2),rfl,t2,t4,t6,t7,t34,t35,(eTq (rNq (k+1)) (by rfl)),h1,h2,h4,(eTq h7 (by (rw [fs,List.length_append]; first|done|rfl))),h10,h72,(eTq h812 (by (rw [fs,List.map_append (f:=lO m),← ej]; first|done|rfl))),(eTq h813 (by (rw [fs,List.map_append (f:=tOt m),g3]; first|done|rfl))),?_⟩
  · omega
  · omega
 have ek:(rch m).length=k:=by omega
 refine aP (p34 _ _ _ (x3 _ _ (.done (W_r (bD t7 h7 rfl rfl (bJ (vs:=[(iV m.i),(iV 0),(V.ms 812 v 0 ((FK m k).length)),(V.ms 813 w 0 ((FK m k).length))]) (B':=(bk 1 24 4 [[(iV m.i),(iV 0),(V.ms 812 v 0 ((FK m k).length)),(V.ms 813 w 0 ((FK m k).length))]])) t2 rfl rfl h2 (sB oB rfl rfl rfl rfl rfl) (aA rfl ?_)))))))
 refine R_e (bH ?_)
 refine rO (lW (u:=(V.agg [(iV m.i),(iV 0),(V.ms 812 v 0 ((FK m k).length)),(V.ms 813 w 0 ((FK m k).length))])) t2 (@rfl Blk (bk 1 24 4 [[(iV m.i),(iV 0),(V.ms 812 v 0 ((FK m k).length)),(V.ms 813 w 0 ((FK m k).length))]])) (lB oB rfl rfl)) (rB (rVq (iV 0))) (qV (cY (aW ?_) (cY (aW ?_) (cY (kN h812 (by simp) (l:=((FK m k).map (lO m))) rfl (by simp) (fun _=>by simp) ?_) (cY (kN h813 (by simp) (l:=((FK m k).map (tOt m))) rfl (by simp) (fun _=>by simp) ?_) rfl))))) (aW ?_)
 · rw [mnR,if_pos hm]; unfold mnM; try first|rfl|(rw [ek]; done)|(rw [ek]; rfl)
 · rw [mnR,if_pos hm]; unfold mnM; try first|rfl|(rw [ek]; done)|(rw [ek]; rfl)
 · rw [mnR,if_pos hm]; unfold mnM; try first|rfl|(rw [ek]; done)|(rw [ek]; rfl)
 · rw [mnR,if_pos hm]; unfold mnM; try first|rfl|(rw [ek]; done)|(rw [ek]; rfl)
 · exact hm.symm
theorem aCG (l:List Int) (n:Int):aS Tryz.prog 116 [(aH l),(iV n)] (iV (fi (fun j=>decide (n=nth l j)) 0 l.length)):=by
 refine pW Tryz.func116 aD3 fun hB=>?_
 unfold aJu
 dsimp only
 refine W_r (aA rfl (R_e (aB (W_r (aA rfl (bI rfl (aA rfl ?_)))))))
 refine R_e (aE fun Q1 n1 x1 y1 z1=>?_)
 refine bP (fun mm T H=> ∃ (k:Nat),mm=l.length - k∧T 0=(aH l)∧T 1=(iV n)∧T 7=(iV ((l.length:Nat):Int))∧T 8=(iV ((k:Nat):Int))∧(k≤l.length)∧(fi (fun j=>decide (n=nth l j)) 0 l.length=fi (fun j=>decide (n=nth l j)) k (l.length - k))) ?_ ?_
 ·
  refine ⟨_,0,rfl,rfl,rfl,rfl,(eTq (rVq (iV 0)) rfl),?_,?_⟩
  · omega
  · rfl
 intro mm T H ⟨k,hmm,t0,t1,t7,t8,hk,hc⟩ Q2 p12 p22 p32
 unfold aGo
 refine W_r (bO t8 t7 (R_e ?_))
 refine aJ rfl (fun c3=>?_) fun c3=>?_
 ·
  refine aG (aE fun Q4 n4 x4 y4 z4=>(W_r (aA t8 (aA rfl (R_e (W_r (aA t1 ?_)))))))
  refine aA t0 (aA rfl (bY (i:=k) (rVq (aH l)) (rNq k) (by omega) rfl (aI rfl rfl (gT rfl rfl (R_e ?_)))))
  refine kI rfl (fun c5=>?_) fun c5=>?_
  ·
   have d1:=c5
   refine W_r (aA rfl (aA rfl (R_e (bH (y4 _ _ (p22 _ _ (y1 _ _ ?_)))))))
   refine bS (rNq k) (aW ?_)
   · rw [hc,aDg (p:=fun j=>decide (n=nth l j)) (decide_eq_true d1) (by omega)]
  have d1:=c5
  refine fK (n4 _ _ (.done (W_t (bA t8 (rNq 1) (by omega) (aA rfl (R_e ?_))))))
  refine p12 _ _ _ ?_ ⟨(k+1),rfl,t0,t1,t7,(eTq (rNq (k+1)) (by rfl)),?_,?_⟩
  · omega
  · omega
  · rw [hc,aAi (p:=fun j=>decide (n=nth l j)) (decide_eq_false d1) (by omega)]
 refine aP (p32 _ _ _ (x1 _ _ (.done (W_r (aA rfl (R_e (bH ?_)))))))
 refine bS (rVq (iV (-1))) (aW ?_)
 · rw [hc,aCP (by omega)]
theorem vI (l:List Int) (n:Int):aS Tryz.prog 69 [(aH l),(iV n)] (V.bool (decide (n∈l))):=by
 refine pW Tryz.func69 aIq fun hB=>?_
 unfold s69
 dsimp only
 refine W_r (aA rfl (R_e (W_r (aA rfl (aA rfl (aX (aCG l n) rfl (mM rfl rfl ?_)))))))
 refine aA rfl (R_e (bH ?_))
 refine bS (rVq (V.bool (decide ((0:Int)≤(fi (fun j=>decide (n=nth l j)) 0 l.length))))) (eM ?_)
 · exact decide_eq_decide.2 aJq
theorem aDw (m:M) (ins:List Int) (s:Int) (j:Nat) (hm:aV m=0) (hv:rsV m ins) (hs:0≤s∧s < m.nx.length) (hj:j < ins.length):aS Tryz.prog 71 [(V.agg [(iV s),(iV 0)]),(iV ((j:Nat):Int)),(V.pp [(iV m.i),(iV m.s),(aD m.nx),(aD m.ot)]),(V.pp [(aH ins)])] (V.agg [(iV (rsN m ins s.toNat j)),(iV 0),(iV (rsO m ins s.toNat j))]):=by
 refine pW Tryz.func71 aIG fun hB=>?_
 unfold s71
 dsimp only
 have mo:=bK hm
 have rr:=mo.2.2.2.2.2.2.2 s.toNat (by omega)
 have rj:=hv.2.2 j hj
 have rc:=rr.2.2 (nth ins j).toNat (by omega)
 refine W_r (eU (i:=4) (n:=0) (m:=2) (cs:=[(iV s),(iV 0)]) rfl (cVq rfl) rfl rfl rfl (eR (i:=6) (n:=0) (m:=3) rfl (cVq rfl) rfl (R_e (W_r (vV (cs':=[(aD m.nx),(aD m.ot)]) rfl rfl (aI rfl rfl (bR rfl rfl ?_)))))))
 refine bD rfl rfl rfl rfl (dX (i:=s) (rVq (aD m.nx)) (rVq (iV s)) (by omega) (by omega) rfl (aI rfl rfl (aI rfl rfl (aA rfl (bY (i:=j) (rVq (aH ins)) (rNq j) (by omega) rfl (aI rfl rfl (dX (i:=(nth ins j)) (rVq (aH (nth m.nx s.toNat))) (rVq (iV (nth ins j))) (by omega) (by omega) rfl ?_)))))))
 refine aI rfl rfl (fY rfl rfl (vV (cs':=[(aD m.ot)]) rfl rfl (aI rfl rfl (bR rfl rfl (bD rfl rfl rfl rfl (dX (i:=s) (rVq (aD m.ot)) (rVq (iV s)) (by omega) (by omega) rfl (aI rfl rfl ?_)))))))
 refine aI rfl rfl (aA rfl (bY (i:=j) (rVq (aH ins)) (rNq j) (by omega) rfl (aI rfl rfl (dX (i:=(nth ins j)) (rVq (aH (nth m.ot s.toNat))) (rVq (iV (nth ins j))) (by omega) (by omega) rfl (aI rfl rfl (fY rfl rfl (aOp rfl rfl rfl rfl rfl rfl rfl rfl rfl ?_)))))))
 refine R_e (bH ?_)
 refine aHQ (lW (u:=(V.agg [(iV (nth (nth m.nx s.toNat) (nth ins j).toNat)),(iV 0),(iV (nth (nth m.ot s.toNat) (nth ins j).toNat))])) rfl (@rfl Blk (bk 1 139 3 [[(iV (nth (nth m.nx s.toNat) (nth ins j).toNat)),(iV 0),(iV (nth (nth m.ot s.toNat) (nth ins j).toNat))]])) (lB oB rfl rfl)) (aI1 (aW ?_) (eD (by simp) rfl) (aW ?_))
 · first|rfl|skip
 · first|rfl|skip
end Go.Proofs.YtmnnhjhkaepbaaaGreat
