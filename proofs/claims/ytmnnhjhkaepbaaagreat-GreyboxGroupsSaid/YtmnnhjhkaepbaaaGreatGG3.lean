/- Contracts of the functions that the law GG reaches, and the law itself, for every input; no condition. -/
import Derived.Test.YtmnnhjhkaepbaaaGreatProg
import Derived.KernelRfl
import Derived.Shelf.Spec.SlicesGrow
import Derived.Test.YtmnnhjhkaepbaaaGreatGG2
set_option linter.unusedSimpArgs false
set_option linter.unusedVariables false
namespace Go.Proofs.YtmnnhjhkaepbaaaGreat
open Go Go.Proofs Go.Shelf Go.Lib
theorem iH {cc:Array Value} {o:Nat} {cs:List Value} (h:o+cs.length≤cc.size) (q:Nat):(put cc o cs)[q]?=if o≤q∧q < o+cs.length then cs[q - o]? else cc[q]?:=by
  unfold put
  rw [nO h]
theorem kY {cc:Array Value} {o:Nat} {cs:List Value} (h:o+cs.length≤cc.size):(put cc o cs).size=cc.size:=by
  simp only [put,List.size_toArray,List.length_append,List.length_take,List.length_drop,Array.length_toList]
  omega
theorem aCu {x : Cx} {rows : List (List V)} {row : List V} {k i : Nat} {cc cv F : Array Value} (hsz : ∀ r ∈ rows, r.length = k) (hsz1 : row.length = k) (hi : i ≤ rows.length)
    (hr: ∀ (r:Nat) (row:List V) (j:Nat) (v:V),rows[r]?=some row→row[j]?=some v→R x v (cc.getD (r*k+j) undef))
    (hv: ∀ (j:Nat) (v:V),row[j]?=some v→R x v (cv.getD j undef))
    (ha: ∀ q,q < i*k→F[q]?=cc[q]?) (hb: ∀ q,q < k→F[i*k+q]?=cv[q]?) (hc: ∀ q,q < (rows.length - i)*k→F[(i+1)*k+q]?=cc[i*k+q]?):
    ∀ (r:Nat) (row':List V) (j:Nat) (v:V),(rows.take i++row::rows.drop i)[r]?=some row'→row'[j]?=some v→R x v (F.getD (r*k+j) undef):=by
  intro r row' j v h1 h2
  have hlt:(rows.take i).length=i:=by rw [List.length_take]; omega
  rw [List.getElem?_append] at h1
  split at h1
  · rename_i hlt'
    rw [hlt] at hlt'
    rw [List.getElem?_take,if_pos hlt'] at h1
    have hjk:j < k:=by rw [← hsz _ (List.mem_of_getElem? h1)]; exact (List.getElem?_eq_some_iff.1 h2).1
    have:r*k+j < i*k:=by
      have:(r+1)*k≤i*k:=Nat.mul_le_mul_right k hlt'
      rw [Nat.add_mul,Nat.one_mul] at this; omega
    rw [Array.getD_eq_getD_getElem?,ha _ this,← Array.getD_eq_getD_getElem?]
    exact hr r row' j v h1 h2
  · rename_i hge
    rw [hlt] at h1 hge
    by_cases he:r=i
    · subst he
      rw [Nat.sub_self] at h1
      simp only [List.getElem?_cons_zero,Option.some.injEq] at h1
      subst h1
      have hjk:j < k:=by rw [← hsz1]; exact (List.getElem?_eq_some_iff.1 h2).1
      rw [Array.getD_eq_getD_getElem?,hb _ hjk,← Array.getD_eq_getD_getElem?]
      exact hv j v h2
    · obtain ⟨q,hq⟩: ∃ q,r - i=q+1:=⟨r - i - 1,by omega⟩
      rw [hq,List.getElem?_cons_succ,List.getElem?_drop] at h1
      have hjk:j < k:=by rw [← hsz _ (List.mem_of_getElem? h1)]; exact (List.getElem?_eq_some_iff.1 h2).1
      have hql:=(List.getElem?_eq_some_iff.1 h1).1
      have hlt2:q*k+j < (rows.length - i)*k:=by
        have:(q+1)*k≤(rows.length - i)*k:=Nat.mul_le_mul_right k (by omega)
        rw [Nat.add_mul,Nat.one_mul] at this; omega
      have e1:r*k+j=(i+1)*k+(q*k+j):=by rw [← Nat.add_assoc,← Nat.add_mul]; congr 2; omega
      have e2:i*k+(q*k+j)=(i+q)*k+j:=by rw [Nat.add_mul]; omega
      rw [e1,Array.getD_eq_getD_getElem?,hc _ hlt2,← Array.getD_eq_getD_getElem?,e2]
      exact hr _ row' j v h1 h2
section
variable {P:Program} {ρ:Ren} {n1:String} {k bytes:Nat} {z:Value}
theorem aIn (L:InsLay P ρ n1 k bytes z) {zz:List V} (hzz:eH P (ρ.t 9)=some zz) (hzl:zz.length=k) {x:Cx} (hx:Inv x) {id id2 ver ver2 ty2 i:Nat} {rows:List (List V)} {row:List V} {c0 c2:Value}
    {lz:Bool} (hlz:(lz&&rows.isEmpty)=false) (hH:x.H id=⟨ver,true,lz,ρ.t 9,k,rows⟩) (hH2:x.H id2=⟨ver2,true,false,ty2,k,[row]⟩) (hne:id≠id2) (hi:i≤rows.length)
    (hf:cY k rows=true) (hf1:cY k [row]=true) (hb:(rows.length+1)*bytes≤140737488355328) (hm:rows.length+1≤9223372036854775807)
    (r0:R x (.ms id ver 0 rows.length) c0) (r2:R x (.ms id2 ver2 0 1) c2):
    Calls P (ρ.f 22) #[c0,.int .i64 i,c2] x.w fun e w'=> ∃ c y,e=.returned c∧y.w=w'∧y.H=upd x.H id ⟨ver+1,true,lz,ρ.t 9,k,rows.take i++row::rows.drop i⟩∧Inv y∧R y (.ms id (ver+1) 0 (rows.length+1)) c∧Frame x y:=by
  have hk:=L.hk
  have ho:(x.H id).own=true:=by rw [hH]; simp only [Blk.own,hlz]; rfl
  have ho2:(x.H id2).own=true:=by rw [hH2]; rfl
  obtain ⟨hsz,hone⟩:=eO hf
  obtain ⟨hsz1,hone1⟩:=eO hf1
  have r0':=r0; have r2':=r2
  cases r0 with
  |ms _ _ _ _ b n cap hv hh hm0=>
  cases r2 with
  |ms _ _ _ _ b2 m2 cap2 hv2 hh2 hm2=>
  obtain ⟨e1,e2,e3,e4,e5,e6⟩:=hh (by rw [hH]) (by rw [hH])
  obtain ⟨d1,d2,d3,d4,d5,d6⟩:=hh2 (by rw [hH2]) (by rw [hH2])
  obtain ⟨e7,e8⟩:=e5 ho
  obtain ⟨d7,d8⟩:=d5 ho2
  have hmI:(lz&&decide (4294967296≤ρ.t 9))=false:=by
    have:=hm0 (by rw [hH]) (by rw [hH])
    rw [hH] at this; exact this
  obtain ⟨cc,b1,bb2,bb3,bb4⟩:=hx.cel id ho (hm0 (by rw [hH]) (by rw [hH]))
  obtain ⟨cv,v1,vv2,vv3,vv4⟩:=hx.cel id2 ho2 (hm2 (by rw [hH2]) (by rw [hH2]))
  have hrs:cF x.w (x.σ id)=cc.size:=by unfold cF; rw [b1]
  have hrs2:cF x.w (x.σ id2)=cv.size:=by unfold cF; rw [v1]
  rw [hrs,hH] at e8
  rw [hrs2,hH2] at d8
  rw [hH] at e7 b1 bb3 bb4
  rw [hH2] at d7 v1 vv3 vv4
  simp only [Nat.zero_mul,Nat.zero_add] at e7 d7 e8 d8
  simp only at b1 bb3 bb4 v1 vv3 vv4
  subst e1; subst d1; subst e7; subst d7
  have hvb:x.σ id2≠x.σ id:=fun e=>hne (hx.inj id id2 ho ho2 e.symm)
  have hcv:k≤cv.size:=by simpa using vv3
  have hsz1':row.length=k:=hsz1 row (by simp)
  have hrow: ∀ (j:Nat) (v:V),row[j]?=some v→R x v (cv.getD j undef):=fun j v hj=>by
    have:=vv4 0 row j v rfl hj
    simpa using this
  have h1c: ∀ v∈cc.toList.take (rows.length*k),v.oneCell'=true:=fun v hv=>by
    obtain ⟨q,hq⟩:=List.getElem?_of_mem hv
    rw [List.getElem?_take] at hq
    split at hq
    · rename_i hlt
      obtain ⟨rw',u,h5,h6,h7⟩:=qU hsz hlt
      have h8:=bb4 _ _ _ _ h5 h6
      rw [h7,Array.getD_eq_getD_getElem?,← Array.getElem?_toList,hq] at h8
      exact h8.one (hone _ (List.mem_of_getElem? h5) _ (List.mem_of_getElem? h6))
    · cases hq
  obtain ⟨vs,hvs⟩: ∃ vs,vs=cv.toList.take k:=⟨_,rfl⟩
  have hvl:vs.length=k:=by rw [hvs,List.length_take,Array.length_toList]; omega
  have hvg: ∀ q,q < k→vs[q]?=cv[q]?:=fun q hq=>by rw [hvs,List.getElem?_take,if_pos hq,Array.getElem?_toList]
  have h1v: ∀ v∈vs,v.oneCell'=true:=fun v hv=>by
    obtain ⟨q,hq⟩:=List.getElem?_of_mem hv
    have hlt:q < k:=by rw [← hvl]; exact (List.getElem?_eq_some_iff.1 hq).1
    have hu: ∃ u,row[q]?=some u:=⟨_,List.getElem?_eq_getElem (by rw [hsz1']; exact hlt)⟩
    obtain ⟨u,hu⟩:=hu
    have h8:=hrow q u hu
    rw [Array.getD_eq_getD_getElem?,← hvg q hlt,hq] at h8
    exact h8.one (hone1 row (by simp) u (List.mem_of_getElem? hu))
  obtain ⟨n,hn⟩: ∃ n,n=rows.length:=⟨_,rfl⟩
  have hnew: ∀ r∈rows.take i++row::rows.drop i,r.length=k:=fun r hr=>by
    rcases List.mem_append.1 hr with hr|hr
    · exact hsz r (List.mem_of_mem_take hr)
    · rcases List.mem_cons.1 hr with hr|hr
      · rw [hr]; exact hsz1'
      · exact hsz r (List.mem_of_mem_drop hr)
  have hnewl:(rows.take i++row::rows.drop i).length=rows.length+1:=by simp; omega
  by_cases hend:i=rows.length
  · obtain ⟨i0,hi0,hz0,hzs,hzb⟩:=info_parts L.i9
    obtain ⟨y,c,hr,y1,y2,y3,y4⟩:=xQ (P:=P) (esz:=k) (bytes:=bytes) (new:=[row]) hx L.t24 hi0 hzz hzs hzb hzl (by omega) (i:=id) (ver:=ver) (len:=rows.length) (u:=.ms id2 ver2 0 1) (by rw [hH]) (by rw [hH]) (by rw [hH]) (by rw [hH]) (by rw [hH])
      (by simp [jP,hH2]) hf1 hb hm r0' r2' 0
    rw [hend]
    refine (aJk L (x.σ id) rows.length cap (x.σ id2) cap2 x.w y.w c e2 fun ty=>hr).mono fun e w' h=>?_
    obtain ⟨rfl,rfl⟩:=h
    refine ⟨c,y,rfl,rfl,?_,y2,y4,y3⟩
    rw [y1,hH]
    simp
  have hlt:i < rows.length:=by omega
  have hnk:rows.length*k≤cc.size:=by rw [← e8]; exact Nat.mul_le_mul_right k e2
  have hik:i*k≤rows.length*k:=Nat.mul_le_mul_right k hi
  obtain ⟨ds,hds⟩: ∃ ds,ds=(cc.toList.take (rows.length*k)).drop (i*k):=⟨_,rfl⟩
  have hdl:ds.length=(rows.length - i)*k:=by rw [hds,List.length_drop,List.length_take,Array.length_toList (xs:=cc),Nat.min_eq_left hnk,Nat.sub_mul]
  have hdg: ∀ q,q < (rows.length - i)*k→ds[q]?=cc[i*k+q]?:=fun q hq=>by
    rw [hds,List.getElem?_drop,List.getElem?_take,if_pos (by rw [Nat.sub_mul] at hq; omega),Array.getElem?_toList]
  have e9:(i+1)*k+(rows.length - i)*k=(rows.length+1)*k:=by rw [← Nat.add_mul]; congr 1; omega
  have e10:(i+1)*k=i*k+k:=by rw [Nat.add_mul,Nat.one_mul]
  by_cases hroom:rows.length+1≤cap
  · have hn1k:(rows.length+1)*k≤cc.size:=by rw [← e8]; exact Nat.mul_le_mul_right k hroom
    refine (aF4 L (x.σ id) rows.length cap i (x.σ id2) cap2 cc cv _ _ x.w hlt hroom (by unfold maxLen at e3; omega) hvb b1 v1 e8 hcv vs hvs h1c h1v).mono fun e w' h=>?_
    obtain ⟨rfl,rfl⟩:=h
    rw [← hds]
    have hs1:(put cc ((i+1)*k) ds).size=cc.size:=kY (by rw [hdl,e9]; exact hn1k)
    have hfit2:i*k+vs.length≤(put cc ((i+1)*k) ds).size:=by rw [hs1,hvl]; omega
    obtain ⟨dI,dF⟩:=fM hx (x.w.drawn+1) (Nat.le_succ _)
    obtain ⟨hI,hF⟩:=gX dI id ho cc (put (put cc ((i+1)*k) ds) (i*k) vs) (by rw [hH]; exact b1) (by rw [kY hfit2,hs1]) (ver+1) (rows.take i++row::rows.drop i) (by simp only [hH]; omega) (by simp only [hH]; omega) (by simp only [hH]; simp)
      (by simp only [hH]; exact hnew) (by simp only [hH]; rw [hnewl]; exact hn1k) (by
        simp only [hH]
        refine aCu hsz hsz1' hi (fun r row j v h5 h6=>(bb4 r row j v h5 h6).frame hx dF) (fun j v h5=>(hrow j v h5).frame hx dF) (fun q hq=>?_) (fun q hq=>?_) (fun q hq=>?_)
        · rw [iH hfit2,if_neg (by omega),iH (by rw [hdl,e9]; exact hn1k),if_neg (by omega)]
        · rw [iH hfit2,if_pos (by omega),Nat.add_sub_cancel_left]; exact hvg q hq
        · rw [iH hfit2,if_neg (by omega),iH (by rw [hdl,e9]; exact hn1k),if_pos (by rw [hdl]; omega),Nat.add_sub_cancel_left]; exact hdg q hq)
    refine ⟨_,_,rfl,?_,?_,hI,?_,dF.trans hF⟩
    · rfl
    · simp only [hH]
    · refine .ms _ _ _ _ _ _ _ (by simp [aH]) (fun _ _=>?_) fun _ _=>by simp only [aH,hH]; exact hmI
      simp only [aH,hH]
      refine ⟨trivial,hroom,e3,by rw [hnewl]; omega,fun _=>⟨by simp,?_⟩,fun h=>by simp [Blk.own] at h⟩
      have:cF (({x.w with drawn:=x.w.drawn+1}:World).setRow (x.σ id) (put (put cc ((i+1)*k) ds) (i*k) vs)) (x.σ id)=cc.size:=by
        have q:=setRow_heap ({x.w with drawn:=x.w.drawn+1}:World) (x.σ id) cc (put (put cc ((i+1)*k) ds) (i*k) vs) _ _ b1
        unfold cF
        rw [q]
        show (put (put cc ((i+1)*k) ds) (i*k) vs).size=cc.size
        rw [kY hfit2,hs1]
      rw [this,Nat.zero_add]; exact e8
  · refine (aGQ L (x.σ id) rows.length cap i (x.σ id2) cap2 cc cv _ _ x.w hlt e2 (by omega) (by omega) hb b1 v1 e8 hcv vs hvs h1c h1v).mono fun e w' h=>?_
    obtain ⟨G,Rw,g1,g2,g3,rfl,rfl,g4⟩:=h
    rw [← hds]
    have hGk:(rows.length+1)*k≤Rw.size:=by rw [g1]; exact Nat.mul_le_mul_right k g2
    have hfit1:i*k+vs.length≤Rw.size:=by rw [hvl]; omega
    have hs1:(put Rw (i*k) vs).size=Rw.size:=kY hfit1
    have hfit2:(i+1)*k+ds.length≤(put Rw (i*k) vs).size:=by rw [hs1,hdl,e9]; exact hGk
    obtain ⟨dI,dF⟩:=fM hx (x.w.drawn+2) (by omega)
    obtain ⟨hI,hF⟩:=iU dI id (put (put Rw (i*k) vs) ((i+1)*k) ds) lz (ρ.t 9) k (rows.take i++row::rows.drop i) hnew (by rw [hnewl,kY hfit2,hs1]; exact hGk) (by
        refine aCu hsz hsz1' hi (fun r row j v h5 h6=>(bb4 r row j v h5 h6).frame hx dF) (fun j v h5=>(hrow j v h5).frame hx dF) (fun q hq=>?_) (fun q hq=>?_) (fun q hq=>?_)
        · rw [iH hfit2,if_neg (by omega),iH hfit1,if_neg (by omega)]
          have:=congrArg (fun l=>l[q]?) g4
          simp only [List.getElem?_take,if_pos hq,Array.getElem?_toList] at this
          exact this
        · rw [iH hfit2,if_neg (by omega),iH hfit1,if_pos (by omega),Nat.add_sub_cancel_left]; exact hvg q hq
        · rw [iH hfit2,if_pos (by rw [hdl]; omega),Nat.add_sub_cancel_left]; exact hdg q hq) hmI
    refine ⟨_,_,rfl,?_,?_,hI,?_,dF.trans hF⟩
    · rfl
    · simp only [hH]
    · refine .ms _ _ _ _ _ _ _ (by simp [aH,hH]) (fun _ _=>?_) fun _ _=>by simp only [aH]; exact hmI
      simp only [aH,hH]
      refine ⟨trivial,g2,g3,by rw [hnewl]; omega,fun _=>⟨by simp,?_⟩,fun h=>by simp [Blk.own] at h⟩
      rw [gK,kY hfit2,hs1,g1,Nat.zero_add]
theorem oI (L:InsLay P ρ n1 k bytes z) (hcf:cU P (ρ.f 22)) {zz:List V} (hzz:eH P (ρ.t 9)=some zz) (hzl:zz.length=k) {id id2 ver ver2 ty2 i n:Nat} {rows:List (List V)} {row:List V} {H:aI}
    {lz:Bool} (hlz:(lz&&(rows.take n).isEmpty)=false) (hH:H id=⟨ver,true,lz,ρ.t 9,k,rows⟩) (hH2:H id2=⟨ver2,true,false,ty2,k,[row]⟩) (hne:id≠id2) (hn:n≤rows.length) (hi:i≤n)
    (hf:cY k (rows.take n)=true) (hf1:cY k [row]=true) (hb:(n+1)*bytes≤140737488355328) (hm:n+1≤9223372036854775807):
    dL P (ρ.f 22) [.ms id ver 0 n,iV i,.ms id2 ver2 0 1] H (.ms id (ver+2) 0 (n+1)) (upd H id ⟨ver+2,true,lz,ρ.t 9,k,(rows.take n).take i++row::(rows.take n).drop i⟩):=by
  refine ⟨hcf,fun x cs hxH hx hr=>?_⟩
  subst hxH
  obtain ⟨c0,c1,c2,rfl⟩: ∃ c0 c1 c2,cs=[c0,c1,c2]:=by
    have:=hr.1
    match cs with
    |[a,b,c]=>exact ⟨a,b,c,rfl⟩
    |[]=>simp at this
    |[_]=>simp at this
    |[_,_]=>simp at this
    |_::_::_::_::_=>simp at this
  have r0:R x (.ms id ver 0 n) c0:=hr.2 0 _ rfl
  have r1:R x (iV i) c1:=hr.2 1 _ rfl
  have r2:R x (.ms id2 ver2 0 1) c2:=hr.2 2 _ rfl
  have hc1:c1=.int .i64 i:=by
    unfold iV at r1
    cases r1; rfl
  subst hc1
  have hlz2:(lz&&rows.isEmpty)=false:=by
    cases lz with
    |false=>rfl
    | true =>
      cases rows with
      |nil=>simp at hlz
      |cons a l=>rfl
  have ho:(x.H id).own=true:=by rw [hH]; simp only [Blk.own,hlz2]; rfl
  have hM:(x.H id).isM=false:=by
    cases r0 with
    |ms _ _ _ _ b m cap hv hh hm=>exact hm (by rw [hH]) (by rw [hH])
  obtain ⟨cc,b1,bb2,bb3,bb4⟩:=hx.cel id ho hM
  have hlen:(rows.take n).length=n:=by rw [List.length_take]; omega
  obtain ⟨hI,hF⟩:=gX hx id ho cc cc b1 rfl (ver+1) (rows.take n) (by rw [hH]; exact Nat.le_succ _) (by rw [hH]; simp) (by rw [hH]; exact hlz) (fun r h=>bb2 r (by rw [hH]; exact List.mem_of_mem_take h))
    (by rw [hlen]; refine Nat.le_trans (Nat.mul_le_mul_right _ ?_) bb3; rw [hH]; exact hn) (fun r row j v h1 h2=>by
      rw [List.getElem?_take] at h1
      split at h1
      · exact bb4 r row j v (by rw [hH]; exact h1) h2
      · cases h1)
  have hw:x.w.setRow (x.σ id) cc=x.w:=setRow_self x.w _ cc _ _ b1
  rw [hw] at hI hF
  have q0:R {x with H:=upd x.H id ⟨ver+1,true,(x.H id).lz,(x.H id).ty,(x.H id).sz,rows.take n⟩} (.ms id (ver+1) 0 (rows.take n).length) c0:=by
    cases r0 with
    |ms _ _ _ _ b m cap hv hh hm=>
    obtain ⟨e1,e2,e3,e4,e5,e6⟩:=hh (by rw [hH]) (by rw [hH])
    obtain ⟨e7,e8⟩:=e5 ho
    refine .ms _ _ _ _ _ _ _ (by simp [aH]) (fun _ _=>?_) fun _ _=>by simp only [aH]; exact hM
    simp only [aH,hlen]
    exact ⟨e1,e2,e3,by omega,fun _=>⟨e7,e8⟩,fun h=>by rw [hH] at h; simp only [Blk.own,hlz] at h; cases h⟩
  have h:=aIn L hzz hzl hI (id:=id) (id2:=id2) (ver:=ver+1) (ver2:=ver2) (ty2:=ty2) (i:=i) (rows:=rows.take n) (row:=row) hlz (by simp [aH,hH]) (by simp only [aQ _ _ (Ne.symm hne)]; exact hH2) hne (by rw [hlen]; exact hi) hf hf1 (by rw [hlen]; exact hb) (by rw [hlen]; exact hm) q0 (r2.frame hx hF)
  refine h.mono fun e w' h=>?_
  obtain ⟨c,y,rfl,h1,h2,h3,h4,h5⟩:=h
  refine ⟨c,y,rfl,h1,?_,h3,?_,hF.trans h5⟩
  · rw [h2]
    funext j
    by_cases e:j=id
    · subst e; simp only [aH]
    · simp only [aQ _ _ e]
  · rw [hlen] at h4; exact h4
theorem vC (L:InsLay P ρ n1 k bytes z) (hcf:cU P (ρ.f 22)) {zz:List V} (hzz:eH P (ρ.t 9)=some zz) (hzl:zz.length=k) {id id2 ver ver2 ty2:Nat} {row:List V} {H:aI}
    (hH:H id=⟨ver,true,true,ρ.t 9,k,[]⟩) (hH2:H id2=⟨ver2,true,false,ty2,k,[row]⟩) (hf1:cY k [row]=true) (hb:bytes≤140737488355328):
    dL P (ρ.f 22) [.ms id ver 0 0,iV 0,.ms id2 ver2 0 1] H (.ms id (ver+2) 0 1) (upd H id ⟨ver+2,true,true,ρ.t 9,k,[row]⟩):=by
  refine ⟨hcf,fun x cs hxH hx hr=>?_⟩
  subst hxH
  obtain ⟨c0,c1,c2,rfl⟩: ∃ c0 c1 c2,cs=[c0,c1,c2]:=by
    have:=hr.1
    match cs with
    |[a,b,c]=>exact ⟨a,b,c,rfl⟩
    |[]=>simp at this
    |[_]=>simp at this
    |[_,_]=>simp at this
    |_::_::_::_::_=>simp at this
  have r0:R x (.ms id ver 0 0) c0:=hr.2 0 _ rfl
  have r1:R x (iV 0) c1:=hr.2 1 _ rfl
  have r2:R x (.ms id2 ver2 0 1) c2:=hr.2 2 _ rfl
  have hc1:c1=.int .i64 0:=by
    unfold iV at r1
    cases r1; rfl
  subst hc1
  have hk:=L.hk
  have ho2:(x.H id2).own=true:=by rw [hH2]; rfl
  obtain ⟨i0,hi0,hz0,hzs,hzb⟩:=info_parts L.i9
  obtain ⟨y,c,hrun,y1,y2,y3,y4⟩:=xQ (P:=P) (esz:=k) (bytes:=bytes) (new:=[row]) hx L.t24 hi0 hzz hzs hzb hzl (by omega) (i:=id) (ver:=ver) (len:=0) (u:=.ms id2 ver2 0 1) (by rw [hH]) (by rw [hH]) (by rw [hH]; rfl) (by rw [hH]) (by rw [hH])
      (by simp [jP,hH2]) hf1 (by simpa using hb) (by simp) r0 r2 0
  have hcall:Calls P (ρ.f 22) #[c0,.int .i64 0,c2] x.w fun e w'=>e=.returned c∧w'=y.w:=by
    cases r2 with
    |ms _ _ _ _ b2 m2 cap2 hv2 hh2 hm2=>
    obtain ⟨d1,d2,d3,d4,d5,d6⟩:=hh2 (by rw [hH2]) (by rw [hH2])
    obtain ⟨d7,d8⟩:=d5 ho2
    subst d1; subst d7
    simp only [Nat.zero_mul] at hrun ⊢
    cases r0 with
    | ms _ _ _ _ b n cap hv hh hm =>
      obtain ⟨e1,e2,e3,e4,e5,e6⟩:=hh (by rw [hH]) (by rw [hH])
      have hcap:=e6 (by rw [hH]; rfl)
      subst e1; subst hcap
      cases b with
      |none=>exact aIz L (x.σ id2) cap2 x.w y.w c (fun _=>hrun)
      |some a=>exact aGt L a (x.σ id2) cap2 x.w y.w c (fun _=>hrun)
  refine hcall.mono fun e w' h=>?_
  obtain ⟨rfl,rfl⟩:=h
  have hyi:y.H id=⟨ver+1,true,true,ρ.t 9,k,[row]⟩:=by rw [y1,hH]; simp [aH]
  have hfin:tM y.H (upd y.H id ⟨ver+2,true,true,ρ.t 9,k,[row]⟩):=fun j=>by
    by_cases e:j=id
    · subst e; rw [aH,hyi]; exact jG.up (by omega) rfl
    · rw [aQ _ _ e]; exact .refl _
  obtain ⟨f1,f2⟩:=qD y2 hfin
  have f3:=dK.ms hfin (id:=id) (ver:=ver+1) (n:=ver+2) (off:=0) (len:=0+[row].length) (by rw [hyi]) (by rw [hyi]) (by simp) (by simp)
  refine ⟨c,xT y _,rfl,rfl,?_,f1,f3 y c rfl y2 y4,y3.trans f2⟩
  show upd y.H id _=_
  rw [y1]
  funext j
  by_cases e:j=id
  · subst e; simp only [aH]
  · simp only [aQ _ _ e]
theorem xJ (L : InsLay P ρ n1 k bytes z) (hcf : cU P (ρ.f 22)) {zz : List V} (hzz : eH P (ρ.t 9) = some zz) (hzl : zz.length = k) {id id2 ver ver2 ty2 i n : Nat} {rows : List (List V)} {row : List V} {H : aI}
    {lz:Bool} (hn:n=rows.length) (hH:H id=⟨ver,true,lz,ρ.t 9,k,rows⟩) (hH2:H id2=⟨ver2,true,false,ty2,k,[row]⟩) (hne:id≠id2) (hi:i≤n)
    (hf:cY k rows=true) (hf1:cY k [row]=true) (hb:(n+1)*bytes≤140737488355328) (hm:n+1≤9223372036854775807):
    dL P (ρ.f 22) [.ms id ver 0 n,iV i,.ms id2 ver2 0 1] H (.ms id (ver+2) 0 (n+1)) (upd H id ⟨ver+2,true,lz,ρ.t 9,k,rows.take i++row::rows.drop i⟩):=by
  subst hn
  by_cases h0:(lz&&rows.isEmpty)=false
  · have:=oI L hcf hzz hzl (i:=i) (by rw [List.take_length]; exact h0) hH hH2 hne (Nat.le_refl _) hi (by rw [List.take_length]; exact hf) hf1 hb hm
    rw [List.take_length] at this
    exact this
  · cases lz with
    |false=>exact (h0 rfl).elim
    | true =>
      cases rows with
      |cons a l=>exact (h0 rfl).elim
      | nil =>
        have hi0:i=0:=by simpa using hi
        subst hi0
        exact vC L hcf hzz hzl hH hH2 hf1 (by simpa using hb)
end
end Go.Proofs.YtmnnhjhkaepbaaaGreat
namespace Go.Proofs.YtmnnhjhkaepbaaaGreat
open Go Go.Proofs Go.Shelf Go.Lib
def aHq (f ty k bytes : Nat) : jO := fun g args H =>
  if g=f then match args with
    | [.ms id ver 0 n, .int .i64 i, .ms id2 ver2 0 1] => match H id2 with
      | ⟨v2, true, false, _, k2, [row]⟩ => match H id with
        | ⟨v1, true, lz, ty1, k1, rows⟩ =>
          if ((lz && (rows.take n).isEmpty) = false ∨ n = rows.length) ∧ v1 = ver ∧ v2 = ver2 ∧ k1 = k ∧ k2 = k ∧ ty1 = ty ∧ id ≠ id2 ∧ n ≤ rows.length ∧ i.toNat ≤ n ∧ 0 ≤ i ∧ (n + 1) * bytes ≤ 140737488355328 ∧ n + 1 ≤ 9223372036854775807 then
            if cY k (rows.take n)&&cY k [row] then
              some (.ms id (ver+2) 0 (n+1),upd H id ⟨ver+2,true,lz,ty,k,(rows.take n).take i.toNat++row::(rows.take n).drop i.toNat⟩)
            else none
          else none
        |_=>none
      |_=>none
    |_=>none
  else none
theorem aAK {P : Program} {ρ : Ren} {n1 : String} {k bytes : Nat} {z : Value} (L : InsLay P ρ n1 k bytes z) (hcf : cU P (ρ.f 22)) {zz : List V} (hzz : eH P (ρ.t 9) = some zz) (hzl : zz.length = k) : gF P (aHq (ρ.f 22) (ρ.t 9) k bytes) := by
  intro g args H v H' h
  unfold aHq at h
  split at h
  · rename_i hg
    subst hg
    split at h
    · rename_i id ver n i id2 ver2
      split at h
      · rename_i v2 ty2 k2 row h2
        split at h
        · rename_i v1 lz ty1 k1 rows h1
          split at h
          · rename_i hc
            obtain ⟨c0,rfl,rfl,rfl,rfl,rfl,c1,c2,c3,c4,c5,c6⟩:=hc
            split at h
            · rename_i hf
              simp only [Bool.and_eq_true] at hf
              cases h
              rcases c0 with c0|c0
              · have:=oI L hcf hzz hzl (i:=i.toNat) c0 h1 h2 c1 c2 c3 hf.1 hf.2 c5 c6
                unfold iV at this
                rw [Int.toNat_of_nonneg c4] at this
                exact this
              · have hf1:=hf.1
                rw [c0,List.take_length] at hf1
                have:=xJ L hcf hzz hzl (i:=i.toNat) c0 h1 h2 c1 c3 hf1 hf.2 c5 c6
                unfold iV at this
                rw [Int.toNat_of_nonneg c4] at this
                have e:rows.take n=rows:=by rw [c0,List.take_length]
                rw [e]
                exact this
            · cases h
          · cases h
        · cases h
      · cases h
    · cases h
  · cases h
end Go.Proofs.YtmnnhjhkaepbaaaGreat
namespace Go.Proofs.YtmnnhjhkaepbaaaGreat
open Go Go.Proofs Go.Shelf
def aFp:Go.Shelf.Ren:=⟨fun|22=>136|29=>180|30=>181|n=>n,fun|24=>22|9=>25|n=>n,fun n=>n⟩
theorem aFz:InsLay Tryz.prog aFp Tryz.f136.name 1 24 (.slice none 0 0):={
  mixed:=by kernel_rfl
  f22:=Tryz.func136.trans (congrArg some (by kernel_rfl))
  ov:=fun args w=>run_callFunc_extern Tryz.func180 (by kernel_rfl) (by kernel_rfl) (by kernel_rfl) (by kernel_rfl) args w
  t0:=Tryz.underlying0,a0:=Tryz.isAgg0,z0:=Tryz.sizeOf0,v0:=Tryz.zeroValue0
  t3:=Tryz.underlying3,a3:=Tryz.isAgg3,z3:=Tryz.sizeOf3,v3:=Tryz.zeroValue3
  t4:=Tryz.underlying4,a4:=Tryz.isAgg4,z4:=Tryz.sizeOf4,v4:=Tryz.zeroValue4
  z9:=Tryz.sizeOf25
  t24:=Tryz.underlying22,a24:=Tryz.isAgg22,z24:=Tryz.sizeOf22,v24:=Tryz.zeroValue22
  i9:=by kernel_rfl
  hk:=by decide
  hz:=by kernel_rfl}
theorem aCM:cU Tryz.prog 136:=⟨_,Tryz.func136,by kernel_rfl,by kernel_rfl⟩
def uU:jO:=aHq 136 25 1 24
theorem yB:gF Tryz.prog uU:=aAK aFz aCM (zz:=[V.nilsl]) (by kernel_rfl) rfl
end Go.Proofs.YtmnnhjhkaepbaaaGreat
namespace Go.Proofs.YtmnnhjhkaepbaaaGreat
open Go Go.Proofs Go.Shelf
def aF3:Go.Shelf.Ren:=⟨fun|22=>137|29=>182|30=>183|n=>n,fun|24=>25|9=>3|n=>n,fun n=>n⟩
theorem aFY:InsLay Tryz.prog aF3 Tryz.f137.name 1 8 (.int .i64 0):={
  mixed:=by kernel_rfl
  f22:=Tryz.func137.trans (congrArg some (by kernel_rfl))
  ov:=fun args w=>run_callFunc_extern Tryz.func182 (by kernel_rfl) (by kernel_rfl) (by kernel_rfl) (by kernel_rfl) args w
  t0:=Tryz.underlying0,a0:=Tryz.isAgg0,z0:=Tryz.sizeOf0,v0:=Tryz.zeroValue0
  t3:=Tryz.underlying3,a3:=Tryz.isAgg3,z3:=Tryz.sizeOf3,v3:=Tryz.zeroValue3
  t4:=Tryz.underlying4,a4:=Tryz.isAgg4,z4:=Tryz.sizeOf4,v4:=Tryz.zeroValue4
  z9:=Tryz.sizeOf3
  t24:=Tryz.underlying25,a24:=Tryz.isAgg25,z24:=Tryz.sizeOf25,v24:=Tryz.zeroValue25
  i9:=by kernel_rfl
  hk:=by decide
  hz:=by kernel_rfl}
theorem aDr:cU Tryz.prog 137:=⟨_,Tryz.func137,by kernel_rfl,by kernel_rfl⟩
def vZ:jO:=aHq 137 3 1 8
theorem yA:gF Tryz.prog vZ:=aAK aFY aDr (zz:=[V.int .i64 0]) (by kernel_rfl) rfl
end Go.Proofs.YtmnnhjhkaepbaaaGreat
namespace Go.Proofs.YtmnnhjhkaepbaaaGreat
open Go Go.Proofs Go.Shelf Go.Lib
section
variable {P:Program} {ρ:Go.Shelf.Ren}
theorem aBp (L : Lays8.n4 P ρ) (hcf : cU P (ρ.f 4)) (i0 : TypeInfo) (z : Value) (hi0 : P.info? (ρ.t 25) = some i0) (hz0 : i0.zero = some z) (hs0 : 0 < i0.size) (hzs : z.cells.size = i0.size)
    {n:Nat} (hb:n*i0.bytes≤140737488355328) (h63:n≤4611686018427387904) (id:Nat) (H:aI) (hty:ρ.t 25 < 4294967296:=by decide):
    dL P (ρ.f 4) [.nilsl,iV (n:Nat)] H (.ms id ((H id).ver+1) 0 0) (upd H id ⟨(H id).ver+1,true,decide (n=0),ρ.t 25,i0.size,[]⟩):=by
  refine ⟨hcf,fun x cs hxH hx hr=>?_⟩
  subst hxH
  obtain ⟨c0,c1,rfl⟩: ∃ c0 c1,cs=[c0,c1]:=by
    have:=hr.1
    match cs with
    |[a,b]=>exact ⟨a,b,rfl⟩
    |[]=>simp at this
    |[_]=>simp at this
    |_::_::_::_=>simp at this
  have r0:R x .nilsl c0:=hr.2 0 _ rfl
  have r1:R x (iV (n:Nat)) c1:=hr.2 1 _ rfl
  have hc0:c0=.slice none 0 0:=by cases r0; rfl
  have hc1:c1=.int .i64 (n:Nat):=by unfold iV at r1; cases r1; rfl
  subst hc0; subst hc1
  by_cases hn:n=0
  · subst hn
    refine (Any8.slices_Grow_room L none 0 0 0 x.w (Nat.le_refl _) (by decide) (by decide) (by decide)).mono fun e w' h=>?_
    obtain ⟨rfl,rfl⟩:=h
    obtain ⟨h1,h2,h3⟩:=hU hx id (ρ.t 25) i0.size hty
    exact ⟨_,{x with H:=upd x.H id ⟨(x.H id).ver+1,true,true,ρ.t 25,i0.size,[]⟩},rfl,rfl,by simp,h1,h3 _,h2⟩
  · refine (Any8.slices_Grow_grow L i0 z hi0 hz0 hs0 none 0 0 n [] x.w (Nat.le_refl _) (by omega) (by simpa using hb) (by simpa using h63) (by simp) (fun _=>rfl) (fun a h=>by cases h)).mono fun e w' h=>?_
    obtain ⟨rfl,rfl⟩:=h
    obtain ⟨dI,dF⟩:=fM hx (x.w.drawn+1) (Nat.le_succ _)
    have hge:0+n≤grownCap x.w (0+n) 0 (ρ.t 25):=grownCap_ge x.w _ _ _
    have hle:=grownCap_le_maxLen x.w (0+n) 0 (ρ.t 25) (by unfold maxLen; omega)
    generalize hG:grownCap x.w (0+n) 0 (ρ.t 25)=G at hge hle
    have hsz:((#[]:Array Value)++Builtin.zeroCells z.cells (0+n - 0)++Builtin.zeroCells z.cells (G - (0+n))).size=G*i0.size:=by
      have zc: ∀ m,(Builtin.zeroCells z.cells m).size=m*i0.size:=fun m=>by
        rw [size_zeroCells,hzs]
      rw [Array.size_append,Array.size_append,zc,zc]
      simp only [Array.size_empty,Nat.zero_add,Nat.sub_zero]
      rw [← Nat.add_mul]; congr 1; omega
    have hrf:([].toArray:Array Value)=#[]:=rfl
    rw [hrf]
    generalize ((#[]:Array Value)++Builtin.zeroCells z.cells (0+n - 0)++Builtin.zeroCells z.cells (G - (0+n)))=cc at hsz
    obtain ⟨h1,h2⟩:=iU dI id cc false (ρ.t 25) i0.size [] (by simp) (by simp) (fun r row j v h=>by simp at h)
    refine ⟨_,_,rfl,rfl,by simp [hn],h1,?_,dF.trans h2⟩
    refine .ms _ _ _ _ _ _ _ (by simp [aH]) (fun _ _=>?_) fun _ _=>by simp only [aH]; rfl
    simp only [aH]
    refine ⟨trivial,Nat.zero_le _,hle,by simp,fun _=>⟨by simp [World.drew],?_⟩,fun h=>by simp [Blk.own] at h⟩
    simp only [Nat.zero_add]
    unfold cF
    have:(({x.w with drawn:=x.w.drawn+1}:World).alloc (.cells cc (ρ.t 25))).heap[({x.w with drawn:=x.w.drawn+1}:World).heap.size]?=some (.cells cc (ρ.t 25)):=fI _ _
    rw [this]
    exact hsz.symm
def aE2 (f id ty k bytes : Nat) : jO := fun g args H =>
  if g=f then match args with
    |[.nilsl,.int .i64 n]=>if 0≤n∧n.toNat*bytes≤140737488355328∧n.toNat≤4611686018427387904 then
        some (.ms id ((H id).ver+1) 0 0,upd H id ⟨(H id).ver+1,true,decide (n.toNat=0),ty,k,[]⟩) else none
    |_=>none
  else none
theorem aHn (L : Lays8.n4 P ρ) (hcf : cU P (ρ.f 4)) (i0 : TypeInfo) (z : Value) (hi0 : P.info? (ρ.t 25) = some i0) (hz0 : i0.zero = some z) (hs0 : 0 < i0.size) (hzs : z.cells.size = i0.size) (id : Nat) (hty : ρ.t 25 < 4294967296 := by decide) :
    gF P (aE2 (ρ.f 4) id (ρ.t 25) i0.size i0.bytes):=by
  intro g args H v H' h
  unfold aE2 at h
  split at h
  · rename_i hg
    subst hg
    split at h
    · rename_i n
      split at h
      · rename_i hc
        cases h
        have:=aBp L hcf i0 z hi0 hz0 hs0 hzs (n:=n.toNat) hc.2.1 hc.2.2 id H hty
        rw [Int.toNat_of_nonneg hc.1] at this
        exact this
      · cases h
    · cases h
  · cases h
theorem aGg (L:Lays8.n4 P ρ) (hcf:cU P (ρ.f 4)) {k b:Nat} {z:Value} (hi:(P.info? (ρ.t 25)).map (fun i=>(i.zero,i.size,i.bytes))=some (some z,k,b)) (hs0:0 < k) (hzs:z.cells.size=k) (id:Nat) (hty:ρ.t 25 < 4294967296:=by decide):
    gF P (aE2 (ρ.f 4) id (ρ.t 25) k b):=by
  obtain ⟨i0,h1,h2⟩:=Option.map_eq_some_iff.1 hi
  simp only [Prod.mk.injEq] at h2
  obtain ⟨h3,h4,h5⟩:=h2
  subst h4; subst h5
  exact aHn L hcf i0 z h1 h3 hs0 hzs id hty
def orP (p q:jO):jO:=fun f args H=>match p f args H with
  |some r=>some r
  |none=>q f args H
theorem aC9 {p q:jO} (hp:gF P p) (hq:gF P q):gF P (orP p q):=by
  intro f args H v H' h
  unfold orP at h
  split at h
  · rename_i r hr; cases h; exact hp _ _ _ _ _ hr
  · exact hq _ _ _ _ _ h
end
end Go.Proofs.YtmnnhjhkaepbaaaGreat
namespace Go.Proofs.YtmnnhjhkaepbaaaGreat
open Go Go.Proofs Go.Shelf
def aDG:Go.Shelf.Ren:=⟨fun|4=>196|n=>n,fun|22=>25|25=>3|3=>3|4=>4|9=>9|20=>20|0=>0|n=>n,fun n=>n⟩
theorem aC3:Lays8.n4 Tryz.prog aDG:={
  mixed:=(by kernel_rfl),
  f4:=⟨Tryz.f196.name,by decide,Tryz.func196.trans (congrArg some (by kernel_rfl))⟩,
  t0:=Tryz.underlying0,
  a0:=Tryz.isAgg0,
  z0:=Tryz.sizeOf0,
  v0:=Tryz.zeroValue0,
  t3:=Tryz.underlying3,
  a3:=Tryz.isAgg3,
  z3:=Tryz.sizeOf3,
  v3:=Tryz.zeroValue3,
  t4:=Tryz.underlying4,
  a4:=Tryz.isAgg4,
  z4:=Tryz.sizeOf4,
  v4:=Tryz.zeroValue4,
  t9:=Tryz.underlying9,
  a9:=Tryz.isAgg9,
  z9:=Tryz.sizeOf9,
  v9:=Tryz.zeroValue9,
  t20:=Tryz.underlying20,
  a20:=Tryz.isAgg20,
  z20:=Tryz.sizeOf20,
  v20:=Tryz.zeroValue20,
  t22:=Tryz.underlying25,
  a22:=Tryz.isAgg25,
  z22:=Tryz.sizeOf25,
  v22:=Tryz.zeroValue25}
theorem aBI:cU Tryz.prog 196:=⟨_,Tryz.func196,by kernel_rfl,by kernel_rfl⟩
theorem aB1:(Tryz.prog.info? 3).map (fun i=>(i.zero,i.size,i.bytes))=some (some (.int .i64 0),1,8):=by kernel_rfl
def sP (id:Nat):jO:=aE2 196 id 3 1 8
theorem wR (id:Nat):gF Tryz.prog (sP id):=aGg aC3 aBI aB1 (by decide) rfl id
end Go.Proofs.YtmnnhjhkaepbaaaGreat
namespace Go.Proofs.YtmnnhjhkaepbaaaGreat
open Go Go.Proofs Go.Shelf
def aF2:Go.Shelf.Ren:=⟨fun|22=>230|29=>236|30=>237|n=>n,fun|24=>65|9=>169|n=>n,fun n=>n⟩
theorem aGe:InsLay Tryz.prog aF2 Tryz.f230.name 2 48 (.agg #[.slice none 0 0,.slice none 0 0]):={
  mixed:=by kernel_rfl
  f22:=Tryz.func230.trans (congrArg some (by kernel_rfl))
  ov:=fun args w=>run_callFunc_extern Tryz.func236 (by kernel_rfl) (by kernel_rfl) (by kernel_rfl) (by kernel_rfl) args w
  t0:=Tryz.underlying0,a0:=Tryz.isAgg0,z0:=Tryz.sizeOf0,v0:=Tryz.zeroValue0
  t3:=Tryz.underlying3,a3:=Tryz.isAgg3,z3:=Tryz.sizeOf3,v3:=Tryz.zeroValue3
  t4:=Tryz.underlying4,a4:=Tryz.isAgg4,z4:=Tryz.sizeOf4,v4:=Tryz.zeroValue4
  z9:=Tryz.sizeOf169
  t24:=Tryz.underlying65,a24:=Tryz.isAgg65,z24:=Tryz.sizeOf65,v24:=Tryz.zeroValue65
  i9:=by kernel_rfl
  hk:=by decide
  hz:=by kernel_rfl}
theorem aCO:cU Tryz.prog 230:=⟨_,Tryz.func230,by kernel_rfl,by kernel_rfl⟩
def uP:jO:=aHq 230 169 2 48
theorem xX:gF Tryz.prog uP:=aAK aGe aCO (zz:=[V.nilsl,V.nilsl]) (by kernel_rfl) rfl
end Go.Proofs.YtmnnhjhkaepbaaaGreat
namespace Go.Proofs.YtmnnhjhkaepbaaaGreat
open Go Go.Proofs
def awT:FT:=(.nd 119 ⟨aQw,[]⟩ (.nd 57 ⟨s57,[]⟩ (.nd 31 ⟨s31,[]⟩ (.nd 22 ⟨s22,[]⟩ (.nd 14 ⟨s14,[]⟩ (.nd 10 ⟨s10,[(39,5999100200),(39,7999100300)]⟩ (.nd 9 ⟨s9,[]⟩ .lf .lf) (.nd 12 ⟨s12,[]⟩ .lf .lf)) (.nd 18 ⟨s18,[(52,1001101000)]⟩ (.nd 15 ⟨s15,[]⟩ .lf .lf) (.nd 20 ⟨s20,[]⟩ .lf .lf))) (.nd 28 ⟨s28,[]⟩ (.nd 25 ⟨s25,[(70,1000075),(64,69025100702),(70,81025100703),(66,10)]⟩ (.nd 23 ⟨s23,[]⟩ .lf .lf) (.nd 27 ⟨s27,[]⟩ .lf .lf)) (.nd 30 ⟨s30,[(36,1000041),(36,47025100502),(48,1998104600),(48,53025100503),(50,22),(55,1001100502),(55,1001100503)]⟩ (.nd 29 ⟨s29,[]⟩ .lf .lf) .lf))) (.nd 47 ⟨s47,[]⟩ (.nd 39 ⟨s39,[]⟩ (.nd 35 ⟨s35,[]⟩ (.nd 33 ⟨s33,[]⟩ .lf .lf) (.nd 36 ⟨s36,[]⟩ .lf .lf)) (.nd 41 ⟨s41,[(42,9)]⟩ (.nd 40 ⟨s40,[(24,9)]⟩ .lf .lf) (.nd 45 ⟨s45,[(47,5999100200),(47,7999100300)]⟩ .lf .lf))) (.nd 54 ⟨s54,[]⟩ (.nd 49 ⟨s49,[]⟩ (.nd 48 ⟨s48,[(70,75025100902),(76,86025100903),(72,50)]⟩ .lf .lf) (.nd 53 ⟨s53,[]⟩ .lf .lf)) (.nd 56 ⟨s56,[(110,116025101202),(118,124025101203),(115,14),(123,15)]⟩ (.nd 55 ⟨s55,[]⟩ .lf .lf) .lf)))) (.nd 85 ⟨s85,[(73,6)]⟩ (.nd 75 ⟨s75,[]⟩ (.nd 70 ⟨s70,[(80,85025100802),(86,91025100803),(82,11),(88,12)]⟩ (.nd 59 ⟨s59,[]⟩ (.nd 58 ⟨s58,[]⟩ .lf .lf) (.nd 69 ⟨s69,[]⟩ .lf .lf)) (.nd 73 ⟨s73,[]⟩ (.nd 71 ⟨s71,[]⟩ .lf .lf) (.nd 74 ⟨s74,[]⟩ .lf .lf))) (.nd 81 ⟨s81,[]⟩ (.nd 77 ⟨s77,[]⟩ (.nd 76 ⟨s76,[]⟩ .lf .lf) (.nd 78 ⟨s78,[]⟩ .lf .lf)) (.nd 84 ⟨s84,[]⟩ (.nd 83 ⟨s83,[]⟩ .lf .lf) .lf))) (.nd 93 ⟨s93,[]⟩ (.nd 89 ⟨s89,[]⟩ (.nd 87 ⟨s87,[]⟩ (.nd 86 ⟨s86,[]⟩ .lf .lf) (.nd 88 ⟨s88,[]⟩ .lf .lf)) (.nd 91 ⟨s91,[]⟩ (.nd 90 ⟨s90,[]⟩ .lf .lf) (.nd 92 ⟨s92,[]⟩ .lf .lf))) (.nd 97 ⟨s97,[(104,17)]⟩ (.nd 95 ⟨s95,[(29,1000032),(143,14)]⟩ (.nd 94 ⟨s94,[]⟩ .lf .lf) (.nd 96 ⟨s96,[]⟩ .lf .lf)) (.nd 116 ⟨aIR,[]⟩ (.nd 98 ⟨s98,[]⟩ .lf .lf) .lf))))) (.nd 177 ⟨aR1,[]⟩ (.nd 139 ⟨aRA,[]⟩ (.nd 130 ⟨aSm,[]⟩ (.nd 123 ⟨aI6,[(26,14)]⟩ (.nd 121 ⟨aSb,[]⟩ (.nd 120 ⟨aOQ,[]⟩ .lf .lf) (.nd 122 ⟨aSn,[]⟩ .lf .lf)) (.nd 126 ⟨aNT,[]⟩ (.nd 125 ⟨aSt,[]⟩ .lf .lf) (.nd 127 ⟨aO6,[]⟩ .lf .lf))) (.nd 134 ⟨aSz,[]⟩ (.nd 132 ⟨aNG,[]⟩ (.nd 131 ⟨aNK,[]⟩ .lf .lf) (.nd 133 ⟨aRx,[]⟩ .lf .lf)) (.nd 138 ⟨aOf,[]⟩ (.nd 135 ⟨aQF,[(28,1000031),(58,1000061)]⟩ .lf .lf) .lf))) (.nd 169 ⟨aLc,[]⟩ (.nd 143 ⟨aPl,[]⟩ (.nd 141 ⟨aQe,[]⟩ (.nd 140 ⟨aOu,[(60,76003105009)]⟩ .lf .lf) (.nd 142 ⟨aRN,[]⟩ .lf .lf)) (.nd 145 ⟨aQi,[]⟩ (.nd 144 ⟨aRy,[]⟩ .lf .lf) (.nd 168 ⟨aQD,[]⟩ .lf .lf))) (.nd 174 ⟨aJR,[]⟩ (.nd 171 ⟨aOC,[]⟩ (.nd 170 ⟨aQU,[]⟩ .lf .lf) (.nd 172 ⟨aQT,[]⟩ .lf .lf)) (.nd 176 ⟨aJi,[]⟩ (.nd 175 ⟨aIL,[]⟩ .lf .lf) .lf)))) (.nd 215 ⟨aKx,[]⟩ (.nd 189 ⟨aNO,[]⟩ (.nd 185 ⟨aPm,[]⟩ (.nd 179 ⟨aNn,[]⟩ (.nd 178 ⟨aQO,[]⟩ .lf .lf) (.nd 184 ⟨aPk,[]⟩ .lf .lf)) (.nd 187 ⟨aN1,[]⟩ (.nd 186 ⟨aQ6,[]⟩ .lf .lf) (.nd 188 ⟨aNs,[]⟩ .lf .lf))) (.nd 193 ⟨aOj,[]⟩ (.nd 191 ⟨aOG,[]⟩ (.nd 190 ⟨aSf,[]⟩ .lf .lf) (.nd 192 ⟨aOi,[]⟩ .lf .lf)) (.nd 195 ⟨aR6,[]⟩ (.nd 194 ⟨aRP,[]⟩ .lf .lf) .lf))) (.nd 224 ⟨aQd,[]⟩ (.nd 219 ⟨aOt,[]⟩ (.nd 217 ⟨aLz,[]⟩ (.nd 216 ⟨aIU,[]⟩ .lf .lf) (.nd 218 ⟨aIY,[]⟩ .lf .lf)) (.nd 223 ⟨aN7,[]⟩ (.nd 220 ⟨aQ2,[]⟩ .lf .lf) .lf)) (.nd 228 ⟨aSu,[]⟩ (.nd 226 ⟨aNA,[]⟩ (.nd 225 ⟨aPM,[]⟩ .lf .lf) (.nd 227 ⟨aPS,[]⟩ .lf .lf)) (.nd 235 ⟨aIW,[]⟩ (.nd 229 ⟨aSy,[]⟩ .lf .lf) .lf))))))
theorem awG:aCH Tryz.prog awT.find:=FT.good fun p hp=>by
  have e:awT.list=[(119,⟨aQw,[]⟩),(57,⟨s57,[]⟩),(31,⟨s31,[]⟩),(22,⟨s22,[]⟩),(14,⟨s14,[]⟩),(10,⟨s10,[(39,5999100200),(39,7999100300)]⟩),(9,⟨s9,[]⟩),(12,⟨s12,[]⟩),(18,⟨s18,[(52,1001101000)]⟩),(15,⟨s15,[]⟩),(20,⟨s20,[]⟩),(28,⟨s28,[]⟩),(25,⟨s25,[(70,1000075),(64,69025100702),(70,81025100703),(66,10)]⟩),(23,⟨s23,[]⟩),(27,⟨s27,[]⟩),(30,⟨s30,[(36,1000041),(36,47025100502),(48,1998104600),(48,53025100503),(50,22),(55,1001100502),(55,1001100503)]⟩),(29,⟨s29,[]⟩),(47,⟨s47,[]⟩),(39,⟨s39,[]⟩),(35,⟨s35,[]⟩),(33,⟨s33,[]⟩),(36,⟨s36,[]⟩),(41,⟨s41,[(42,9)]⟩),(40,⟨s40,[(24,9)]⟩),(45,⟨s45,[(47,5999100200),(47,7999100300)]⟩),(54,⟨s54,[]⟩),(49,⟨s49,[]⟩),(48,⟨s48,[(70,75025100902),(76,86025100903),(72,50)]⟩),(53,⟨s53,[]⟩),(56,⟨s56,[(110,116025101202),(118,124025101203),(115,14),(123,15)]⟩),(55,⟨s55,[]⟩),(85,⟨s85,[(73,6)]⟩),(75,⟨s75,[]⟩),(70,⟨s70,[(80,85025100802),(86,91025100803),(82,11),(88,12)]⟩),(59,⟨s59,[]⟩),(58,⟨s58,[]⟩),(69,⟨s69,[]⟩),(73,⟨s73,[]⟩),(71,⟨s71,[]⟩),(74,⟨s74,[]⟩),(81,⟨s81,[]⟩),(77,⟨s77,[]⟩),(76,⟨s76,[]⟩),(78,⟨s78,[]⟩),(84,⟨s84,[]⟩),(83,⟨s83,[]⟩),(93,⟨s93,[]⟩),(89,⟨s89,[]⟩),(87,⟨s87,[]⟩),(86,⟨s86,[]⟩),(88,⟨s88,[]⟩),(91,⟨s91,[]⟩),(90,⟨s90,[]⟩),(92,⟨s92,[]⟩),(97,⟨s97,[(104,17)]⟩),(95,⟨s95,[(29,1000032),(143,14)]⟩),(94,⟨s94,[]⟩),(96,⟨s96,[]⟩),(116,⟨aIR,[]⟩),(98,⟨s98,[]⟩),(177,⟨aR1,[]⟩),(139,⟨aRA,[]⟩),(130,⟨aSm,[]⟩),(123,⟨aI6,[(26,14)]⟩),(121,⟨aSb,[]⟩),(120,⟨aOQ,[]⟩),(122,⟨aSn,[]⟩),(126,⟨aNT,[]⟩),(125,⟨aSt,[]⟩),(127,⟨aO6,[]⟩),(134,⟨aSz,[]⟩),(132,⟨aNG,[]⟩),(131,⟨aNK,[]⟩),(133,⟨aRx,[]⟩),(138,⟨aOf,[]⟩),(135,⟨aQF,[(28,1000031),(58,1000061)]⟩),(169,⟨aLc,[]⟩),(143,⟨aPl,[]⟩),(141,⟨aQe,[]⟩),(140,⟨aOu,[(60,76003105009)]⟩),(142,⟨aRN,[]⟩),(145,⟨aQi,[]⟩),(144,⟨aRy,[]⟩),(168,⟨aQD,[]⟩),(174,⟨aJR,[]⟩),(171,⟨aOC,[]⟩),(170,⟨aQU,[]⟩),(172,⟨aQT,[]⟩),(176,⟨aJi,[]⟩),(175,⟨aIL,[]⟩),(215,⟨aKx,[]⟩),(189,⟨aNO,[]⟩),(185,⟨aPm,[]⟩),(179,⟨aNn,[]⟩),(178,⟨aQO,[]⟩),(184,⟨aPk,[]⟩),(187,⟨aN1,[]⟩),(186,⟨aQ6,[]⟩),(188,⟨aNs,[]⟩),(193,⟨aOj,[]⟩),(191,⟨aOG,[]⟩),(190,⟨aSf,[]⟩),(192,⟨aOi,[]⟩),(195,⟨aR6,[]⟩),(194,⟨aRP,[]⟩),(224,⟨aQd,[]⟩),(219,⟨aOt,[]⟩),(217,⟨aLz,[]⟩),(216,⟨aIU,[]⟩),(218,⟨aIY,[]⟩),(223,⟨aN7,[]⟩),(220,⟨aQ2,[]⟩),(228,⟨aSu,[]⟩),(226,⟨aNA,[]⟩),(225,⟨aPM,[]⟩),(227,⟨aPS,[]⟩),(235,⟨aIW,[]⟩),(229,⟨aSy,[]⟩)]:=by kernel_rfl
  rw [e] at hp
  simp only [List.mem_cons,List.not_mem_nil,or_false] at hp
  rcases hp with rfl|rfl|rfl|rfl|rfl|rfl|rfl|rfl|rfl|rfl|rfl|rfl|rfl|rfl|rfl|rfl|rfl|rfl|rfl|rfl|rfl|rfl|rfl|rfl|rfl|rfl|rfl|rfl|rfl|rfl|rfl|rfl|rfl|rfl|rfl|rfl|rfl|rfl|rfl|rfl|rfl|rfl|rfl|rfl|rfl|rfl|rfl|rfl|rfl|rfl|rfl|rfl|rfl|rfl|rfl|rfl|rfl|rfl|rfl|rfl|rfl|rfl|rfl|rfl|rfl|rfl|rfl|rfl|rfl|rfl|rfl|rfl|rfl|rfl|rfl|rfl|rfl|rfl|rfl|rfl|rfl|rfl|rfl|rfl|rfl|rfl|rfl|rfl|rfl|rfl|rfl|rfl|rfl|rfl|rfl|rfl|rfl|rfl|rfl|rfl|rfl|rfl|rfl|rfl|rfl|rfl|rfl|rfl|rfl|rfl|rfl|rfl|rfl|rfl|rfl|rfl|rfl|rfl
  · exact ⟨_,_,Tryz.func119,aJS,by kernel_rfl⟩
  · exact ⟨_,_,Tryz.func57,aSs,by kernel_rfl⟩
  · exact ⟨_,_,Tryz.func31,aRh,by kernel_rfl⟩
  · exact ⟨_,_,Tryz.func22,aIj,by kernel_rfl⟩
  · exact ⟨_,_,Tryz.func14,aGG,by kernel_rfl⟩
  · exact ⟨_,_,Tryz.func10,aO7,by kernel_rfl⟩
  · exact ⟨_,_,Tryz.func9,aS0,by kernel_rfl⟩
  · exact ⟨_,_,Tryz.func12,aNf,by kernel_rfl⟩
  · exact ⟨_,_,Tryz.func18,aHU,by kernel_rfl⟩
  · exact ⟨_,_,Tryz.func15,aNw,by kernel_rfl⟩
  · exact ⟨_,_,Tryz.func20,aHD,by kernel_rfl⟩
  · exact ⟨_,_,Tryz.func28,aGS,by kernel_rfl⟩
  · exact ⟨_,_,Tryz.func25,aHY,by kernel_rfl⟩
  · exact ⟨_,_,Tryz.func23,aQH,by kernel_rfl⟩
  · exact ⟨_,_,Tryz.func27,aPi,by kernel_rfl⟩
  · exact ⟨_,_,Tryz.func30,aPN,by kernel_rfl⟩
  · exact ⟨_,_,Tryz.func29,aHa,by kernel_rfl⟩
  · exact ⟨_,_,Tryz.func47,aQC,by kernel_rfl⟩
  · exact ⟨_,_,Tryz.func39,aDb,by kernel_rfl⟩
  · exact ⟨_,_,Tryz.func35,aPZ,by kernel_rfl⟩
  · exact ⟨_,_,Tryz.func33,aPC,by kernel_rfl⟩
  · exact ⟨_,_,Tryz.func36,aQp,by kernel_rfl⟩
  · exact ⟨_,_,Tryz.func41,aGH,by kernel_rfl⟩
  · exact ⟨_,_,Tryz.func40,aHN,by kernel_rfl⟩
  · exact ⟨_,_,Tryz.func45,aG7,by kernel_rfl⟩
  · exact ⟨_,_,Tryz.func54,aNE,by kernel_rfl⟩
  · exact ⟨_,_,Tryz.func49,aIC,by kernel_rfl⟩
  · exact ⟨_,_,Tryz.func48,aH4,by kernel_rfl⟩
  · exact ⟨_,_,Tryz.func53,aN8,by kernel_rfl⟩
  · exact ⟨_,_,Tryz.func56,aQl,by kernel_rfl⟩
  · exact ⟨_,_,Tryz.func55,aNQ,by kernel_rfl⟩
  · exact ⟨_,_,Tryz.func85,aQy,by kernel_rfl⟩
  · exact ⟨_,_,Tryz.func75,aPu,by kernel_rfl⟩
  · exact ⟨_,_,Tryz.func70,aIh,by kernel_rfl⟩
  · exact ⟨_,_,Tryz.func59,aSe,by kernel_rfl⟩
  · exact ⟨_,_,Tryz.func58,aNx,by kernel_rfl⟩
  · exact ⟨_,_,Tryz.func69,aHi,by kernel_rfl⟩
  · exact ⟨_,_,Tryz.func73,aRp,by kernel_rfl⟩
  · exact ⟨_,_,Tryz.func71,aHX,by kernel_rfl⟩
  · exact ⟨_,_,Tryz.func74,aRR,by kernel_rfl⟩
  · exact ⟨_,_,Tryz.func81,aQg,by kernel_rfl⟩
  · exact ⟨_,_,Tryz.func77,aC7,by kernel_rfl⟩
  · exact ⟨_,_,Tryz.func76,aGw,by kernel_rfl⟩
  · exact ⟨_,_,Tryz.func78,aGD,by kernel_rfl⟩
  · exact ⟨_,_,Tryz.func84,aO0,by kernel_rfl⟩
  · exact ⟨_,_,Tryz.func83,aQR,by kernel_rfl⟩
  · exact ⟨_,_,Tryz.func93,aOZ,by kernel_rfl⟩
  · exact ⟨_,_,Tryz.func89,aRe,by kernel_rfl⟩
  · exact ⟨_,_,Tryz.func87,aPF,by kernel_rfl⟩
  · exact ⟨_,_,Tryz.func86,aNY,by kernel_rfl⟩
  · exact ⟨_,_,Tryz.func88,aOO,by kernel_rfl⟩
  · exact ⟨_,_,Tryz.func91,aOm,by kernel_rfl⟩
  · exact ⟨_,_,Tryz.func90,aPd,by kernel_rfl⟩
  · exact ⟨_,_,Tryz.func92,aN3,by kernel_rfl⟩
  · exact ⟨_,_,Tryz.func97,aSd,by kernel_rfl⟩
  · exact ⟨_,_,Tryz.func95,aSk,by kernel_rfl⟩
  · exact ⟨_,_,Tryz.func94,aR2,by kernel_rfl⟩
  · exact ⟨_,_,Tryz.func96,aPA,by kernel_rfl⟩
  · exact ⟨_,_,Tryz.func116,aEs,by kernel_rfl⟩
  · exact ⟨_,_,Tryz.func98,aNP,by kernel_rfl⟩
  · exact ⟨_,_,Tryz.func177,aJs,by kernel_rfl⟩
  · exact ⟨_,_,Tryz.func139,aI2,by kernel_rfl⟩
  · exact ⟨_,_,Tryz.func130,aKM,by kernel_rfl⟩
  · exact ⟨_,_,Tryz.func123,aEJ,by kernel_rfl⟩
  · exact ⟨_,_,Tryz.func121,aJp,by kernel_rfl⟩
  · exact ⟨_,_,Tryz.func120,aKa,by kernel_rfl⟩
  · exact ⟨_,_,Tryz.func122,aI7,by kernel_rfl⟩
  · exact ⟨_,_,Tryz.func126,aJ4,by kernel_rfl⟩
  · exact ⟨_,_,Tryz.func125,aIX,by kernel_rfl⟩
  · exact ⟨_,_,Tryz.func127,aKJ,by kernel_rfl⟩
  · exact ⟨_,_,Tryz.func134,aKS,by kernel_rfl⟩
  · exact ⟨_,_,Tryz.func132,aKu,by kernel_rfl⟩
  · exact ⟨_,_,Tryz.func131,aKc,by kernel_rfl⟩
  · exact ⟨_,_,Tryz.func133,aIT,by kernel_rfl⟩
  · exact ⟨_,_,Tryz.func138,aLK,by kernel_rfl⟩
  · exact ⟨_,_,Tryz.func135,aK9,by kernel_rfl⟩
  · exact ⟨_,_,Tryz.func169,aEq,by kernel_rfl⟩
  · exact ⟨_,_,Tryz.func143,aKI,by kernel_rfl⟩
  · exact ⟨_,_,Tryz.func141,aK1,by kernel_rfl⟩
  · exact ⟨_,_,Tryz.func140,aJZ,by kernel_rfl⟩
  · exact ⟨_,_,Tryz.func142,aLo,by kernel_rfl⟩
  · exact ⟨_,_,Tryz.func145,aJL,by kernel_rfl⟩
  · exact ⟨_,_,Tryz.func144,aLq,by kernel_rfl⟩
  · exact ⟨_,_,Tryz.func168,aLO,by kernel_rfl⟩
  · exact ⟨_,_,Tryz.func174,aFe,by kernel_rfl⟩
  · exact ⟨_,_,Tryz.func171,aKZ,by kernel_rfl⟩
  · exact ⟨_,_,Tryz.func170,aKw,by kernel_rfl⟩
  · exact ⟨_,_,Tryz.func172,aKq,by kernel_rfl⟩
  · exact ⟨_,_,Tryz.func176,aEg,by kernel_rfl⟩
  · exact ⟨_,_,Tryz.func175,aEK,by kernel_rfl⟩
  · exact ⟨_,_,Tryz.func215,aEC,by kernel_rfl⟩
  · exact ⟨_,_,Tryz.func189,aIK,by kernel_rfl⟩
  · exact ⟨_,_,Tryz.func185,aLA,by kernel_rfl⟩
  · exact ⟨_,_,Tryz.func179,aIO,by kernel_rfl⟩
  · exact ⟨_,_,Tryz.func178,aIS,by kernel_rfl⟩
  · exact ⟨_,_,Tryz.func184,aJQ,by kernel_rfl⟩
  · exact ⟨_,_,Tryz.func187,aLa,by kernel_rfl⟩
  · exact ⟨_,_,Tryz.func186,aK3,by kernel_rfl⟩
  · exact ⟨_,_,Tryz.func188,aKH,by kernel_rfl⟩
  · exact ⟨_,_,Tryz.func193,aKF,by kernel_rfl⟩
  · exact ⟨_,_,Tryz.func191,aKX,by kernel_rfl⟩
  · exact ⟨_,_,Tryz.func190,aJe,by kernel_rfl⟩
  · exact ⟨_,_,Tryz.func192,aJh,by kernel_rfl⟩
  · exact ⟨_,_,Tryz.func195,aIN,by kernel_rfl⟩
  · exact ⟨_,_,Tryz.func194,aJX,by kernel_rfl⟩
  · exact ⟨_,_,Tryz.func224,aKR,by kernel_rfl⟩
  · exact ⟨_,_,Tryz.func219,aJ1,by kernel_rfl⟩
  · exact ⟨_,_,Tryz.func217,aEt,by kernel_rfl⟩
  · exact ⟨_,_,Tryz.func216,aEY,by kernel_rfl⟩
  · exact ⟨_,_,Tryz.func218,aDU,by kernel_rfl⟩
  · exact ⟨_,_,Tryz.func223,aLs,by kernel_rfl⟩
  · exact ⟨_,_,Tryz.func220,aJU,by kernel_rfl⟩
  · exact ⟨_,_,Tryz.func228,aIM,by kernel_rfl⟩
  · exact ⟨_,_,Tryz.func226,aLr,by kernel_rfl⟩
  · exact ⟨_,_,Tryz.func225,aKE,by kernel_rfl⟩
  · exact ⟨_,_,Tryz.func227,aJw,by kernel_rfl⟩
  · exact ⟨_,_,Tryz.func235,aDZ,by kernel_rfl⟩
  · exact ⟨_,_,Tryz.func229,aJ3,by kernel_rfl⟩
def awQ:jO:=(orP uU (orP vZ (orP (sP 999983) uP)))
theorem aNX:gF Tryz.prog awQ:=(aC9 yB (aC9 yA (aC9 (wR 999983) xX)))
def awA:PrimA:=(orA (orA nP lR) mW)
theorem aPX:eM Tryz.prog awA:=(aHM (aHM aAI tI) wF)
theorem fG {l:List hJ} (hl: ∀ p∈l,bA Tryz.prog p.1 p.2.1 p.2.2) {f:Nat} {args:List V} {v:V} (hp:dC args=true) (h:(sL awQ awT.find (aAb awQ (orB (aS8 l) awA) awT.find 400) 0 false f args H0).map (·.1)=some v):bA Tryz.prog f args v:=aA3 aNX (aOw (aKD hl) aPX) awG 400 hp h
def aH8:hJ:=(10,[(.agg [(iV 2),(iV 0),gAq,gCq]),(.sl [[(iV 0)],[(iV 1)]])],(.tup [(.agg [(iV 2),(iV 0),gAq,gBq]),(iV 0)]))
theorem aEi:bA Tryz.prog aH8.1 aH8.2.1 aH8.2.2:=fG (l:=[]) nFq rfl (by kernel_rfl)
def aFL:hJ:=(54,[(.agg [(iV 2),(.sl [[(.bool true),.nilsl,.nilsl,.nilsl,.nilsl]])]),(.agg [(iV 2),.nilsl])],(.tup [(.agg [(iV 2),(.sl [[(.bool true),.nilsl,.nilsl,.nilsl,.nilsl]])]),(.sl [[(.sl [[(iV 0)]])],[(.sl [[(iV 1)]])]]),(.bool false),(iV 0)]))
theorem aAy:bA Tryz.prog aFL.1 aFL.2.1 aFL.2.2:=fG (l:=[]) nFq rfl (by kernel_rfl)
def aFs:hJ:=(56,[(.agg [(iV 2),(.sl [[(.bool true),.nilsl,.nilsl,.nilsl,.nilsl]])]),(.agg [(iV 2),(.sl [[(.sl [[(iV 0)]]),(.sl [[(iV 257)]])],[(.sl [[(iV 1)]]),(.sl [[(iV 0)]])]])])],(.tup [(.agg [(iV 2),(iV 0),(.sl [[(.sl [[(iV 0)],[(iV 0)]])]]),(.sl [[(.sl [[(iV 257)],[(iV 0)]])]]),(.sl [[(.sl [])]])]),(iV 0)]))
theorem aAl:bA Tryz.prog aFs.1 aFs.2.1 aFs.2.2:=fG (l:=[]) nFq rfl (by kernel_rfl)
def aFQ:hJ:=(54,[(.agg [(iV 2),(.sl [[(.bool false),.nilsl,(.sl [[(iV 1)]]),(.sl [[(.sl [[(iV 0)]])],[(.sl [[(iV 512)]])]]),(.sl [[(iV 1)],[(iV 2)]])],[(.bool true),(.sl []),(.sl []),(.sl []),(.sl [])],[(.bool true),(.sl [[(iV 0)]]),.nilsl,.nilsl,.nilsl]])]),(.agg [(iV 2),(.sl [[(.sl [[(iV 1)],[(iV 1)]]),(.sl [[(iV 0)],[(iV 0)]])],[(.sl [[(iV 0)],[(iV 0)],[(iV 1)]]),(.sl [[(iV 257)],[(iV 257)],[(iV 512)]])],[(.sl [[(iV 0)],[(iV 1)],[(iV 1)]]),(.sl [[(iV 257)],[(iV 512)],[(iV 0)]])]])])],(.tup [(.agg [(iV 2),(.sl [[(.bool false),.nilsl,(.sl [[(iV 1)]]),(.sl [[(.sl [[(iV 0)]])],[(.sl [[(iV 512)]])]]),(.sl [[(iV 1)],[(iV 2)]])],[(.bool true),(.sl []),(.sl []),(.sl []),(.sl [])],[(.bool true),(.sl [[(iV 0)]]),.nilsl,.nilsl,.nilsl]])]),.nilsl,(.bool true),(iV 0)]))
theorem aAS:bA Tryz.prog aFQ.1 aFQ.2.1 aFQ.2.2:=fG (l:=[]) nFq rfl (by kernel_rfl)
def aCv:hJ:=(55,[(.agg [(iV 2),(iV 0),gAq,gBq]),(.agg [(iV 2),(.sl [[(.sl [[(iV 0)]]),(.sl [[(iV 257)]])],[(.sl [[(iV 1)]]),(.sl [[(iV 0)]])]])]),(.sl [[(.sl [[(iV 0)],[(iV 1)]])]])],(.tup [(.agg [(iV 2),(.sl [[(.sl [[(iV 1)]]),(.sl [[(iV 0)]])],[(.sl [[(iV 0)],[(iV 1)]]),(.sl [[(iV 257)],[(iV 512)]])]])]),(iV 0)]))
theorem qT:bA Tryz.prog aCv.1 aCv.2.1 aCv.2.2:=fG (l:=[]) nFq rfl (by kernel_rfl)
def aIu:hJ:=(12,[(.agg [(iV 2),(iV 0),gAq,gBq])],(.tup [(.agg [(iV 2),(iV 0),gAq,gCq]),(iV 0)]))
theorem aFg:bA Tryz.prog aIu.1 aIu.2.1 aIu.2.2:=fG (l:=[]) nFq rfl (by kernel_rfl)
def aBq:hJ:=(55,[(.agg [(iV 2),(iV 0),gAq,gBq]),(.agg [(iV 2),.nilsl]),(.sl [[(.sl [[(iV 0)]])],[(.sl [[(iV 1)]])]])],(.tup [(.agg [(iV 2),(.sl [[(.sl [[(iV 0)]]),(.sl [[(iV 257)]])],[(.sl [[(iV 1)]]),(.sl [[(iV 0)]])]])]),(iV 0)]))
theorem qB:bA Tryz.prog aBq.1 aBq.2.1 aBq.2.2:=fG (l:=[]) nFq rfl (by kernel_rfl)
def aGc:hJ:=(57,[(.agg [(iV 2),(iV 0),(.sl [[(.sl [[(iV 0)],[(iV 0)]])]]),(.sl [[(.sl [[(iV 257)],[(iV 0)]])]])]),(.agg [(iV 2),(iV 0),gAq,gBq])],(.tup [(.sl [[(iV 0)],[(iV 1)]]),(.bool true),(iV 0)]))
theorem aAP:bA Tryz.prog aGc.1 aGc.2.1 aGc.2.2:=fG (l:=[]) nFq rfl (by kernel_rfl)
def aB4:hJ:=(55,[(.agg [(iV 2),(iV 0),gAq,gBq]),(.agg [(iV 2),(.sl [[(.sl [[(iV 1)],[(iV 1)]]),(.sl [[(iV 0)],[(iV 0)]])],[(.sl [[(iV 0)],[(iV 0)],[(iV 1)]]),(.sl [[(iV 257)],[(iV 257)],[(iV 512)]])],[(.sl [[(iV 0)],[(iV 1)],[(iV 1)]]),(.sl [[(iV 257)],[(iV 512)],[(iV 0)]])]])]),.nilsl],(.tup [(.agg [(iV 2),(.sl [[(.sl [[(iV 1)],[(iV 1)]]),(.sl [[(iV 0)],[(iV 0)]])],[(.sl [[(iV 0)],[(iV 0)],[(iV 1)]]),(.sl [[(iV 257)],[(iV 257)],[(iV 512)]])],[(.sl [[(iV 0)],[(iV 1)],[(iV 1)]]),(.sl [[(iV 257)],[(iV 512)],[(iV 0)]])]])]),(iV 0)]))
theorem pI:bA Tryz.prog aB4.1 aB4.2.1 aB4.2.2:=fG (l:=[]) nFq rfl (by kernel_rfl)
def aGV:hJ:=(96,[(.agg [(iV 2),(iV 0),(.sl [[(.sl [[(iV 0)],[(iV 0)]])]]),(.sl [[(.sl [[(iV 257)],[(iV 0)]])]]),(.sl [[(.sl [])]])]),(.agg [(iV 2),(.sl [[(.sl [[(iV 1)]]),(.sl [[(iV 0)]])],[(.sl [[(iV 0)],[(iV 1)]]),(.sl [[(iV 257)],[(iV 512)]])]])]),(.sl [[(iV 0)],[(iV 1)]])],(.tup [(.agg [(.sl []),(iV 0),(.sl [[(iV 1)]])]),.nilsl,(iV 0)]))
theorem aEB:bA Tryz.prog aGV.1 aGV.2.1 aGV.2.2:=fG (l:=[]) nFq rfl (by kernel_rfl)
def aE9:hJ:=(36,[(.agg [(iV 2),(iV 0),gAq,gCq])],(.tup [(.sl [[(iV 0)],[(iV 1)]]),(.sl [[.nilsl],[(.sl [[(iV 0)]])]]),(iV 0)]))
theorem aHl:bA Tryz.prog aE9.1 aE9.2.1 aE9.2.2:=fG (l:=[]) nFq rfl (by kernel_rfl)
def zL:hJ:=(54,[(.agg [(iV 2),(.sl [[(.bool true),.nilsl,.nilsl,.nilsl,.nilsl]])]),(.agg [(iV 2),(.sl [[(.sl [[(iV 0)]]),(.sl [[(iV 257)]])],[(.sl [[(iV 1)]]),(.sl [[(iV 0)]])]])])],(.tup [(.agg [(iV 2),(.sl [[(.bool true),.nilsl,.nilsl,.nilsl,.nilsl]])]),.nilsl,(.bool true),(iV 0)]))
theorem uX:bA Tryz.prog zL.1 zL.2.1 zL.2.2:=fG (l:=[]) nFq rfl (by kernel_rfl)
def yU:hJ:=(54,[(.agg [(iV 2),(.sl [[(.bool false),.nilsl,(.sl [[(iV 1)]]),(.sl [[(.sl [[(iV 0)]])],[(.sl [[(iV 512)]])]]),(.sl [[(iV 1)],[(iV 2)]])],[(.bool true),(.sl []),(.sl []),(.sl []),(.sl [])],[(.bool true),(.sl [[(iV 0)]]),.nilsl,.nilsl,.nilsl]])]),(.agg [(iV 2),(.sl [[(.sl [[(iV 1)]]),(.sl [[(iV 0)]])],[(.sl [[(iV 0)],[(iV 1)]]),(.sl [[(iV 257)],[(iV 512)]])]])])],(.tup [(.agg [(iV 2),(.sl [[(.bool false),.nilsl,(.sl [[(iV 1)]]),(.sl [[(.sl [[(iV 0)]])],[(.sl [[(iV 512)]])]]),(.sl [[(iV 1)],[(iV 2)]])],[(.bool true),(.sl []),(.sl []),(.sl []),(.sl [])],[(.bool true),(.sl [[(iV 0)]]),.nilsl,.nilsl,.nilsl]])]),(.sl [[(.sl [[(iV 1)],[(iV 1)]])],[(.sl [[(iV 0)],[(iV 0)],[(iV 1)]])],[(.sl [[(iV 0)],[(iV 1)],[(iV 1)]])]]),(.bool false),(iV 0)]))
theorem wP:bA Tryz.prog yU.1 yU.2.1 yU.2.2:=fG (l:=[]) nFq rfl (by kernel_rfl)
def zG:hJ:=(56,[(.agg [(iV 2),(.sl [[(.bool false),.nilsl,(.sl [[(iV 1)]]),(.sl [[(.sl [[(iV 0)]])],[(.sl [[(iV 512)]])]]),(.sl [[(iV 1)],[(iV 2)]])],[(.bool true),(.sl []),(.sl []),(.sl []),(.sl [])],[(.bool true),(.sl [[(iV 0)]]),.nilsl,.nilsl,.nilsl]])]),(.agg [(iV 2),(.sl [[(.sl [[(iV 1)],[(iV 1)]]),(.sl [[(iV 0)],[(iV 0)]])],[(.sl [[(iV 0)],[(iV 0)],[(iV 1)]]),(.sl [[(iV 257)],[(iV 257)],[(iV 512)]])],[(.sl [[(iV 0)],[(iV 1)],[(iV 1)]]),(.sl [[(iV 257)],[(iV 512)],[(iV 0)]])]])])],(.tup [(.agg [(iV 2),(iV 0),gAq,gBq,(.sl [[(.sl [])],[(.sl [[(iV 0)]])]])]),(iV 0)]))
theorem xM:bA Tryz.prog zG.1 zG.2.1 zG.2.2:=fG (l:=[]) nFq rfl (by kernel_rfl)
def aBj:hJ:=(97,[(.agg [(iV 2),(.sl [[(.bool true),.nilsl,.nilsl,.nilsl,.nilsl]])]),(.agg [(iV 2),(.sl [[(.sl [[(iV 1)]]),(.sl [[(iV 0)]])],[(.sl [[(iV 0)],[(iV 1)]]),(.sl [[(iV 257)],[(iV 512)]])]])]),(.agg [(.sl []),(iV 0),(.sl [[(iV 1)]])])],(.tup [(.agg [(iV 2),(.sl [[(.bool false),.nilsl,(.sl [[(iV 1)]]),(.sl [[(.sl [[(iV 0)]])],[(.sl [[(iV 512)]])]]),(.sl [[(iV 1)],[(iV 2)]])],[(.bool true),(.sl []),(.sl []),(.sl []),(.sl [])],[(.bool true),(.sl [[(iV 0)]]),.nilsl,.nilsl,.nilsl]])]),.nilsl,(iV 0)]))
theorem aCa:bA Tryz.prog aBj.1 aBj.2.1 aBj.2.2:=fG (l:=[]) nFq rfl (by kernel_rfl)
def yV:hJ:=(53,[(iV 2)],(.tup [(.agg [(iV 2),(.sl [[(.bool true),.nilsl,.nilsl,.nilsl,.nilsl]])]),(iV 0)]))
theorem uS:bA Tryz.prog yV.1 yV.2.1 yV.2.2:=fG (l:=[]) nFq rfl (by kernel_rfl)
def sW:hJ:=(55,[(.agg [(iV 2),(iV 0),gAq,gBq]),(.agg [(iV 2),(.sl [[(.sl [[(iV 0)]]),(.sl [[(iV 257)]])],[(.sl [[(iV 1)]]),(.sl [[(iV 0)]])]])]),.nilsl],(.tup [(.agg [(iV 2),(.sl [[(.sl [[(iV 0)]]),(.sl [[(iV 257)]])],[(.sl [[(iV 1)]]),(.sl [[(iV 0)]])]])]),(iV 0)]))
theorem mE:bA Tryz.prog sW.1 sW.2.1 sW.2.2:=fG (l:=[]) nFq rfl (by kernel_rfl)
def sE:hJ:=(55,[(.agg [(iV 2),(iV 0),gAq,gBq]),(.agg [(iV 2),(.sl [[(.sl [[(iV 1)]]),(.sl [[(iV 0)]])],[(.sl [[(iV 0)],[(iV 1)]]),(.sl [[(iV 257)],[(iV 512)]])]])]),(.sl [[(.sl [[(iV 1)],[(iV 1)]])],[(.sl [[(iV 0)],[(iV 0)],[(iV 1)]])],[(.sl [[(iV 0)],[(iV 1)],[(iV 1)]])]])],(.tup [(.agg [(iV 2),(.sl [[(.sl [[(iV 1)],[(iV 1)]]),(.sl [[(iV 0)],[(iV 0)]])],[(.sl [[(iV 0)],[(iV 0)],[(iV 1)]]),(.sl [[(iV 257)],[(iV 257)],[(iV 512)]])],[(.sl [[(iV 0)],[(iV 1)],[(iV 1)]]),(.sl [[(iV 257)],[(iV 512)],[(iV 0)]])]])]),(iV 0)]))
theorem mF:bA Tryz.prog sE.1 sE.2.1 sE.2.2:=fG (l:=[]) nFq rfl (by kernel_rfl)
def zW:hJ:=(57,[(.agg [(iV 2),(iV 0),gAq,gBq]),(.agg [(iV 2),(iV 0),gAq,gBq])],(.tup [.nilsl,(.bool false),(iV 0)]))
theorem xI:bA Tryz.prog zW.1 zW.2.1 zW.2.2:=fG (l:=[]) nFq rfl (by kernel_rfl)
def wK:hJ:=(18,[(.agg [(iV 2),(iV 0),gAq,gCq]),(.sl [[(.sl [[(iV 0)]])],[(.sl [[(iV 1)]])]])],(.tup [(.sl [[(iV 0)],[(iV 1)]]),(.bool true),(iV 0)]))
theorem pF:bA Tryz.prog wK.1 wK.2.1 wK.2.2:=fG (l:=[aCv,aBq,aB4,aGV,aBj,sW,sE]) (fun p hp=>by
  simp only [List.mem_cons,List.not_mem_nil,or_false] at hp
  rcases hp with rfl|rfl|rfl|rfl|rfl|rfl|rfl
  · exact qT
  · exact qB
  · exact pI
  · exact aEB
  · exact aCa
  · exact mE
  · exact mF) rfl (by kernel_rfl)
def yW:hJ:=(58,[(.agg [(iV 2),(.sl [[(.bool true),.nilsl,.nilsl,.nilsl,.nilsl]]),(iV 2),(.sl [[(.sl [[(iV 0)]]),(.sl [[(iV 257)]])],[(.sl [[(iV 1)]]),(.sl [[(iV 0)]])]])]),(.agg [(iV 2),(iV 0),gAq,gBq]),(.agg [(iV 2),(iV 0),(.sl [[(.sl [[(iV 0)],[(iV 0)]])]]),(.sl [[(.sl [[(iV 257)],[(iV 0)]])]]),(.sl [[(.sl [])]])]),(.sl [[(iV 0)],[(iV 1)]])],(.tup [(.agg [(iV 2),(.sl [[(.bool false),.nilsl,(.sl [[(iV 1)]]),(.sl [[(.sl [[(iV 0)]])],[(.sl [[(iV 512)]])]]),(.sl [[(iV 1)],[(iV 2)]])],[(.bool true),(.sl []),(.sl []),(.sl []),(.sl [])],[(.bool true),(.sl [[(iV 0)]]),.nilsl,.nilsl,.nilsl]]),(iV 2),(.sl [[(.sl [[(iV 1)]]),(.sl [[(iV 0)]])],[(.sl [[(iV 0)],[(iV 1)]]),(.sl [[(iV 257)],[(iV 512)]])]])]),(iV 0)]))
theorem vQ:bA Tryz.prog yW.1 yW.2.1 yW.2.2:=fG (l:=[aCv,aBq,aB4,aGV,aBj,sW,sE]) (fun p hp=>by
  simp only [List.mem_cons,List.not_mem_nil,or_false] at hp
  rcases hp with rfl|rfl|rfl|rfl|rfl|rfl|rfl
  · exact qT
  · exact qB
  · exact pI
  · exact aEB
  · exact aCa
  · exact mE
  · exact mF) rfl (by kernel_rfl)
def aEL:hJ:=(20,[(.agg [(iV 2),(iV 0),gAq,gCq]),(.sl [[(.sl [[(iV 0)]])],[(.sl [[(iV 1)]])]])],(.tup [.nilsl,(iV 15)]))
theorem aHK:bA Tryz.prog aEL.1 aEL.2.1 aEL.2.2:=fG (l:=[aFL,aFs,aFQ,aCv,aBq,aGc,aB4,zL,yU,zG,yV,sW,sE,zW,wK,yW]) (fun p hp=>by
  simp only [List.mem_cons,List.not_mem_nil,or_false] at hp
  rcases hp with rfl|rfl|rfl|rfl|rfl|rfl|rfl|rfl|rfl|rfl|rfl|rfl|rfl|rfl|rfl|rfl
  · exact aAy
  · exact aAl
  · exact aAS
  · exact qT
  · exact qB
  · exact aAP
  · exact pI
  · exact uX
  · exact wP
  · exact xM
  · exact uS
  · exact mE
  · exact mF
  · exact xI
  · exact pF
  · exact vQ) rfl (by kernel_rfl)
def aEz:hJ:=(35,[(.agg [(iV 2),(iV 0),gAq,gBq])],(.tup [(.agg [(iV 2),(iV 0),gAq,gBq,(.sl [[(.sl [])],[(.sl [[(iV 0)]])]])]),(.agg [(iV 2),(.sl [[(.sl [[(iV 1)],[(iV 1)]]),(.sl [[(iV 0)],[(iV 0)]])],[(.sl [[(iV 0)],[(iV 0)],[(iV 1)]]),(.sl [[(iV 257)],[(iV 257)],[(iV 512)]])],[(.sl [[(iV 0)],[(iV 1)],[(iV 1)]]),(.sl [[(iV 257)],[(iV 512)],[(iV 0)]])]])]),(iV 2),(iV 0)]))
theorem aHI:bA Tryz.prog aEz.1 aEz.2.1 aEz.2.2:=fG (l:=[aFL,aFs,aFQ,aCv,aBq,aGc,aB4,zL,yU,zG,yV,sW,sE,zW,wK,yW]) (fun p hp=>by
  simp only [List.mem_cons,List.not_mem_nil,or_false] at hp
  rcases hp with rfl|rfl|rfl|rfl|rfl|rfl|rfl|rfl|rfl|rfl|rfl|rfl|rfl|rfl|rfl|rfl
  · exact aAy
  · exact aAl
  · exact aAS
  · exact qT
  · exact qB
  · exact aAP
  · exact pI
  · exact uX
  · exact wP
  · exact xM
  · exact uS
  · exact mE
  · exact mF
  · exact xI
  · exact pF
  · exact vQ) rfl (by kernel_rfl)
def aD6:hJ:=(20,[(.agg [(iV 2),(iV 0),gAq,gCq]),(.sl [[(.sl [[(iV 0)],[(iV 1)]])]])],(.tup [(.sl [[(iV 2),(iV 0),gAq,gCq]]),(iV 0)]))
theorem aGF:bA Tryz.prog aD6.1 aD6.2.1 aD6.2.2:=fG (l:=[aFL,aFs,aFQ,aCv,aBq,aGc,aB4,zL,yU,zG,yV,sW,sE,zW,wK,yW]) (fun p hp=>by
  simp only [List.mem_cons,List.not_mem_nil,or_false] at hp
  rcases hp with rfl|rfl|rfl|rfl|rfl|rfl|rfl|rfl|rfl|rfl|rfl|rfl|rfl|rfl|rfl|rfl
  · exact aAy
  · exact aAl
  · exact aAS
  · exact qT
  · exact qB
  · exact aAP
  · exact pI
  · exact uX
  · exact wP
  · exact xM
  · exact uS
  · exact mE
  · exact mF
  · exact xI
  · exact pF
  · exact vQ) rfl (by kernel_rfl)
def aEH:hJ:=(15,[(.agg [(iV 2),(iV 0),gAq,gCq]),(.sl [[(iV 0)],[(iV 1)]])],(.tup [(.agg [(iV 2),(iV 0),gAq,gCq,(.sl [[.nilsl],[(.sl [[(iV 0)]])]])]),(iV 3),(iV 0)]))
theorem aH7:bA Tryz.prog aEH.1 aEH.2.1 aEH.2.2:=fG (l:=[aH8,aIu,aE9,aEz]) (fun p hp=>by
  simp only [List.mem_cons,List.not_mem_nil,or_false] at hp
  rcases hp with rfl|rfl|rfl|rfl
  · exact aEi
  · exact aFg
  · exact aHl
  · exact aHI) rfl (by kernel_rfl)
theorem fU:bA Tryz.prog 9 [] (.bool true):=fG (l:=[aH8,aIu,wK,aEL,aD6,aEH]) (fun p hp=>by
  simp only [List.mem_cons,List.not_mem_nil,or_false] at hp
  rcases hp with rfl|rfl|rfl|rfl|rfl|rfl
  · exact aEi
  · exact aFg
  · exact pF
  · exact aHK
  · exact aGF
  · exact aH7) rfl (by kernel_rfl)
theorem sA (a b:List Int):bA Tryz.prog 22 [(aG a),(aG b)] (V.bool (decide (a=b))):=by
 refine pW Tryz.func22 aIj fun hB=>?_
 unfold s22
 dsimp only
 refine W_r (aA rfl (R_e (aB (W_r (aA rfl (bI rfl (aA rfl ?_)))))))
 refine bI rfl (dD rfl rfl (R_e ?_))
 refine aJ rfl (fun c1=>?_) fun c1=>?_
 ·
  refine aB (W_r (aA rfl (R_e (aX ?_))))
  refine bS (rVq (V.bool false)) (cH ?_)
  · exact (decide_eq_false (fun e=>by subst e; omega)).symm
 refine aE (aB (W_r (aA rfl (R_e (aC fun Q2 n2 x2 y2 z2=>?_)))))
 refine bH (fun mm T H=> ∃ (k:Nat),mm=a.length - k∧T 0=(aG a)∧T 1=(aG b)∧T 5=(iV ((k:Nat):Int))∧(k≤a.length)∧(a.length=b.length)∧(∀ j,j < k→nth a j=nth b j)) ?_ ?_
 ·
  refine ⟨_,0,rfl,rfl,rfl,(eTq (rVq (iV 0)) rfl),?_,?_,?_⟩
  · omega
  · omega
  · intro j hj; omega
 intro mm T H ⟨k,hmm,t0,t1,t5,hk,hl,hc⟩ Q3 p13 p23 p33
 unfold aMQ
 refine aB (W_r (aA t5 (aA t0 (bI rfl (bJ rfl rfl (R_e ?_))))))
 refine aJ rfl (fun c4=>?_) fun c4=>?_
 ·
  refine aE (aC fun Q5 n5 x5 y5 z5=>(W_r (aA t0 (aA t5 (bE (i:=k) (rVq (aG a)) (rNq k) (by omega) rfl (aF rfl rfl (aA t1 ?_)))))))
  refine aA t5 (bE (i:=k) (rVq (aG b)) (rNq k) (by omega) rfl (aF rfl rfl (dD rfl rfl (R_e ?_))))
  refine iE rfl (fun c6=>?_) fun c6=>?_
  ·
   refine W_r (aA rfl (R_e (bN (y5 _ _ (p23 _ _ (y2 _ _ ?_))))))
   refine bS (rVq (V.bool false)) (cH ?_)
   · exact (decide_eq_false (fun e=>by subst e; omega)).symm
  refine dS (n5 _ _ (.done (W_t (aA t5 (aU rfl (rNq 1) (by omega) (aA rfl (R_e ?_)))))))
  refine p13 _ _ _ ?_ ⟨(k+1),rfl,t0,t1,(eTq (rNq (k+1)) (by rfl)),?_,?_,?_⟩
  · omega
  · omega
  · omega
  · intro j hj
    by_cases e:j=k
    · subst e; omega
    · exact hc j (by omega)
 refine aN (p33 _ _ _ (x2 _ _ (.done (W_r (aA rfl (R_e (bN ?_)))))))
 refine bS (rVq (V.bool true)) (cH ?_)
 · exact (decide_eq_true (eV hl fun j hj=>hc j (by omega))).symm
theorem uZ (a b:List (List Int)):bA Tryz.prog 28 [(aD a),(aD b)] (V.bool (decide (a=b))):=by
 refine pW Tryz.func28 aGS fun hB=>?_
 unfold s28
 dsimp only
 refine W_r (aA rfl (R_e (aB (W_r (aA rfl (bI rfl (aA rfl ?_)))))))
 refine bI rfl (dD rfl rfl (R_e ?_))
 refine aJ rfl (fun c1=>?_) fun c1=>?_
 ·
  refine aB (W_r (aA rfl (R_e (aX ?_))))
  refine bS (rVq (V.bool false)) (cH ?_)
  · exact (decide_eq_false (fun e=>by subst e; omega)).symm
 refine aE (aB (W_r (aA rfl (R_e (aC fun Q2 n2 x2 y2 z2=>?_)))))
 refine bH (fun mm T H=> ∃ (k:Nat),mm=a.length - k∧T 0=(aD a)∧T 1=(aD b)∧T 5=(iV ((k:Nat):Int))∧(k≤a.length)∧(a.length=b.length)∧(∀ j,j < k→nth a j=nth b j)) ?_ ?_
 ·
  refine ⟨_,0,rfl,rfl,rfl,(eTq (rVq (iV 0)) rfl),?_,?_,?_⟩
  · omega
  · omega
  · intro j hj; omega
 intro mm T H ⟨k,hmm,t0,t1,t5,hk,hl,hc⟩ Q3 p13 p23 p33
 unfold aMa
 refine aB (W_r (aA t5 (aA t0 (bI rfl (bJ rfl rfl (R_e ?_))))))
 refine aJ rfl (fun c4=>?_) fun c4=>?_
 ·
  refine aE (aC fun Q5 n5 x5 y5 z5=>(W_r (aA t0 (aA t5 (bE (i:=k) (rVq (aD a)) (rNq k) (by omega) rfl (aF rfl rfl (aA t1 ?_)))))))
  refine aA t5 (bE (i:=k) (rVq (aD b)) (rNq k) (by omega) rfl (aF rfl rfl (aV (sA (nth a k) (nth b k)) rfl (sX rfl (R_e ?_)))))
  refine iE rfl (fun c6=>?_) fun c6=>?_
  ·
   have d1:=c6
   refine W_r (aA rfl (R_e (bN (y5 _ _ (p23 _ _ (y2 _ _ ?_))))))
   refine bS (rVq (V.bool false)) (cH ?_)
   · exact (decide_eq_false (fun e=>d1 (by subst e; rfl))).symm
  have d1:=Decidable.not_not.1 c6
  refine dS (n5 _ _ (.done (W_t (aA t5 (aU rfl (rNq 1) (by omega) (aA rfl (R_e ?_)))))))
  refine p13 _ _ _ ?_ ⟨(k+1),rfl,t0,t1,(eTq (rNq (k+1)) (by rfl)),?_,?_,?_⟩
  · omega
  · omega
  · omega
  · intro j hj
    by_cases e:j=k
    · subst e; exact d1
    · exact hc j (by omega)
 refine aN (p33 _ _ _ (x2 _ _ (.done (W_r (aA rfl (R_e (bN ?_)))))))
 refine bS (rVq (V.bool true)) (cH ?_)
 · exact (decide_eq_true (eV hl fun j hj=>hc j (by omega))).symm
theorem aCV (a b:M):bA Tryz.prog 14 [(V.agg [(iV a.i),(iV a.s),(aD a.nx),(aD a.ot)]),(V.agg [(iV b.i),(iV b.s),(aD b.nx),(aD b.ot)])] (V.bool (decide (a=b))):=by
 refine pW Tryz.func14 aGG fun hB=>?_
 unfold s14
 dsimp only
 refine W_r (dN (i:=2) (n:=0) (m:=4) (cs:=[(iV a.i),(iV a.s),(aD a.nx),(aD a.ot)]) rfl (cVq rfl) rfl rfl rfl (dN (i:=3) (n:=0) (m:=4) (cs:=[(iV b.i),(iV b.s),(aD b.nx),(aD b.ot)]) rfl (cVq rfl) rfl rfl rfl (aA rfl (R_e (W_r (aZ rfl rfl (aS rfl rfl rfl rfl ?_)))))))
 refine aZ rfl rfl (aS rfl rfl rfl rfl (fC rfl rfl (aA rfl ?_)))
 refine bW 6 (fun T H=>T 2=(mPq 2)∧T 3=(mPq 3)∧T 16=(V.bool (decide ((a.i=b.i)∧(a.s=b.s))))∧H 2=(bk 1 24 4 [[(iV a.i),(iV a.s),(aD a.nx),(aD a.ot)]])∧H 3=(bk 1 24 4 [[(iV b.i),(iV b.s),(aD b.nx),(aD b.ot)]])∧True) ?_ ?_
 ·
  by_cases g1:a.i=b.i
  ·
   refine aM (edT g1 rfl) (aZ rfl rfl (aM (edT g1 rfl) (aS rfl rfl rfl rfl (aM (edT g1 rfl) (aZ rfl rfl (aM (edT g1 rfl) (aS rfl rfl rfl rfl ?_)))))))
   refine aM (edT g1 rfl) (fC rfl rfl (bY (edT g1 rfl) rfl ?_))
   exact ⟨rfl,rfl,(jW g1),rfl,rfl,trivial⟩
  ·
   refine G_n (edF g1 rfl) (G_n (edF g1 rfl) (G_n (edF g1 rfl) (G_n (edF g1 rfl) (G_n (edF g1 rfl) (bX (edF g1 rfl) rfl ?_)))))
   exact ⟨rfl,rfl,(jT g1),rfl,rfl,trivial⟩
 intro T H ⟨t2,t3,t16,h2,h3,_⟩
 refine aA t16 ?_
 refine bW 6 (fun T H=>T 2=(mPq 2)∧T 3=(mPq 3)∧T 23=(V.bool (decide (((a.i=b.i)∧(a.s=b.s))∧(a.nx=b.nx))))∧H 2=(bk 1 24 4 [[(iV a.i),(iV a.s),(aD a.nx),(aD a.ot)]])∧H 3=(bk 1 24 4 [[(iV b.i),(iV b.s),(aD b.nx),(aD b.ot)]])∧True) ?_ ?_
 ·
  by_cases g2:(a.i=b.i)∧(a.s=b.s)
  ·
   refine aM (edT g2 rfl) (aZ t2 h2 (aM (edT g2 rfl) (aS rfl h2 rfl rfl (aM (edT g2 rfl) (aZ t3 h3 (aM (edT g2 rfl) (aS rfl h3 rfl rfl ?_)))))))
   refine aM (edT g2 rfl) (aV (uZ a.nx b.nx) rfl (bY (edT g2 rfl) rfl ?_))
   exact ⟨t2,t3,(jW g2),h2,h3,trivial⟩
  ·
   refine G_n (edF g2 rfl) (G_n (edF g2 rfl) (G_n (edF g2 rfl) (G_n (edF g2 rfl) (G_n (edF g2 rfl) (bX (edF g2 rfl) rfl ?_)))))
   exact ⟨t2,t3,(jT g2),h2,h3,trivial⟩
 intro T H ⟨t2,t3,t23,h2,h3,_⟩
 refine aA t23 ?_
 refine bW 6 (fun T H=>T 30=(V.bool (decide ((((a.i=b.i)∧(a.s=b.s))∧(a.nx=b.nx))∧(a.ot=b.ot))))∧H 2=(bk 1 24 4 [[(iV a.i),(iV a.s),(aD a.nx),(aD a.ot)]])∧H 3=(bk 1 24 4 [[(iV b.i),(iV b.s),(aD b.nx),(aD b.ot)]])∧True) ?_ ?_
 ·
  by_cases g3:((a.i=b.i)∧(a.s=b.s))∧(a.nx=b.nx)
  ·
   refine aM (edT g3 rfl) (aZ t2 h2 (aM (edT g3 rfl) (aS rfl h2 rfl rfl (aM (edT g3 rfl) (aZ t3 h3 (aM (edT g3 rfl) (aS rfl h3 rfl rfl ?_)))))))
   refine aM (edT g3 rfl) (aV (uZ a.ot b.ot) rfl (bY (edT g3 rfl) rfl ?_))
   exact ⟨(jW g3),h2,h3,trivial⟩
  ·
   refine G_n (edF g3 rfl) (G_n (edF g3 rfl) (G_n (edF g3 rfl) (G_n (edF g3 rfl) (G_n (edF g3 rfl) (bX (edF g3 rfl) rfl ?_)))))
   exact ⟨(jT g3),h2,h3,trivial⟩
 intro T H ⟨t30,h2,h3,_⟩
 refine aA t30 (R_e (bN ?_))
 refine bS (rVq (V.bool (decide ((((a.i=b.i)∧(a.s=b.s))∧(a.nx=b.nx))∧(a.ot=b.ot))))) (cH ?_)
 · first|rfl|(rw [decide_eq_decide]; rw [M.eq_iff]; simp [and_assoc])|(simp [M.eq_iff,and_assoc])
theorem iR (m:M):bA Tryz.prog 29 [(V.agg [(iV m.i),(iV m.s),(aD m.nx),(aD m.ot)])] (iV (bD m)):=by
 refine pW Tryz.func29 aHa fun hB=>?_
 unfold s29
 dsimp only
 refine W_r (dN (i:=1) (n:=0) (m:=4) (cs:=[(iV m.i),(iV m.s),(aD m.nx),(aD m.ot)]) rfl (cVq rfl) rfl rfl rfl (aA rfl (R_e (W_r (aZ rfl rfl (aS rfl rfl rfl rfl (bI rfl ?_)))))))
 refine aA rfl (R_e (aC fun Q1 n1 x1 y1 z1=>(W_r (aZ rfl rfl (aS rfl rfl rfl rfl (bJ rfl rfl (aA rfl ?_)))))))
 refine bW 4 (fun T H=>T 1=(mPq 1)∧T 3=(iV ((m.nx.length:Nat):Int))∧T 19=(V.bool (decide ((m.i < (1:Int))∨((64:Int) < m.i))))∧H 1=(bMq m)∧True) ?_ ?_
 ·
  by_cases g2:m.i < (1:Int)
  ·
   refine G_n (edT g2 rfl) (G_n (edT g2 rfl) (G_n (edT g2 rfl) (bY (edT g2 rfl) rfl ?_)))
   exact ⟨rfl,rfl,(dY g2),rfl,trivial⟩
  ·
   refine aM (edF g2 rfl) (aZ rfl rfl (aM (edF g2 rfl) (aS rfl rfl rfl rfl (aM (edF g2 rfl) (iQ rfl rfl (bX (edF g2 rfl) rfl ?_))))))
   exact ⟨rfl,rfl,(dX g2),rfl,trivial⟩
 intro T H ⟨t1,t3,t19,h1,_⟩
 refine aA t19 (R_e ?_)
 refine iE rfl (fun c3=>?_) fun c3=>?_
 ·
  refine W_r (aA rfl (R_e (bN (y1 _ _ ?_))))
  refine bS (rVq (iV 2)) (aW ?_)
  · rw [bD,if_pos (by omega)]
 refine W_r (aA t3 (fC rfl rfl (aA rfl (R_e ?_))))
 refine iE rfl (fun c4=>?_) fun c4=>?_
 ·
  refine W_r (aA rfl (R_e (bN (y1 _ _ ?_))))
  refine bS (rVq (iV 19)) (aW ?_)
  · rw [bD,if_neg (by omega),if_pos (by omega)]
 refine W_r (aA t3 (iQ rfl rfl (aA rfl (R_e ?_))))
 refine iE rfl (fun c5=>?_) fun c5=>?_
 ·
  refine W_r (aA rfl (R_e (bN (y1 _ _ ?_))))
  refine bS (rVq (iV 11)) (aW ?_)
  · rw [bD,if_neg (by omega),if_neg (by omega),if_pos (by omega)]
 refine W_r (aZ t1 h1 (aS rfl h1 rfl rfl (bJ rfl rfl (aA rfl ?_))))
 refine bW 5 (fun T H=>T 1=(mPq 1)∧T 3=(iV ((m.nx.length:Nat):Int))∧T 35=(V.bool (decide ((m.s < (0:Int))∨(((m.nx.length:Nat):Int)≤m.s))))∧H 1=(bMq m)∧True) ?_ ?_
 ·
  by_cases g6:m.s < (0:Int)
  ·
   refine G_n (edT g6 rfl) (G_n (edT g6 rfl) (G_n (edT g6 rfl) (G_n (edT g6 rfl) (bY (edT g6 rfl) rfl ?_))))
   exact ⟨t1,t3,(dY g6),h1,trivial⟩
  ·
   refine aM (edF g6 rfl) (aZ t1 h1 (aM (edF g6 rfl) (aS rfl h1 rfl rfl (aM (edF g6 rfl) (aA t3 (aM (edF g6 rfl) (lZ rfl rfl ?_)))))))
   refine bX (edF g6 rfl) rfl ?_
   exact ⟨t1,t3,(dX g6),h1,trivial⟩
 intro T H ⟨t1,t3,t35,h1,_⟩
 refine aA t35 (R_e ?_)
 refine iE rfl (fun c7=>?_) fun c7=>?_
 ·
  refine W_r (aA rfl (R_e (bN (y1 _ _ ?_))))
  refine bS (rVq (iV 2)) (aW ?_)
  · rw [bD,if_neg (by omega),if_neg (by omega),if_neg (by omega),if_pos (by omega)]
 refine W_r (aZ t1 h1 (aS rfl h1 rfl rfl (bI rfl (aA t3 (dD rfl rfl (aA rfl (R_e ?_)))))))
 refine iE rfl (fun c8=>?_) fun c8=>?_
 ·
  refine W_r (aA rfl (R_e (bN (y1 _ _ ?_))))
  refine bS (rVq (iV 1)) (aW ?_)
  · rw [bD,if_neg (by omega),if_neg (by omega),if_neg (by omega),if_neg (by omega),if_pos (by omega)]
 refine dS (n1 _ _ (.done (aB (W_r (aA t3 (aA rfl (R_e ?_)))))))
 refine aC fun Q9 n9 x9 y9 z9=>?_
 refine bH (fun mm T H=> ∃ (k:Nat),mm=m.nx.length - k∧T 1=(mPq 1)∧T 3=(iV ((m.nx.length:Nat):Int))∧T 42=(iV ((m.nx.length:Nat):Int))∧T 43=(iV ((k:Nat):Int))∧H 1=(bMq m)∧(k≤m.nx.length)∧(1≤m.i∧m.i≤64∧0 < m.nx.length∧m.nx.length≤128∧m.ot.length=m.nx.length)∧(bD m=fe (nX m) k (m.nx.length - k))) ?_ ?_
 ·
  refine ⟨_,0,rfl,t1,t3,rfl,(eTq (rVq (iV 0)) rfl),h1,?_,?_,?_⟩
  · omega
  · omega
  · rw [bD,if_neg (by omega),if_neg (by omega),if_neg (by omega),if_neg (by omega),if_neg (by omega)]; rfl
 intro mm T H ⟨k,hmm,t1,t3,t42,t43,h1,hk,hv,hc⟩ Q10 p110 p210 p310
 unfold aMe
 refine W_r (bJ t43 t42 (R_e ?_))
 refine aJ rfl (fun c11=>?_) fun c11=>?_
 ·
  refine aE (aC fun Q12 n12 x12 y12 z12=>(W_r (aA t43 (aA rfl (R_e (aB (W_r ?_)))))))
  refine aZ t1 h1 (aS rfl h1 rfl rfl (aA rfl (bE (i:=k) (rVq (aD m.nx)) (rNq k) (by omega) rfl (aF rfl rfl (bI rfl (aZ t1 h1 (aS rfl h1 rfl rfl ?_)))))))
  refine dD rfl rfl (aA rfl ?_)
  refine bW 10 (fun T H=>T 1=(mPq 1)∧T 3=(iV ((m.nx.length:Nat):Int))∧T 4=(iV ((k:Nat):Int))∧T 42=(iV ((m.nx.length:Nat):Int))∧T 43=(iV ((k:Nat):Int))∧T 65=(V.bool (decide (((((nth m.nx k).length:Nat):Int)≠m.i)∨((((nth m.ot k).length:Nat):Int)≠m.i))))∧H 1=(bMq m)∧True) ?_ ?_
  ·
   by_cases g13:(((nth m.nx k).length:Nat):Int)≠m.i
   ·
    refine G_n (edT g13 rfl) (G_n (edT g13 rfl) (G_n (edT g13 rfl) (G_n (edT g13 rfl) (G_n (edT g13 rfl) (G_n (edT g13 rfl) (G_n (edT g13 rfl) (G_n (edT g13 rfl) ?_)))))))
    refine G_n (edT g13 rfl) (bY (edT g13 rfl) rfl ?_)
    exact ⟨t1,t3,rfl,t42,t43,(dY g13),h1,trivial⟩
   ·
    refine aM (edF g13 rfl) (aZ t1 h1 (aM (edF g13 rfl) (aS rfl h1 rfl rfl (aM (edF g13 rfl) (aA rfl (aM (edF g13 rfl) (bE (i:=k) (rVq (aD m.ot)) (rNq k) (by omega) rfl ?_)))))))
    refine aM (edF g13 rfl) (aF rfl rfl (aM (edF g13 rfl) (bI rfl (aM (edF g13 rfl) (aZ t1 h1 (aM (edF g13 rfl) (aS rfl h1 rfl rfl ?_)))))))
    refine aM (edF g13 rfl) (dD rfl rfl (bX (edF g13 rfl) rfl ?_))
    exact ⟨t1,t3,rfl,t42,t43,(dX g13),h1,trivial⟩
  intro T H ⟨t1,t3,t4,t42,t43,t65,h1,_⟩
  refine R_e ?_
  refine aJ t65 (fun c14=>?_) fun c14=>?_
  ·
   refine aB (W_r (aA rfl (R_e (aX (y12 _ _ (p210 _ _ (y9 _ _ ?_)))))))
   refine bS (rVq (iV 1)) (aW ?_)
   · rw [hc,uY (by rw [nX,if_pos (by omega)]; decide) (by omega),nX,if_pos (by omega)]
  refine aE (W_r (aZ t1 h1 (aS rfl h1 rfl rfl (aA rfl (R_e (iK fun Q15 n15 x15 y15 z15=>?_))))))
  refine bH (fun mm T H=> ∃ (j:Nat),mm=m.i.toNat - j∧T 1=(mPq 1)∧T 3=(iV ((m.nx.length:Nat):Int))∧T 4=(iV ((k:Nat):Int))∧T 42=(iV ((m.nx.length:Nat):Int))∧T 43=(iV ((k:Nat):Int))∧T 67=(iV m.i)∧T 68=(iV ((j:Nat):Int))∧H 1=(bMq m)∧(j≤m.i.toNat)∧(((nth m.nx k).length:Int)=m.i∧((nth m.ot k).length:Int)=m.i)∧(nX m k=fe (tL m k) j (m.i.toNat - j))) ?_ ?_
  ·
   refine ⟨_,0,rfl,t1,t3,t4,t42,t43,rfl,(eTq (rVq (iV 0)) rfl),h1,?_,?_,?_⟩
   · omega
   · omega
   · rw [nX,if_neg (by omega)]; rfl
  intro mm T H ⟨j,hmm,t1,t3,t4,t42,t43,t67,t68,h1,hj,hl,hr⟩ Q16 p116 p216 p316
  unfold aMi
  refine W_r (bJ t68 t67 (R_e ?_))
  refine aJ rfl (fun c17=>?_) fun c17=>?_
  ·
   refine aE (aC fun Q18 n18 x18 y18 z18=>(W_r (aA t68 (aA rfl (R_e (W_r (aZ t1 h1 ?_)))))))
   refine aS rfl h1 rfl rfl (aA t4 (bE (i:=k) (rVq (aD m.nx)) (rNq k) (by omega) rfl (aF rfl rfl (aA rfl (bE (i:=j) (rVq (aG (nth m.nx k))) (rNq j) (by omega) rfl (aF rfl rfl (aZ t1 h1 ?_)))))))
   refine aS rfl h1 rfl rfl (aA t4 (bE (i:=k) (rVq (aD m.ot)) (rNq k) (by omega) rfl (aF rfl rfl (aA rfl (bE (i:=j) (rVq (aG (nth m.ot k))) (rNq j) (by omega) rfl (aF rfl rfl (aA rfl ?_)))))))
   refine aA rfl (R_e (W_r (aA rfl (bJ rfl rfl (aA rfl ?_)))))
   refine bW 4 (fun T H=>T 1=(mPq 1)∧T 3=(iV ((m.nx.length:Nat):Int))∧T 4=(iV ((k:Nat):Int))∧T 7=(iV (nth (nth m.ot k) j))∧T 42=(iV ((m.nx.length:Nat):Int))∧T 43=(iV ((k:Nat):Int))∧T 67=(iV m.i)∧T 68=(iV ((j:Nat):Int))∧T 93=(V.bool (decide (((nth (nth m.nx k) j) < (0:Int))∨(((m.nx.length:Nat):Int)≤(nth (nth m.nx k) j)))))∧H 1=(bMq m)∧True) ?_ ?_
   ·
    by_cases g19:(nth (nth m.nx k) j) < (0:Int)
    ·
     refine G_n (edT g19 rfl) (G_n (edT g19 rfl) (G_n (edT g19 rfl) (bY (edT g19 rfl) rfl ?_)))
     exact ⟨t1,t3,t4,rfl,t42,t43,t67,t68,(dY g19),h1,trivial⟩
    ·
     refine aM (edF g19 rfl) (aA rfl (aM (edF g19 rfl) (aA t3 (aM (edF g19 rfl) (lZ rfl rfl (bX (edF g19 rfl) rfl ?_))))))
     exact ⟨t1,t3,t4,rfl,t42,t43,t67,t68,(dX g19),h1,trivial⟩
   intro T H ⟨t1,t3,t4,t7,t42,t43,t67,t68,t93,h1,_⟩
   refine aA t93 ?_
   refine bW 3 (fun T H=>T 1=(mPq 1)∧T 3=(iV ((m.nx.length:Nat):Int))∧T 4=(iV ((k:Nat):Int))∧T 7=(iV (nth (nth m.ot k) j))∧T 42=(iV ((m.nx.length:Nat):Int))∧T 43=(iV ((k:Nat):Int))∧T 67=(iV m.i)∧T 68=(iV ((j:Nat):Int))∧T 97=(V.bool (decide ((((nth (nth m.nx k) j) < (0:Int))∨(((m.nx.length:Nat):Int)≤(nth (nth m.nx k) j)))∨((nth (nth m.ot k) j) < (0:Int)))))∧H 1=(bMq m)∧True) ?_ ?_
   ·
    by_cases g20:((nth (nth m.nx k) j) < (0:Int))∨(((m.nx.length:Nat):Int)≤(nth (nth m.nx k) j))
    ·
     refine G_n (edT g20 rfl) (G_n (edT g20 rfl) (bY (edT g20 rfl) rfl ?_))
     exact ⟨t1,t3,t4,t7,t42,t43,t67,t68,(dY g20),h1,trivial⟩
    ·
     refine aM (edF g20 rfl) (aA t7 (aM (edF g20 rfl) (bJ rfl rfl (bX (edF g20 rfl) rfl ?_))))
     exact ⟨t1,t3,t4,t7,t42,t43,t67,t68,(dX g20),h1,trivial⟩
   intro T H ⟨t1,t3,t4,t7,t42,t43,t67,t68,t97,h1,_⟩
   refine aA t97 ?_
   refine bW 3 (fun T H=>T 1=(mPq 1)∧T 3=(iV ((m.nx.length:Nat):Int))∧T 4=(iV ((k:Nat):Int))∧T 42=(iV ((m.nx.length:Nat):Int))∧T 43=(iV ((k:Nat):Int))∧T 67=(iV m.i)∧T 68=(iV ((j:Nat):Int))∧T 101=(V.bool (decide (((((nth (nth m.nx k) j) < (0:Int))∨(((m.nx.length:Nat):Int)≤(nth (nth m.nx k) j)))∨((nth (nth m.ot k) j) < (0:Int)))∨((1048576:Int) < (nth (nth m.ot k) j)))))∧H 1=(bMq m)∧True) ?_ ?_
   ·
    by_cases g21:(((nth (nth m.nx k) j) < (0:Int))∨(((m.nx.length:Nat):Int)≤(nth (nth m.nx k) j)))∨((nth (nth m.ot k) j) < (0:Int))
    ·
     refine G_n (edT g21 rfl) (G_n (edT g21 rfl) (bY (edT g21 rfl) rfl ?_))
     exact ⟨t1,t3,t4,t42,t43,t67,t68,(dY g21),h1,trivial⟩
    ·
     refine aM (edF g21 rfl) (aA t7 (aM (edF g21 rfl) (iQ rfl rfl (bX (edF g21 rfl) rfl ?_))))
     exact ⟨t1,t3,t4,t42,t43,t67,t68,(dX g21),h1,trivial⟩
   intro T H ⟨t1,t3,t4,t42,t43,t67,t68,t101,h1,_⟩
   refine R_e ?_
   refine iE t101 (fun c22=>?_) fun c22=>?_
   ·
    refine W_r (aA rfl (R_e (bN (y18 _ _ (p216 _ _ (y15 _ _ (y12 _ _ ?_)))))))
    refine p210 _ _ (y9 _ _ ?_)
    refine bS (rVq (iV 2)) (aW ?_)
    · have e:nX m k=2:=by
        rw [hr,uY (by unfold tL; split <;> omega) (by omega)]; unfold tL; split <;> omega
      rw [hc,uY (by omega) (by omega),e]
   refine dS (n18 _ _ (.done (W_t (aU t68 (rNq 1) (by omega) (aA rfl (R_e ?_))))))
   refine p116 _ _ _ ?_ ⟨(j+1),rfl,t1,t3,t4,t42,t43,t67,(eTq (rNq (j+1)) (by rfl)),h1,?_,?_,?_⟩
   · omega
   · omega
   · omega
   · rw [hr,tU (by unfold tL; split <;> omega) (by omega)]
  refine aN (p316 _ _ _ (x15 _ _ (n12 _ _ (.done (W_t (aU t43 (rNq 1) (by omega) (aA rfl ?_)))))))
  refine R_e ?_
  refine p110 _ _ _ ?_ ⟨(k+1),rfl,t1,t3,t42,(eTq (rNq (k+1)) (by rfl)),h1,?_,?_,?_⟩
  · omega
  · omega
  · omega
  · rw [hc,tU (by rw [hr,aAG (by omega)]) (by omega)]
 refine aN (p310 _ _ _ (x9 _ _ (.done (W_r (aA rfl (R_e (bN ?_)))))))
 refine bS (rVq (iV 0)) (aW ?_)
 · rw [hc,aAG (by omega)]
end Go.Proofs.YtmnnhjhkaepbaaaGreat
namespace Go.Proofs.YtmnnhjhkaepbaaaGreat
open Go
theorem uV: ∀ {A B:List Int},A.Nodup→(∀ a∈A,a∈B)→B.length≤A.length→B.Perm A
  | [], B, _, _, h => by
    have:B=[]:=List.eq_nil_of_length_eq_zero (by simpa using h)
    rw [this]
  | a :: A, B, hn, hs, h => by
    have ha:=hs a (List.mem_cons_self ..)
    have p:=List.perm_cons_erase ha
    obtain ⟨n1,n2⟩:=List.nodup_cons.1 hn
    refine p.trans (List.Perm.cons a (uV n2 (fun x hx=>?_) ?_))
    · have:=hs x (List.mem_cons_of_mem _ hx)
      exact (List.mem_erase_of_ne (fun e=>n1 (by rw [← e]; exact hx))).2 this
    · have:=List.length_erase_of_mem ha
      simp only [List.length_cons] at h
      omega
theorem aE6: ∀ {A B:List Int},A.Nodup→(∀ a∈A,a∈B)→A.length≤B.length
  |[],_,_,_=>Nat.zero_le _
  | a :: A, B, hn, hs => by
    have ha:=hs a (List.mem_cons_self ..)
    obtain ⟨n1,n2⟩:=List.nodup_cons.1 hn
    have:=aE6 (A:=A) (B:=B.erase a) n2 fun x hx=>(List.mem_erase_of_ne (fun e=>n1 (by rw [← e]; exact hx))).2 (hs x (List.mem_cons_of_mem _ hx))
    have:=List.length_erase_of_mem ha
    have:0 < B.length:=List.length_pos_of_mem ha
    simp only [List.length_cons]
    omega
def rgI (n:Nat):List Int:=(List.range n).map (fun a:Nat=>(a:Int))
theorem vW {n:Nat} {a:Int}:a∈rgI n↔0≤a∧a < n:=by
  unfold rgI
  rw [List.mem_map]
  constructor
  · rintro ⟨k,hk,rfl⟩
    have:=List.mem_range.1 hk
    omega
  · intro h
    exact ⟨a.toNat,List.mem_range.2 (by omega),by omega⟩
theorem aCf (n:Nat):(rgI n).Nodup:=by
  unfold rgI
  exact List.Pairwise.map _ (fun a b h e=>h (by omega)) List.nodup_range
theorem aDL (n:Nat):(rgI n).length=n:=by simp [rgI]
theorem aGl {L:List Int} {n:Nat} (hl:L.length=n):(L.Nodup∧ ∀ a∈L,0≤a∧a < n)↔ ∀ a:Int,0≤a→a < n→a∈L:=by
  constructor
  · rintro ⟨h1,h2⟩ a a0 a1
    have p:=uV (A:=L) (B:=rgI n) h1 (fun x hx=>vW.2 (h2 x hx)) (by rw [aDL]; omega)
    exact p.mem_iff.1 (vW.2 ⟨a0,a1⟩)
  · intro h
    have p:=uV (A:=rgI n) (B:=L) (aCf n) (fun x hx=>by have:=vW.1 hx; exact h x this.1 this.2) (by rw [aDL]; omega)
    exact ⟨p.symm.nodup (aCf n),fun a ha=>vW.1 (p.mem_iff.1 ha)⟩
def gpI (gs:List (List Int)) (a:Int):Int:=fi (fun i=>decide (a∈nth gs i)) 0 gs.length
theorem aC0 {gs:List (List Int)} {a:Int}:0≤gpI gs a↔a∈gs.flatten:=by
  unfold gpI
  rw [List.mem_flatten]
  constructor
  · intro h
    obtain ⟨j,h1,h2,h3,h4,_⟩:=iI h
    exact ⟨nth gs j,aY (by omega),of_decide_eq_true h4⟩
  · rintro ⟨g,hg,ha⟩
    obtain ⟨j,hj,rfl⟩:=iY hg
    refine Classical.byContradiction fun hn=>?_
    exact hn (kZ (p:=fun i=>decide (a∈nth gs i)) (Nat.zero_le _) (by omega) (decide_eq_true ha))
def gsP (gs:List (List Int)) (i:Int):Prop:=(∀ k,k < gs.length→nth gs k≠[])∧(gs.flatten.length:Int)=i∧ ∀ a:Int,0≤a→a < i→0≤gpI gs a
theorem aMs {gs:List (List Int)} {i:Int} (hi:0≤i):((∀ k,k < gs.length→nth gs k≠[])∧gs.flatten.Nodup∧(∀ a∈gs.flatten,0≤a∧a < i))∧(gs.flatten.length:Int)=i↔gsP gs i:=by
  unfold gsP
  constructor
  · rintro ⟨⟨h1,h2,h3⟩,h4⟩
    refine ⟨h1,h4,fun a a0 a1=>aC0.2 ?_⟩
    exact (aGl (n:=i.toNat) (by omega)).1 ⟨h2,fun a ha=>by have:=h3 a ha; omega⟩ a a0 (by omega)
  · rintro ⟨h1,h4,h5⟩
    obtain ⟨p,q⟩:=(aGl (L:=gs.flatten) (n:=i.toNat) (by omega)).2 fun a a0 a1=>aC0.1 (h5 a a0 (by omega))
    exact ⟨⟨h1,p,fun a ha=>by have:=q a ha; omega⟩,h4⟩
end Go.Proofs.YtmnnhjhkaepbaaaGreat
namespace Go.Proofs.YtmnnhjhkaepbaaaGreat
open Go
def eG (l:List (Int×Int)):List (List V):=[.nilp,.nilp]::l.map fun p=>[iV p.1,iV p.2]
theorem aIe (k:Int): ∀ (l:List (Int×Int)) (i:Nat),∃ j,eU 1 (iV k) (l.map fun p=>[iV p.1,iV p.2]) i=some ((l.find? fun p=>decide (k=p.1)).map fun p=>(j,iV p.2))
  |[],i=>⟨0,rfl⟩
  | p :: l, i => by
    have e0:oE 1 (iV k) (iV p.1)=some (decide (k=p.1)):=by
      show (if IntKind.i64=IntKind.i64 then some (k==p.1) else none)=_
      rw [if_pos rfl]; congr 1
    rw [List.map_cons,eU,e0,List.find?_cons]
    by_cases e:k=p.1
    · rw [decide_eq_true e]; exact ⟨i,rfl⟩
    · rw [decide_eq_false e]; exact aIe k l (i+1)
section
variable {ver:Nat} {k:Int} {l:List (Int×Int)}
def lkI (l:List (Int×Int)) (k:Int):Int:=match l.find? fun p=>decide (k=p.1) with
  |some p=>p.2
  |none=>0
def inI (l:List (Int×Int)) (k:Int):Bool:=l.any fun p=>decide (k=p.1)
theorem aGL:iD ⟨ver,true,true,cA,2,eG l⟩ ver 1 (iV 0) (iV k)=some (iV (lkI l k),inI l k):=by
  obtain ⟨j,h⟩:=aIe k l 0
  unfold iD
  rw [if_pos (by simp [Blk.own,Blk.isM,cA,eG,jC,iV])]
  simp only [eG]
  rw [h]
  unfold lkI inI
  cases hf:l.find? fun p=>decide (k=p.1) with
  | none =>
    have:(l.any fun p=>decide (k=p.1))=false:=by
      rw [List.any_eq_false]
      rw [List.find?_eq_none] at hf
      exact hf
    rw [this]; rfl
  | some p =>
    have:(l.any fun p=>decide (k=p.1))=true:=by
      have h0:=List.find?_some hf
      rw [List.any_eq_true]
      exact ⟨p,List.mem_of_find?_eq_some hf,h0⟩
    rw [this]; rfl
theorem aUR {v:Int} (h:inI l k=false):lX ⟨ver,true,true,cA,2,eG l⟩ ver 1 (iV k) (iV v)=some ⟨ver,true,true,cA,2,eG (l++[(k,v)])⟩:=by
  obtain ⟨j,g⟩:=aIe k l 0
  have hf:l.find? (fun p=>decide (k=p.1))=none:=by
    rw [List.find?_eq_none]
    unfold inI at h
    rw [List.any_eq_false] at h
    exact h
  unfold lX
  rw [if_pos (by simp [Blk.own,Blk.isM,cA,eG,jC,iV])]
  simp only [eG]
  rw [g,hf]
  simp
theorem aU4:wC ⟨ver,true,true,cA,2,eG l⟩ ver=some l.length:=by
  unfold wC
  rw [if_pos (by simp [Blk.own,Blk.isM,cA,eG])]
  simp [eG]
end
def owR (g:List Int) (k j:Nat):List (Int×Int):=(g.take j).map fun a=>(a,((k:Nat):Int))
def owE (gs:List (List Int)):Nat→List (Int×Int)
  |0=>[]
  |k+1=>owE gs k++owR (nth gs k) k (nth gs k).length
def owJ (gs:List (List Int)) (k j:Nat):List (Int×Int):=owE gs k++owR (nth gs k) k j
def owB (gs:List (List Int)) (i:Int) (k j:Nat):Bool:=inI (owJ gs k j) (nth (nth gs k) j)||decide (nth (nth gs k) j < 0)||decide (i≤nth (nth gs k) j)
def owK (gs:List (List Int)) (i:Int) (k:Nat):Bool:=decide ((nth gs k).length=0)||(List.range (nth gs k).length).any fun j=>owB gs i k j
def owX (gs:List (List Int)) (i:Int):Bool:=(List.range gs.length).any fun k=>owK gs i k
theorem aFh {gs:List (List Int)} {i:Int} {k:Nat} (hk:k < gs.length) (h:owK gs i k=true):owX gs i=true:=by
  unfold owX
  rw [List.any_eq_true]
  exact ⟨k,List.mem_range.2 hk,h⟩
theorem aUO {gs:List (List Int)} {i:Int} {k:Nat} (h:(nth gs k).length=0):owK gs i k=true:=by
  unfold owK; rw [decide_eq_true h]; rfl
theorem aSM {gs:List (List Int)} {i:Int} {k j:Nat} (hj:j < (nth gs k).length) (h:owB gs i k j=true):owK gs i k=true:=by
  unfold owK
  rw [Bool.or_eq_true]
  right
  rw [List.any_eq_true]
  exact ⟨j,List.mem_range.2 hj,h⟩
theorem aGo {gs:List (List Int)} {i:Int} (h: ∀ k,k < gs.length→(nth gs k).length≠0∧ ∀ j,j < (nth gs k).length→owB gs i k j=false):owX gs i=false:=by
  unfold owX
  rw [List.any_eq_false]
  intro k hk
  obtain ⟨h1,h2⟩:=h k (List.mem_range.1 hk)
  unfold owK
  rw [decide_eq_false h1,Bool.false_or,Bool.not_eq_true,List.any_eq_false]
  intro j hj
  rw [h2 j (List.mem_range.1 hj)]; decide
theorem aHL {gs:List (List Int)} {i:Int} (h:owX gs i=false) {k:Nat} (hk:k < gs.length):(nth gs k).length≠0∧ ∀ j,j < (nth gs k).length→owB gs i k j=false:=by
  unfold owX at h
  rw [List.any_eq_false] at h
  have:=h k (List.mem_range.2 hk)
  unfold owK at this
  rw [Bool.not_eq_true,Bool.or_eq_false_iff,List.any_eq_false] at this
  refine ⟨of_decide_eq_false this.1,fun j hj=>?_⟩
  have:=this.2 j (List.mem_range.2 hj)
  rwa [Bool.not_eq_true] at this
theorem aMO {gs:List (List Int)} {k:Nat}:owJ gs k 0=owE gs k:=by simp [owJ,owR]
theorem aIt {gs:List (List Int)} {k j:Nat} (hj:j < (nth gs k).length):owJ gs k j++[(nth (nth gs k) j,((k:Nat):Int))]=owJ gs k (j+1):=by
  unfold owJ owR
  rw [cD hj,List.map_append,List.append_assoc]; rfl
theorem aD0 {gs:List (List Int)} {k j:Nat} (hj:(nth gs k).length≤j):owJ gs k j=owE gs (k+1):=by
  unfold owJ
  rw [owE]
  unfold owR
  rw [List.take_of_length_le hj,List.take_of_length_le (Nat.le_refl _)]
theorem aFa {gs:List (List Int)}: ∀ {k:Nat},k≤gs.length→(owE gs k).length=(gs.take k).flatten.length
  |0,_=>rfl
  | k + 1, hk => by
    rw [owE,List.length_append,aFa (by omega),cD (by omega),List.flatten_append,List.length_append]
    unfold owR
    simp
theorem lJ {gs:List (List Int)}: ∀ {k:Nat},k≤gs.length→(owE gs k).map (·.1)=(gs.take k).flatten
  |0,_=>rfl
  | k + 1, hk => by
    rw [owE,List.map_append,lJ (by omega),cD (by omega),List.flatten_append]
    unfold owR
    rw [List.take_length,List.map_map]
    simp [Function.comp_def]
theorem nV {l:List (Int×Int)} {k:Int}:inI l k=true↔k∈l.map (·.1):=by
  unfold inI
  rw [List.any_eq_true,List.mem_map]
  constructor
  · rintro ⟨p,hp,h⟩; exact ⟨p,hp,(of_decide_eq_true h).symm⟩
  · rintro ⟨p,hp,h⟩; exact ⟨p,hp,decide_eq_true h.symm⟩
theorem aHB {gs : List (List Int)} {a : Int} : ∀ {k : Nat}, k ≤ gs.length → inI (owE gs k) a = true → lkI (owE gs k) a = gpI gs a
  |0,_,h=>by cases h
  | k + 1, hk, h => by
    by_cases q:inI (owE gs k) a=true
    · rw [← aHB (by omega) q]
      unfold lkI
      rw [owE,List.find?_append]
      cases hf:(owE gs k).find? fun p=>decide (a=p.1) with
      |some p=>rfl
      | none =>
        rw [List.find?_eq_none] at hf
        unfold inI at q
        rw [List.any_eq_true] at q
        obtain ⟨p,hp,z⟩:=q
        exact absurd z (hf p hp)
    · have q0:(owE gs k).find? (fun p=>decide (a=p.1))=none:=by
        rw [List.find?_eq_none]
        intro p hp z
        exact q (by unfold inI; rw [List.any_eq_true]; exact ⟨p,hp,z⟩)
      have ha:a∈nth gs k:=by
        rw [nV,lJ hk,cD (by omega),List.flatten_append,List.mem_append] at h
        rcases h with h|h
        · exact absurd (nV.2 (by rw [lJ (by omega)]; exact h)) q
        · simpa using h
      have hn: ∀ j,j < k→a∉nth gs j:=fun j hj hm=>q (nV.2 (by
        rw [lJ (by omega)]
        exact List.mem_flatten.2 ⟨nth gs j,by
          rw [List.mem_take_iff_getElem]
          refine ⟨j,by omega,?_⟩
          unfold nth; rw [List.getD_eq_getElem?_getD,List.getElem?_eq_getElem (by omega)]; rfl,hm⟩))
      have e1:gpI gs a=((k:Nat):Int):=by
        have h0:0≤gpI gs a:=kZ (p:=fun i=>decide (a∈nth gs i)) (Nat.zero_le _) (show k < 0+gs.length by omega) (decide_eq_true ha)
        obtain ⟨j,j1,_,j3,j4,j5⟩:=iI h0
        unfold gpI
        rw [j1]
        have: ¬j < k:=fun z=>hn j z (of_decide_eq_true j4)
        have: ¬k < j:=fun z=>by have:=j5 k (Nat.zero_le _) z; simp [ha] at this
        omega
      rw [e1]
      unfold lkI
      rw [owE,List.find?_append,q0]
      unfold owR
      rw [List.take_length]
      cases hf:((nth gs k).map fun a=>(a,((k:Nat):Int))).find? fun p=>decide (a=p.1) with
      | none =>
        rw [List.find?_eq_none] at hf
        exact absurd (decide_eq_true rfl) (hf (a,((k:Nat):Int)) (List.mem_map.2 ⟨a,ha,rfl⟩))
      | some p =>
        have:=List.mem_of_find?_eq_some hf
        obtain ⟨b,_,rfl⟩:=List.mem_map.1 this
        rfl
theorem aIv {gs : List (List Int)} {i : Int} (hi : 0 ≤ i) : (owX gs i = false ∧ ((owE gs gs.length).length : Int) = i) ↔ gsP gs i := by
  rw [← aMs hi,aFa (Nat.le_refl _),List.take_length]
  refine and_congr_left fun _=>?_
  constructor
  · intro h
    have key: ∀ k,k≤gs.length→(gs.take k).flatten.Nodup∧ ∀ a∈(gs.take k).flatten,0≤a∧a < i:=by
      intro k
      induction k with
      |zero=>intro _; exact ⟨List.nodup_nil,fun a ha=>by cases ha⟩
      | succ k ih =>
        intro hk
        have hk':k < gs.length:=by omega
        obtain ⟨_,g2⟩:=aHL h hk'
        have gj : ∀ j, j ≤ (nth gs k).length → ((gs.take k).flatten ++ (nth gs k).take j).Nodup ∧ ∀ a ∈ (gs.take k).flatten ++ (nth gs k).take j, 0 ≤ a ∧ a < i := by
          intro j
          induction j with
          |zero=>intro _; simpa using ih (by omega)
          | succ j ihj =>
            intro hj
            obtain ⟨p1,p2⟩:=ihj (by omega)
            have b:=g2 j (by omega)
            unfold owB at b
            rw [Bool.or_eq_false_iff,Bool.or_eq_false_iff] at b
            obtain ⟨⟨b1,b2⟩,b3⟩:=b
            have n1:nth (nth gs k) j∉(gs.take k).flatten++(nth gs k).take j:=fun z=>by
              have:inI (owJ gs k j) (nth (nth gs k) j)=true:=nV.2 (by
                unfold owJ owR
                rw [List.map_append,lJ (by omega),List.map_map]
                simpa [Function.comp_def] using z)
              rw [b1] at this; cases this
            rw [cD (by omega),← List.append_assoc]
            refine ⟨List.nodup_append.2 ⟨p1,by simp,fun a ha b hb e=>?_⟩,fun a ha=>?_⟩
            · rw [List.mem_singleton] at hb; subst hb; subst e; exact n1 ha
            · rcases List.mem_append.1 ha with ha|ha
              · exact p2 a ha
              · rw [List.mem_singleton] at ha; subst ha
                have:=of_decide_eq_false b2
                have:=of_decide_eq_false b3
                omega
        have:=gj _ (Nat.le_refl _)
        rw [List.take_length] at this
        rw [cD hk',List.flatten_append]
        simpa using this
    have:=key gs.length (Nat.le_refl _)
    rw [List.take_length] at this
    exact ⟨fun k hk e=>(aHL h hk).1 (by rw [e]; rfl),this.1,this.2⟩
  · rintro ⟨h1,h2,h3⟩
    refine aGo fun k hk=>⟨fun e=>h1 k hk (List.eq_nil_of_length_eq_zero e),fun j hj=>?_⟩
    have hm:nth (nth gs k) j∈gs.flatten:=List.mem_flatten.2 ⟨nth gs k,aY hk,aY hj⟩
    have hr:=h3 _ hm
    unfold owB
    rw [decide_eq_false (by omega),decide_eq_false (by omega),Bool.or_false,Bool.or_false]
    rw [Bool.eq_false_iff]
    intro z
    have z1:=nV.1 z
    unfold owJ owR at z1
    rw [List.map_append,lJ (by omega),List.map_map] at z1
    have z2:nth (nth gs k) j∈(gs.take k).flatten++(nth gs k).take j:=by simpa [Function.comp_def] using z1
    have e:gs.flatten=((gs.take k).flatten++(nth gs k).take j)++(nth (nth gs k) j::((nth gs k).drop (j+1)++(gs.drop (k+1)).flatten)):=by
      have e1:gs=gs.take k++nth gs k::gs.drop (k+1):=by
        have:=List.take_append_drop k gs
        rw [List.drop_eq_getElem_cons hk] at this
        have e3:gs[k]=nth gs k:=by unfold nth; rw [List.getD_eq_getElem?_getD,List.getElem?_eq_getElem hk]; rfl
        rw [e3] at this; exact this.symm
      have e2:nth gs k=(nth gs k).take j++nth (nth gs k) j::(nth gs k).drop (j+1):=by
        have:=List.take_append_drop j (nth gs k)
        rw [List.drop_eq_getElem_cons hj] at this
        have e3:(nth gs k)[j]=nth (nth gs k) j:=by
          generalize nth gs k=g at hj ⊢
          unfold nth; rw [List.getD_eq_getElem?_getD,List.getElem?_eq_getElem hj]; rfl
        rw [e3] at this; exact this.symm
      calc gs.flatten=(gs.take k++nth gs k::gs.drop (k+1)).flatten:=congrArg List.flatten e1
        _=(gs.take k).flatten++(nth gs k++(gs.drop (k+1)).flatten):=by rw [List.flatten_append,List.flatten_cons]
        _=(gs.take k).flatten++(((nth gs k).take j++nth (nth gs k) j::(nth gs k).drop (j+1))++(gs.drop (k+1)).flatten):=by rw [← e2]
        _=_:=by simp [List.append_assoc]
    rw [e] at h2
    exact (List.nodup_append.1 h2).2.2 _ z2 _ (List.mem_cons_self ..) rfl
end Go.Proofs.YtmnnhjhkaepbaaaGreat
namespace Go.Proofs.YtmnnhjhkaepbaaaGreat
open Go
abbrev Sit:=List Int×List Int
def dU (m:M) (x:List Int) (a g:Nat):List Int:=
  (x.set 0 (nth (nth m.nx (nth x 0).toNat) a)).set (g+1) (nth (nth m.nx (nth (x.set 0 (nth (nth m.nx (nth x 0).toNat) a)) (g+1)).toNat) a)
def gpN (gs:List (List Int)) (a:Nat):Nat:=(gpI gs (a:Int)).toNat
def jE (m:M) (gs:List (List Int)) (x:Sit) (a:Nat):Sit:=(dU m x.1 a (gpN gs a),x.2++[(a:Int)])
def aDO (m:M) (gs:List (List Int)) (x:List Int) (a:Nat):Bool:=decide (nth (nth m.ot (nth x 0).toNat) a≠nth (nth m.ot (nth x (gpN gs a+1)).toNat) a)
def iF (l:List Sit) (x:List Int):Bool:=l.any fun z=>decide (z.1=x)
def adS (l:List Sit) (y:Sit):List Sit:=if iF l y.1=true then l else l++[y]
def isR (m:M) (gs:List (List Int)) (x:Sit):Nat→Nat→List Sit→List Int ⊕ List Sit
  |0,_,l=>.inr l
  |n+1,a,l=>if aDO m gs x.1 a=true then .inl (jE m gs x a).2 else isR m gs x n (a+1) (adS l (jE m gs x a))
def isL (m : M) (gs : List (List Int)) : Nat → Nat → List Sit → List Int × Bool × Int
  |0,_,_=>([],false,11)
  | n + 1, i, l => if i < l.length then if 4096 ≤ i then ([], false, 11) else match isR m gs (nth l i) m.i.toNat 0 l with
      | .inl w=>(w,true,0)
      | .inr l'=>isL m gs n (i+1) l'
    else ([],false,0)
def is0 (m:M) (gs:List (List Int)):List Sit:=[(List.replicate (gs.length+1) m.s,[])]
def gsD (gs:List (List Int)) (i:Int):Bool:= !owX gs i&&decide (((owE gs gs.length).length:Int)=i)
def isD (m:M) (gs:List (List Int)):List Int×Bool×Int:=if bD m≠0 then ([],false,bD m) else if gsD gs m.i=true then isL m gs 4097 0 (is0 m gs) else ([],false,1)
section
variable {m:M} {gs:List (List Int)} {x:Sit} {l:List Sit} {i j:Nat}
theorem aLy (hi:0≤m.i):gsD gs m.i=true↔gsP gs m.i:=by
  rw [← aIv hi]
  unfold gsD
  rw [Bool.and_eq_true,decide_eq_true_eq,Bool.not_eq_true']
theorem aEA (h: ¬i < l.length) (hi:i≤4096):isL m gs (4097 - i) i l=([],false,0):=by
  obtain ⟨n,hn⟩: ∃ n,4097 - i=n+1:=⟨4096 - i,by omega⟩
  rw [hn,isL,if_neg h]
theorem aEV (h:i < l.length) (hi:i=4096):isL m gs (4097 - i) i l=([],false,11):=by
  subst hi
  rw [show 4097 - 4096=0+1 from rfl,isL,if_pos h,if_pos (Nat.le_refl _)]
theorem aFi {w:List Int} (h:i < l.length) (hi:i < 4096) (hr:isR m gs (nth l i) m.i.toNat 0 l=.inl w):isL m gs (4097 - i) i l=(w,true,0):=by
  obtain ⟨n,hn⟩: ∃ n,4097 - i=n+1:=⟨4096 - i,by omega⟩
  rw [hn,isL,if_pos h,if_neg (by omega),hr]
theorem aHf {l':List Sit} (h:i < l.length) (hi:i < 4096) (hr:isR m gs (nth l i) m.i.toNat 0 l=.inr l'):isL m gs (4097 - i) i l=isL m gs (4097 - (i+1)) (i+1) l':=by
  obtain ⟨n,hn⟩: ∃ n,4097 - i=n+1:=⟨4096 - i,by omega⟩
  rw [hn,isL,if_pos h,if_neg (by omega),hr,show 4097 - (i+1)=n by omega]
theorem aEc (hj:j < m.i.toNat) (h:aDO m gs x.1 j=true):isR m gs x (m.i.toNat - j) j l=.inl (jE m gs x j).2:=by
  obtain ⟨n,hn⟩: ∃ n,m.i.toNat - j=n+1:=⟨m.i.toNat - j - 1,by omega⟩
  rw [hn,isR,if_pos h]
theorem nA (hj:j < m.i.toNat) (h:aDO m gs x.1 j=false):isR m gs x (m.i.toNat - j) j l=isR m gs x (m.i.toNat - (j+1)) (j+1) (adS l (jE m gs x j)):=by
  obtain ⟨n,hn⟩: ∃ n,m.i.toNat - j=n+1:=⟨m.i.toNat - j - 1,by omega⟩
  rw [hn,isR,if_neg (by rw [h]; decide),show m.i.toNat - (j+1)=n by omega]
theorem aEa (hj: ¬j < m.i.toNat):isR m gs x (m.i.toNat - j) j l=.inr l:=by
  rw [show m.i.toNat - j=0 by omega,isR]
def SpO (m:M) (gs:List (List Int)) (x:List Int):Prop:=x.length=gs.length+1∧ ∀ k,k < gs.length+1→0≤nth x k∧nth x k < m.nx.length
def SpI (m:M) (gs:List (List Int)) (l:List Sit):Prop:= ∀ p,p < l.length→SpO m gs (nth l p).1∧(nth l p).2.length≤p
theorem aIq (hm:bD m=0):SpI m gs (is0 m gs):=by
  have mo:=bT hm
  intro p hp
  have:p=0:=by unfold is0 at hp; simpa using hp
  subst this
  refine ⟨⟨List.length_replicate ..,fun k hk=>?_⟩,Nat.le_refl _⟩
  have:nth (List.replicate (gs.length+1) m.s) k=m.s:=by
    unfold nth; rw [List.getD_eq_getElem?_getD,List.getElem?_replicate,if_pos hk]; rfl
  show 0≤nth (List.replicate (gs.length+1) m.s) k∧nth (List.replicate (gs.length+1) m.s) k < m.nx.length
  rw [this]
  exact ⟨by omega,by omega⟩
theorem SpI.add (h:SpI m gs l) {y:Sit} (h1:SpO m gs y.1) (h2:y.2.length≤l.length):SpI m gs (l++[y]):=by
  intro p hp
  rw [List.length_append] at hp
  by_cases e:p < l.length
  · rw [bQ e]; exact h p e
  · have e1:p=l.length+0:=by simp only [List.length_cons,List.length_nil] at hp; omega
    have e2:=fN (l:=l) (m:=[y]) (j:=0)
    rw [e1,e2]
    exact ⟨h1,h2⟩
theorem aLX (hm:bD m=0) {x:List Int} {a g:Nat} (hx:SpO m gs x) (ha:a < m.i.toNat) (hg:g < gs.length):SpO m gs (dU m x a g):=by
  have mo:=bT hm
  have st: ∀ {y:List Int},SpO m gs y→ ∀ q k,q < gs.length+1→k < gs.length+1→SpO m gs (y.set k (nth (nth m.nx (nth y q).toNat) a)):=by
    intro y hy q k hq hk
    have r:=hy.2 q hq
    have rr:=(mo.2.2.2.2.2.2.2 (nth y q).toNat (by omega)).2.2 a (by omega)
    refine ⟨by rw [List.length_set]; exact hy.1,fun i hi=>?_⟩
    rw [fZ (by rw [hy.1]; exact hk)]
    split
    · exact ⟨rr.1,rr.2.1⟩
    · exact hy.2 i hi
  exact st (st hx 0 0 (by omega) (by omega)) (g+1) (g+1) (by omega) (by omega)
def kyS (x:List Int):List UInt8:=x.map fun v=>UInt8.ofNat v.toNat
theorem aLe {x y : List Int} : ∀ (_ : ∀ v ∈ x, 0 ≤ v ∧ v < 256) (_ : ∀ v ∈ y, 0 ≤ v ∧ v < 256), kyS x = kyS y → x = y := by
  induction x generalizing y with
  | nil => intro _ _ h; cases y with
    |nil=>rfl
    |cons b y=>cases h
  | cons a x ih =>
    intro h1 h2 h
    cases y with
    |nil=>cases h
    | cons b y =>
      simp only [kyS,List.map_cons,List.cons.injEq] at h
      have ra:=h1 a (List.mem_cons_self ..)
      have rb:=h2 b (List.mem_cons_self ..)
      have e:a.toNat=b.toNat:=by
        have:=congrArg UInt8.toNat h.1
        rw [UInt8.toNat_ofNat',UInt8.toNat_ofNat',Nat.mod_eq_of_lt (by omega),Nat.mod_eq_of_lt (by omega)] at this
        exact this
      rw [ih (fun v hv=>h1 v (List.mem_cons_of_mem _ hv)) (fun v hv=>h2 v (List.mem_cons_of_mem _ hv)) h.2,show a=b by omega]
theorem SpO.byte (hm:bD m=0) {x:List Int} (h:SpO m gs x): ∀ v∈x,0≤v∧v < 256:=by
  have mo:=bT hm
  intro v hv
  obtain ⟨k,hk,rfl⟩:=iY hv
  have:=h.2 k (by rw [← h.1]; exact hk)
  omega
def snE (l:List Sit):List (List UInt8×V):=l.map fun z=>(kyS z.1,.bool true)
theorem aDT (hm:bD m=0) (hl:SpI m gs l) {y:List Int} (hy:SpO m gs y):(iF l y=false→((snE l).find? fun p=>decide (p.1=kyS y))=none)∧(iF l y=true→ ∃ s,((snE l).find? fun p=>decide (p.1=kyS y))=some (s,.bool true)):=by
  have key: ∀ z∈l,(kyS z.1=kyS y↔z.1=y):=fun z hz=>⟨fun e=>by
    obtain ⟨p,hp,rfl⟩:=iY hz
    exact aLe ((hl p hp).1.byte hm) (hy.byte hm) e,fun e=>by rw [e]⟩
  constructor
  · intro h
    rw [List.find?_eq_none]
    intro p hp
    obtain ⟨z,hz,rfl⟩:=List.mem_map.1 hp
    unfold iF at h
    rw [List.any_eq_false] at h
    have:=h z hz
    rw [decide_eq_true_eq] at this ⊢
    exact fun e=>this ((key z hz).1 e)
  · intro h
    cases hf:(snE l).find? fun p=>decide (p.1=kyS y) with
    | some p =>
      obtain ⟨z,_,rfl⟩:=List.mem_map.1 (List.mem_of_find?_eq_some hf)
      exact ⟨_,rfl⟩
    | none =>
      rw [List.find?_eq_none] at hf
      unfold iF at h
      rw [List.any_eq_true] at h
      obtain ⟨z,hz,e⟩:=h
      have:=hf (kyS z.1,.bool true) (List.mem_map.2 ⟨z,hz,rfl⟩)
      rw [decide_eq_true_eq] at this e
      exact absurd ((key z hz).2 e) this
theorem aLi {ver:Nat} (hm:bD m=0) (hl:SpI m gs l) {y:List Int} (hy:SpO m gs y):iD ⟨ver,true,true,cA,2,gZ (snE l)⟩ ver 0 (.bool false) (.str (kyS y))=some (.bool (iF l y),iF l y):=by
  obtain ⟨h1,h2⟩:=aDT hm hl hy
  cases h:iF l y with
  |false=>rw [aC1 (h1 h)]
  |true=>obtain ⟨s,hs⟩:=h2 h; rw [aDp hs]
theorem aRw {ver:Nat} (hm:bD m=0) (hl:SpI m gs l) {y:Sit} (hy:SpO m gs y.1) (h:iF l y.1=false):lX ⟨ver,true,true,cA,2,gZ (snE l)⟩ ver 0 (.str (kyS y.1)) (.bool true)=some ⟨ver,true,true,cA,2,gZ (snE (l++[y]))⟩:=by
  rw [aB8 ((aDT hm hl hy).1 h)]
  unfold snE
  rw [List.map_append]; rfl
end
def rsN (m:M) (ins:List Int) (s j:Nat):Int:=nth (nth m.nx s) (nth ins j).toNat
def rsO (m:M) (ins:List Int) (s j:Nat):Int:=nth (nth m.ot s) (nth ins j).toNat
def rsM (m:M) (ins:List Int):M:=⟨(ins.length:Nat),m.s,tbl (fun s=>tbl (rsN m ins s) ins.length) m.nx.length,tbl (fun s=>tbl (rsO m ins s) ins.length) m.nx.length⟩
def rsV (m:M) (ins:List Int):Prop:=ins≠[]∧ins.Nodup∧ ∀ j,j < ins.length→0≤nth ins j∧nth ins j < m.i
theorem aAn {m:M} {ins:List Int} (hm:bD m=0) (h:rsV m ins):ins.length≤64∧0 < ins.length:=by
  have mo:=bT hm
  have:=aE6 (A:=ins) (B:=rgI m.i.toNat) h.2.1 fun x hx=>by
    obtain ⟨j,hj,rfl⟩:=iY hx
    have:=h.2.2 j hj
    exact vW.2 ⟨this.1,by omega⟩
  rw [aDL] at this
  exact ⟨by omega,List.length_pos_iff.2 h.1⟩
theorem aAR {m:M} {ins:List Int} (hm:bD m=0) (h:rsV m ins):bD (rsM m ins)=0:=by
  have mo:=bT hm
  have hl:=aAn hm h
  obtain ⟨h1,h2,h3,h4,h5,h6,h7,h8⟩:=mo
  have e1:(rsM m ins).i=(ins.length:Nat):=rfl
  have e2:(rsM m ins).nx.length=m.nx.length:=aP _ _
  have e3:(rsM m ins).s=m.s:=rfl
  have e4:(rsM m ins).ot.length=m.nx.length:=aP _ _
  unfold bD
  rw [e1,e2,e3,e4]
  rw [if_neg (by omega),if_neg (by omega),if_neg (by omega),if_neg (by omega),if_neg (by omega)]
  refine fF.2 fun s _ hs=>?_
  obtain ⟨g1,g2,g3⟩:=h8 s (by omega)
  have e5:nth (rsM m ins).nx s=tbl (rsN m ins s) ins.length:=bO (by omega)
  have e6:nth (rsM m ins).ot s=tbl (rsO m ins s) ins.length:=bO (by omega)
  unfold nX
  rw [e1,e5,e6,aP,aP]
  rw [if_neg (by omega)]
  refine fF.2 fun a _ ha=>?_
  have ra:=h.2.2 a (by omega)
  have g:=g3 (nth ins a).toNat (by omega)
  have e7:nth (tbl (rsN m ins s) ins.length) a=rsN m ins s a:=bO (by omega)
  have e8:nth (tbl (rsO m ins s) ins.length) a=rsO m ins s a:=bO (by omega)
  unfold tL
  rw [e2,e5,e6,e7,e8]
  have e9:rsN m ins s a=nth (nth m.nx s) (nth ins a).toNat:=rfl
  have e10:rsO m ins s a=nth (nth m.ot s) (nth ins a).toNat:=rfl
  rw [if_neg (by omega)]
theorem aD8 {m:M} {gs:List (List Int)} (hm:bD m=0) (h:gsP gs m.i) {k:Nat} (hk:k < gs.length):rsV m (nth gs k):=by
  have mo:=bT hm
  obtain ⟨⟨h1,h2,h3⟩,_⟩:=(aMs (by omega)).2 h
  refine ⟨h1 k hk,?_,fun j hj=>h3 _ (List.mem_flatten.2 ⟨nth gs k,aY hk,aY hj⟩)⟩
  have hs:(nth gs k).Sublist gs.flatten:=List.sublist_flatten_of_mem (aY hk)
  exact hs.nodup h2
def fcM (m:M) (gs:List (List Int)) (k:Nat):M:=mnR (trR (rsM m (nth gs k)))
def fcE (m:M) (gs:List (List Int)):Int:=if (isD m gs).2.2≠0 then (isD m gs).2.2 else if (isD m gs).2.1=true then 15 else 0
def fcL (m:M) (gs:List (List Int)):List M:=if fcE m gs=0 then tbl (fcM m gs) gs.length else []
theorem aMr {m:M} {gs:List (List Int)} (h:(isD m gs).2.2=0):bD m=0∧gsP gs m.i:=by
  unfold isD at h
  by_cases q:bD m≠0
  · rw [if_pos q] at h; exact absurd h q
  · rw [if_neg q] at h
    have hm:bD m=0:=by omega
    have mo:=bT hm
    by_cases z:gsD gs m.i=true
    · exact ⟨hm,(aLy (by omega)).1 z⟩
    · rw [if_neg z] at h; cases h
end Go.Proofs.YtmnnhjhkaepbaaaGreat
namespace Go.Proofs.YtmnnhjhkaepbaaaGreat
open Go
theorem aDP {l:List Int} {t:Int} {k:Nat} (hk:k < l.length) (h:nth l k=t) (hn: ∀ q,q < k→nth l q≠t):idL l t=((k:Nat):Int):=by
  have h0:0≤idL l t:=kZ (p:=fun j=>decide (nth l j=t)) (Nat.zero_le _) (show k < 0+l.length by omega) (decide_eq_true h)
  obtain ⟨j,j1,_,j3,j4,j5⟩:=iI h0
  unfold idL
  rw [j1]
  have a1: ¬j < k:=fun z=>hn j z (of_decide_eq_true j4)
  have a2: ¬k < j:=fun z=>by have:=j5 k (Nat.zero_le _) z; simp [h] at this
  omega
theorem aD3 {A B:List Int} {t:Int} (h:t∈A):idL (A++B) t=idL A t:=by
  obtain ⟨h1,h2,h3⟩:=rW h
  obtain ⟨j,j1,_,j3,j4,j5⟩:=iI (p:=fun j=>decide (nth A j=t)) (k:=0) (n:=A.length) h1
  have e:idL A t=((j:Nat):Int):=j1
  rw [e]
  refine aDP (by rw [List.length_append]; omega) (by rw [bQ (by omega)]; exact of_decide_eq_true j4) fun q hq=>?_
  rw [bQ (by omega)]
  exact of_decide_eq_false (j5 q (Nat.zero_le _) hq)
theorem aJW {A:List Int} {t:Int} (h:t∉A):idL (A++[t]) t=((A.length:Nat):Int):=by
  have e2:=fN (l:=A) (m:=[t]) (j:=0)
  refine aDP (by rw [List.length_append]; simp) (by rw [Nat.add_zero] at e2; rw [e2]; rfl) fun q hq=>?_
  rw [bQ hq]
  exact fun e=>h (e ▸ aY hq)
def BLI (R:M) (i:Nat) (P:RS):Prop:=i≤P.1.length∧RI R.nx.length P∧gR R R.nx.length 0 (kI R)=gR R (R.nx.length - i) i P
def BQI (R:M) (i j:Nat) (P Q:RS):Prop:=Q=((nth R.nx (nth P.1 i).toNat).take j).foldl fH P∧RI R.nx.length Q∧nth Q.1 i=nth P.1 i∧P.1.length≤Q.1.length
section
variable {R:M} {i j:Nat} {P Q:RS}
theorem aUf (hm:bD R=0):BLI R 0 (kI R):=⟨Nat.zero_le _,vI hm,rfl⟩
theorem aUu (h:BLI R i P):BQI R i 0 P P:=⟨rfl,h.2.1,rfl,Nat.le_refl _⟩
theorem aCY (hm:bD R=0):rch R=(gR R R.nx.length 0 (kI R)).1:=by unfold rch; rw [if_neg (by omega)]
theorem BQI.step (hm:bD R=0) (hP:BLI R i P) (hi:i < P.1.length) (h:BQI R i j P Q) (hj:(j:Int) < R.i):
    let t:=nth (nth R.nx (nth Q.1 i).toNat) j
    (0≤t∧t < R.nx.length)∧Q.1.length≤R.nx.length∧nth (nth R.ot (nth Q.1 i).toNat) j=fS R i j∧
    (t∈Q.1→BQI R i (j+1) P Q∧idL Q.1 t=dJ R i j)∧
    (t∉Q.1→BQI R i (j+1) P (fH Q t)∧(fH Q t).1=Q.1++[t]∧((Q.1.length:Nat):Int)=dJ R i j∧Q.1.length+1≤R.nx.length):=by
  intro t
  have mo:=bT hm
  obtain ⟨q1,q2,q3,q4⟩:=h
  obtain ⟨p1,p2,p3⟩:=hP
  have r0:=p2.rng _ (aY hi)
  have rr:=mo.2.2.2.2.2.2.2 (nth P.1 i).toNat (by omega)
  have e0:t=nth (nth R.nx (nth P.1 i).toNat) j:=by show nth (nth R.nx (nth Q.1 i).toNat) j=_; rw [q3]
  have tr:0≤t∧t < R.nx.length:=by rw [e0]; have z:=rr.2.2 j hj; omega
  have st:((nth R.nx (nth P.1 i).toNat).take (j+1)).foldl fH P=fH Q t:=by
    rw [kO (by omega),← q1,← e0]
  obtain ⟨y,hy⟩: ∃ y,rch R=(fH Q t).1++y:=by
    have g:rch R=(gR R (R.nx.length - (i+1)) (i+1) (gS R P i)).1:=by
      rw [aCY hm,p3,aBa hi (by have:=p2.len; omega)]
    obtain ⟨y1,h1⟩:=uI R (R.nx.length - (i+1)) (i+1) (gS R P i)
    obtain ⟨y2,h2⟩: ∃ y2,(gS R P i).1=(fH Q t).1++y2:=by
      unfold gS
      rw [← List.take_append_drop (j+1) (nth R.nx (nth P.1 i).toNat),List.foldl_append,st]
      exact gN _ _
    exact ⟨y2++y1,by rw [g,h1,h2,List.append_assoc]⟩
  obtain ⟨y0,hy0⟩: ∃ y0,rch R=P.1++y0:=by
    obtain ⟨y0,h0⟩:=uI R (R.nx.length - i) i P
    exact ⟨y0,by rw [aCY hm,p3,h0]⟩
  have ri:nth (rch R) i=nth P.1 i:=by rw [hy0,bQ hi]
  have s2:RI R.nx.length (fH Q t):=q2.step tr.1 tr.2
  have eN:dJ R i j=idL (rch R) t:=by unfold dJ; rw [ri,← e0]
  refine ⟨tr,q2.len,by unfold fS; rw [ri,q3],fun ht=>?_,fun ht=>?_⟩
  · have es:fH Q t=Q:=nN ((q2.mem t tr.1 tr.2).2 ht)
    refine ⟨⟨by rw [st,es],q2,q3,q4⟩,?_⟩
    rw [eN,hy,es,aD3 ht]
  · have es:fH Q t=(Q.1++[t],Q.2.set t.toNat true):=rB (by
      cases z:nth Q.2 t.toNat with
      |false=>rfl
      |true=>exact absurd ((q2.mem t tr.1 tr.2).1 z) ht)
    have e1:(fH Q t).1=Q.1++[t]:=by rw [es]
    have l2:=s2.len
    rw [e1,List.length_append] at l2
    refine ⟨⟨by rw [st],s2,by rw [e1,bQ (by omega)]; exact q3,by rw [e1,List.length_append]; omega⟩,e1,?_,l2⟩
    rw [eN,hy,e1,aD3 (by simp),aJW ht]
theorem BQI.fin (hm:bD R=0) (hP:BLI R i P) (hi:i < P.1.length) (h:BQI R i j P Q) (hj: ¬(j:Int) < R.i):BLI R (i+1) Q:=by
  have mo:=bT hm
  obtain ⟨q1,q2,q3,q4⟩:=h
  obtain ⟨p1,p2,p3⟩:=hP
  have r0:=p2.rng _ (aY hi)
  have rr:=mo.2.2.2.2.2.2.2 (nth P.1 i).toNat (by omega)
  have e:Q=gS R P i:=by rw [q1]; unfold gS; rw [List.take_of_length_le (by omega)]
  exact ⟨by omega,q2,by rw [p3,aBa hi (by have:=p2.len; omega),← e]⟩
theorem BLI.end (hm:bD R=0) (h:BLI R i P) (hi: ¬i < P.1.length):i=(rch R).length:=by
  obtain ⟨p1,p2,p3⟩:=h
  rw [aCY hm,p3,uK (by omega)]
  omega
end
theorem aTD {m:M} {ins:List Int} {s j:Nat} (hs:s < m.nx.length) (hj:j < ins.length):nth (nth (rsM m ins).nx s) j=rsN m ins s j:=by
  have e5:nth (rsM m ins).nx s=tbl (rsN m ins s) ins.length:=bO hs
  rw [e5]; exact bO hj
theorem aUF {m:M} {ins:List Int} {s j:Nat} (hs:s < m.nx.length) (hj:j < ins.length):nth (nth (rsM m ins).ot s) j=rsO m ins s j:=by
  have e5:nth (rsM m ins).ot s=tbl (rsO m ins s) ins.length:=bO hs
  rw [e5]; exact bO hj
theorem aNv {m:M} {ins:List Int}:(rsM m ins).nx.length=m.nx.length:=aP _ _
theorem sZ {l:List Int} {t:Int} (h: ∀ q,q < l.length→nth l q≠t):t∉l:=fun hm=>by
  obtain ⟨q,hq,e⟩:=iY hm
  exact h q hq e
end Go.Proofs.YtmnnhjhkaepbaaaGreat
namespace Go.Proofs.YtmnnhjhkaepbaaaGreat
open Go
section
variable {P:Program} {k0:Nat} {K:(Nat→V)→aI→Prop} {T:Nat→V} {H:aI} {r:List SO} {d:Nat} {a:SX}
theorem aKi {x:Int} (h0:0≤x) (h1:x < 256):IntKind.u8.wrap x=(((UInt8.ofNat x.toNat).toNat:Nat):Int):=by
  rw [UInt8.toNat_ofNat',Nat.mod_eq_of_lt (by omega)]
  simp [IntKind.wrap,IntKind.signed,IntKind.bits]
  omega
theorem aLh {x:Int} (ha:ev T a=iV x) (h0:0≤x) (h1:x < 256) (h:Ops P k0 r (upd T d (u8V (UInt8.ofNat x.toNat))) H K):Ops P k0 (⟨none,some d,.conv .u8 a⟩::r) T H K:=by
  refine stp (v:=u8V (UInt8.ofNat x.toNat)) (fun _=>rfl) ?_ h
  rw [ha]
  simp only [iV,xA]
  rw [aKi h0 h1]
theorem aBz: ∀ (l:List UInt8),mR (l.map bB)=some l
  |[]=>rfl
  | b :: l => by
    have e:UInt8.ofNat (((b.toNat:Nat):Int)).toNat=b:=by rw [Int.toNat_natCast,UInt8.ofNat_toNat]
    show (mR (l.map bB)).map (UInt8.ofNat (((b.toNat:Nat):Int)).toNat:: ·)=_
    rw [aBz l,e]; rfl
theorem aIP {l:List UInt8} (ha:ev T a=.sl (l.map bB)) (h:Ops P k0 r (upd T d (.str l)) H K):Ops P k0 (⟨none,some d,.bstr a⟩::r) T H K:=by
  refine stp (v:=.str l) (fun _=>rfl) ?_ h
  rw [ha]
  simp only [yI]
  rw [aBz]; rfl
end
def kyP (x:List Int) (k:Nat):List UInt8:=dA (fun j=>UInt8.ofNat (nth x j).toNat) 0 x.length k
theorem aKl {x:List Int} {k:Nat} (h:x.length≤k):kyP x k=kyS x:=by
  unfold kyP
  rw [kM h]
  refine eV (by rw [aP]; simp [kyS]) fun i hi=>?_
  rw [aP] at hi
  rw [bO hi]
  unfold kyS
  exact (eP (f:=fun v:Int=>UInt8.ofNat v.toNat) hi).symm
theorem aMp {gs:List (List Int)} {i:Int} (h:owX gs i=true):gsD gs i=false:=by unfold gsD; rw [h]; rfl
theorem aLY {gs:List (List Int)} {i:Int} (h: ¬(((owE gs gs.length).length:Nat):Int)=i):gsD gs i=false:=by unfold gsD; rw [decide_eq_false h,Bool.and_false]
theorem aVk {gs:List (List Int)} {i:Int} (h: ¬owX gs i=true) (h2:(((owE gs gs.length).length:Nat):Int)=i):gsD gs i=true:=by
  unfold gsD
  rw [decide_eq_true h2,Bool.and_true]
  simpa using h
theorem aBE {gs:List (List Int)} {i:Int} (hi:0≤i):gsD gs i=true↔gsP gs i:=by
  rw [← aIv hi]
  unfold gsD
  rw [Bool.and_eq_true,decide_eq_true_eq,Bool.not_eq_true']
theorem aPP {gs:List (List Int)} {i:Int} {k:Nat} (hk:k < gs.length) (h:(nth gs k).length=0∨i < (nth gs k).length∨i < (gs.take k).flatten.length): ¬gsP gs i:=by
  rintro ⟨h1,h2,_⟩
  have e:gs=gs.take k++nth gs k::gs.drop (k+1):=by
    have:=List.take_append_drop k gs
    rw [List.drop_eq_getElem_cons hk] at this
    have e3:gs[k]=nth gs k:=by unfold nth; rw [List.getD_eq_getElem?_getD,List.getElem?_eq_getElem hk]; rfl
    rw [e3] at this; exact this.symm
  have hl:gs.flatten.length=(gs.take k).flatten.length+((nth gs k).length+(gs.drop (k+1)).flatten.length):=by
    conv=>lhs; rw [e]
    rw [List.flatten_append,List.length_append,List.flatten_cons,List.length_append]
  rcases h with h|h|h
  · exact h1 k hk (List.eq_nil_of_length_eq_zero h)
  · omega
  · omega
theorem aU6 {gs:List (List Int)} {i:Int} (h1: ∀ k,k < gs.length→(nth gs k).length≠0) (h2:(gs.flatten.length:Int)=i) (h3: ∀ a:Nat,(a:Int) < i→0≤gpI gs a):gsP gs i:=
  ⟨fun k hk e=>h1 k hk (by rw [e]; rfl),h2,fun a a0 a1=>by have:=h3 a.toNat (by omega); rwa [Int.toNat_of_nonneg a0] at this⟩
theorem aCG {gs:List (List Int)} {k:Nat} (hk:k < gs.length):(gs.take (k+1)).flatten.length=(gs.take k).flatten.length+(nth gs k).length:=by
  rw [cD hk,List.flatten_append,List.length_append]; simp
theorem aAs {m:M} {gs:List (List Int)} (hi:0≤m.i) (h:gsD gs m.i=true) {a:Nat} (ha:a < m.i.toNat):lkI (owE gs gs.length) (a:Int)=gpI gs (a:Int)∧0≤gpI gs (a:Int)∧gpN gs a < gs.length∧gpI gs (a:Int)=((gpN gs a:Nat):Int):=by
  have hp:=(aBE hi).1 h
  have h0:=hp.2.2 (a:Int) (by omega) (by omega)
  have hin:inI (owE gs gs.length) (a:Int)=true:=nV.2 (by rw [lJ (Nat.le_refl _),List.take_length]; exact aC0.1 h0)
  obtain ⟨j,j1,_,j3,_⟩:=iI (p:=fun i=>decide ((a:Int)∈nth gs i)) (k:=0) (n:=gs.length) h0
  have e:gpI gs (a:Int)=((j:Nat):Int):=j1
  exact ⟨aHB (Nat.le_refl _) hin,h0,by unfold gpN; rw [e]; omega,by unfold gpN; rw [e]; omega⟩
theorem aG1 {m:M} {gs:List (List Int)} {ver:Nat} (hi:0≤m.i) (h:gsD gs m.i=true) {a:Nat} (ha:a < m.i.toNat):iD ⟨ver,true,true,cA,2,eG (owE gs gs.length)⟩ ver 1 (iV 0) (iV (a:Int))=some (iV ((gpN gs a:Nat):Int),inI (owE gs gs.length) (a:Int)):=by
  obtain ⟨e1,_,_,e4⟩:=aAs hi h ha
  rw [aGL,e1,e4]
instance instIM:Inhabited M:=⟨zM⟩
abbrev cSi (p:Sit):List V:=[aG p.1,aG p.2]
theorem aAZ {l:List Sit} {y:Sit} (h:iF l y.1=true):adS l y=l:=if_pos h
theorem uL {l:List Sit} {y:Sit} (h:iF l y.1=false):adS l y=l++[y]:=if_neg (by rw [h]; decide)
theorem aQ8 {n k:Nat} {v:Int} (h:n≤k):dA (fun _=>v) 0 n k=List.replicate n v:=by
  rw [kM h]; unfold tbl; rw [List.map_const',List.length_range]
def iG (w:List Int) (a:Nat):List Int:=w++[((a:Nat):Int)]
abbrev nZ (s:Int):List V:=[iV s,iV 0]
theorem wW {R:M} (hm:bD R=0):trR R=trm R:=if_pos hm
theorem aFf {R:M} (hm:bD R=0):bD (trR R)=0:=by rw [wW hm]; exact uB hm
theorem aJn {l:List Int} {k:Nat} (hk:k < l.length) (h:l.Nodup):nth l k∉l.take k:=fun hm=>by
  obtain ⟨j,hj,e⟩:=iY hm
  rw [List.length_take] at hj
  have e1:nth (l.take k) j=nth l j:=by
    have:=List.take_append_drop k l
    conv=>rhs; rw [← this]
    rw [bQ (by rw [List.length_take]; omega)]
  rw [e1] at e
  have a:=(List.nodup_iff_pairwise_ne.1 h)
  have b:=List.pairwise_iff_getElem.1 a j k (by omega) hk (by omega)
  have c1:l[j]'(by omega)=nth l j:=by unfold nth; rw [List.getD_eq_getElem?_getD,List.getElem?_eq_getElem (by omega)]; rfl
  have c2:l[k]'hk=nth l k:=by unfold nth; rw [List.getD_eq_getElem?_getD,List.getElem?_eq_getElem hk]; rfl
  rw [c1,c2] at b
  exact b e
@[simp] theorem aSC {l:List M}:eT (l.map mC)=true:=fX _ _ fun a=>by simp [mC]
@[simp] theorem aQA {l:List Sit}:eT (l.map cSi)=true:=fX _ _ fun a=>by simp [cSi]
def tl1 (x:List Int):List Int:=x.drop 1
abbrev cSp (p:Sit):List V:=[iV (nth p.1 0),aG (tl1 p.1),aG p.2]
@[simp] theorem aSi {l : List Sit} : eT (l.map cSp) = true := fX _ _ fun a => by
  have h: ∀ l:List Int,eT (l.map cI)=true:=fun l=>by simp
  simp only [cSp,iV,dC,V.pure,h,Bool.and_self,Bool.and_true]
theorem nE {x:List Int} {g:Nat}:nth (tl1 x) g=nth x (g+1):=by
  unfold tl1 nth
  rw [List.getD_eq_getElem?_getD,List.getD_eq_getElem?_getD,List.getElem?_drop,Nat.add_comm]
theorem aFw {x:List Int} {g:Nat} {v:Int}:tl1 (x.set (g+1) v)=(tl1 x).set g v:=by
  cases x with
  |nil=>rfl
  |cons a x=>rfl
theorem aDE {x:List Int} {v:Int}:tl1 (x.set 0 v)=tl1 x:=by
  cases x with
  |nil=>rfl
  |cons a x=>rfl
theorem aIk {m:M} {x:List Int} {a g:Nat} (hx:0 < x.length):nth (dU m x a g) 0=nth (nth m.nx (nth x 0).toNat) a:=by
  unfold dU
  by_cases h:g+1 < x.length
  · rw [fZ (by rw [List.length_set]; exact h),if_neg (by omega),fZ hx,if_pos rfl]
  · rw [List.set_eq_of_length_le (by rw [List.length_set]; omega),fZ hx,if_pos rfl]
theorem yT {m:M} {x:List Int} {a g:Nat} (hx:0 < x.length):tl1 (dU m x a g)=(tl1 x).set g (nth (nth m.nx (nth (tl1 x) g).toNat) a):=by
  unfold dU
  rw [aFw,aDE,nE]
  have:nth (x.set 0 (nth (nth m.nx (nth x 0).toNat) a)) (g+1)=nth x (g+1):=by rw [fZ hx,if_neg (by omega)]
  rw [this]
theorem aVG {x y : List Int} (hx : 0 < x.length) (hy : 0 < y.length) : (nth x 0 = nth y 0 ∧ tl1 x = tl1 y) ↔ x = y := by
  constructor
  · rintro ⟨h1,h2⟩
    cases x with
    |nil=>simp at hx
    | cons a x => cases y with
      |nil=>simp at hy
      | cons b y =>
        have e1:a=b:=h1
        have e2:x=y:=h2
        rw [e1,e2]
  · intro h; subst h; exact ⟨rfl,rfl⟩
theorem aRi {l:List Sit} {y:List Int} {k:Nat} (hk:k < l.length) (h:(nth l k).1=y):iF l y=true:=by
  unfold iF
  rw [List.any_eq_true]
  exact ⟨_,aY hk,decide_eq_true h⟩
theorem aRG {l:List Sit} {y:List Int} (h: ∀ k,k < l.length→(nth l k).1≠y):iF l y=false:=by
  unfold iF
  rw [List.any_eq_false]
  intro z hz
  obtain ⟨k,hk,rfl⟩:=iY hz
  rw [decide_eq_true_eq]
  exact h k hk
theorem aOd {m:M} {gs:List (List Int)} {k:Nat} (hk:k=gs.length):[[iV m.s,aG (tbl (fun _=>m.s) k),aG []]]=(is0 m gs).map cSp:=by
  subst hk
  have e1:tl1 (List.replicate (gs.length+1) m.s)=tbl (fun _=>m.s) gs.length:=by
    unfold tbl; rw [List.map_const',List.length_range]; rfl
  show _=[[iV (nth (List.replicate (gs.length+1) m.s) 0),aG (tl1 (List.replicate (gs.length+1) m.s)),aG []]]
  rw [e1]; rfl
theorem sK {p:List Int}:cat [p]=p:=List.append_nil p
theorem aE3 {p q:List Int}:cat [p,q]=p++q:=by show p++(q++[])=_; rw [List.append_nil]
theorem aA0 {x:List Int}:(tl1 x).length=x.length - 1:=List.length_drop ..
theorem aJy {m:M} {gs:List (List Int)} (hg:gs.length≤4):(fcL m gs).length≤4:=by
  unfold fcL
  split
  · rw [aP]; exact hg
  · exact Nat.zero_le _
end Go.Proofs.YtmnnhjhkaepbaaaGreat
namespace Go.Proofs.YtmnnhjhkaepbaaaGreat
open Go Go.Proofs
theorem aUd (gs:List (List Int)) (i:Int) (u:Nat) (hb: ∀ k,k < gs.length→(nth gs k).length≤9223372036854775807) (hx:owX gs i=false) (Hi:aI) (hu:(Hi 713).ver=u):dL Tryz.prog 39 [(aD gs),(iV i)] Hi (V.tup [(V.mm 713 (u+1)),(V.bool (decide ((((owE gs gs.length).length:Nat):Int)=i)))]) (upd Hi 713 (bz (u+1) cA 2 (eG (owE gs gs.length)))):=by
 refine eW (k0:=700) Tryz.func39 aDb fun hB=>?_
 unfold s39
 dsimp only
 refine W_r (aA rfl (aA rfl (R_e (W_r (tP (i:=713) (n:=u) (rows:=eG (owE gs 0)) (by rfl) hu rfl (aA rfl (R_e ?_)))))))
 refine aB (W_r (aA rfl (bI rfl (aA rfl (R_e (aC fun Q1 n1 x1 y1 z1=>?_))))))
 refine bH (fun mm T H=> ∃ (k:Nat),mm=gs.length - k∧T 1=(iV i)∧T 6=(V.mm 713 (u+1))∧T 14=(aD gs)∧T 15=(iV ((gs.length:Nat):Int))∧T 16=(iV ((k:Nat):Int))∧(∀ j,j∉[713]→H j=Hi j)∧H 713=(bz (u+1) cA 2 (eG (owE gs k)))∧(k≤gs.length)∧(∀ q,q < k→(nth gs q).length≠0∧ ∀ p,p < (nth gs q).length→owB gs i q p=false)) ?_ ?_
 ·
  refine ⟨_,0,rfl,rfl,rfl,rfl,rfl,(eTq (rVq (iV 0)) rfl),(dZ (fun _ _=>rfl) (by decide)),rfl,?_,?_⟩
  · exact Nat.zero_le _
  · intro q hq; omega
 intro mm T H ⟨k,hmm,t1,t6,t14,t15,t16,hF,h713,hk,hc⟩ Q2 p12 p22 p32
 unfold aHA
 refine W_r (bJ t16 t15 (R_e ?_))
 refine aJ rfl (fun c3=>?_) fun c3=>?_
 ·
  have hbk:=hb k (by omega)
  refine aE (aC fun Q4 n4 x4 y4 z4=>(W_r (aA t16 (bE (i:=k) t14 t16 (by omega) rfl (aF rfl rfl (aA rfl (aA rfl ?_)))))))
  refine R_e (aB (W_r (aA rfl (bI rfl (fC rfl rfl (R_e ?_))))))
  refine aJ rfl (fun c5=>?_) fun c5=>?_
  ·
   have d1:(nth gs k).length=0:=by have z:=c5; omega
   refine aB (W_r (aA rfl (aA rfl (R_e (aX (y4 _ _ (p22 _ _ ?_)))))))
   refine y1 _ _ (bF (R:=fun T H=>T 4=(V.raw (.map none))∧T 5=(V.bool false)∧(∀ j,j∉[713]→H j=Hi j)∧H 713=(bz (u+1) cA 2 (eG (owE gs k)))∧True) ⟨(rVq (V.raw (.map none))),(rVq (V.bool false)),hF,h713,trivial⟩ ?_)
   intro T H ⟨t4,t5,hF,h713,_⟩
   exfalso; have z:=aFh (i:=i) (show k < gs.length by omega) (aUO (i:=i) d1); rw [hx] at z; cases z
  have d1:(nth gs k).length≠0:=by have z:=c5; omega
  refine aE (W_r (aA rfl (bI rfl (aA rfl (R_e (iK fun Q6 n6 x6 y6 z6=>?_))))))
  refine bH (fun mm T H=> ∃ (j:Nat),mm=(nth gs k).length - j∧T 1=(iV i)∧T 6=(V.mm 713 (u+1))∧T 7=(iV ((k:Nat):Int))∧T 14=(aD gs)∧T 15=(iV ((gs.length:Nat):Int))∧T 16=(iV ((k:Nat):Int))∧T 24=(aG (nth gs k))∧T 25=(iV (((nth gs k).length:Nat):Int))∧T 26=(iV ((j:Nat):Int))∧(∀ j,j∉[713]→H j=Hi j)∧H 713=(bz (u+1) cA 2 (eG (owJ gs k j)))∧(j≤(nth gs k).length)∧(∀ p,p < j→owB gs i k p=false)) ?_ ?_
  ·
   refine ⟨_,0,rfl,t1,t6,rfl,t14,t15,t16,(eTq (rVq (aG (nth gs k))) (by rfl)),(eTq (rNq ((nth gs k).length)) (by rfl)),(eTq (rVq (iV 0)) rfl),hF,(eTq h713 (by (rw [aMO]; done))),?_,?_⟩
   · exact Nat.zero_le _
   · intro q hq; omega
  intro mm T H ⟨j,hmm,t1,t6,t7,t14,t15,t16,t24,t25,t26,hF,h713,hj,hc2⟩ Q7 p17 p27 p37
  unfold aH6
  refine W_r (bJ t26 t25 (R_e ?_))
  refine aJ rfl (fun c8=>?_) fun c8=>?_
  ·
   refine aE (aC fun Q9 n9 x9 y9 z9=>(W_r (bE (i:=j) t24 t26 (by omega) rfl (aF rfl rfl (aA rfl (R_e (aB ?_)))))))
   refine W_r (aA t6 (aA rfl (aA8 (z:=(iV 0)) (u:=(iV (lkI (owJ gs k j) (nth (nth gs k) j)))) (f:=(inI (owJ gs k j) (nth (nth gs k) j))) (rVq (V.mm 713 (u+1))) (rVq (iV (nth (nth gs k) j))) h713 aGL (aA rfl (cK rfl rfl (cK rfl rfl (aA rfl ?_)))))))
   refine aA rfl (R_e (aB (W_r (aA rfl (aA rfl ?_)))))
   refine bW 3 (fun T H=>T 1=(iV i)∧T 6=(V.mm 713 (u+1))∧T 7=(iV ((k:Nat):Int))∧T 10=(iV (nth (nth gs k) j))∧T 14=(aD gs)∧T 15=(iV ((gs.length:Nat):Int))∧T 16=(iV ((k:Nat):Int))∧T 24=(aG (nth gs k))∧T 25=(iV (((nth gs k).length:Nat):Int))∧T 26=(iV ((j:Nat):Int))∧T 40=(V.bool ((inI (owJ gs k j) (nth (nth gs k) j))||decide ((nth (nth gs k) j) < (0:Int))))∧(∀ j,j∉[713]→H j=Hi j)∧H 713=(bz (u+1) cA 2 (eG (owJ gs k j)))∧True) ?_ ?_
   ·
    by_cases g10:(inI (owJ gs k j) (nth (nth gs k) j))=true
    ·
     refine G_n (ebT g10 rfl) (G_n (ebT g10 rfl) (bY (ebT g10 rfl) rfl ?_))
     exact ⟨t1,t6,t7,rfl,t14,t15,t16,t24,t25,t26,(aBZ g10),hF,h713,trivial⟩
    ·
     refine aM (ebF g10 rfl) (aA rfl (aM (ebF g10 rfl) (bJ rfl rfl (bX (ebF g10 rfl) rfl ?_))))
     exact ⟨t1,t6,t7,rfl,t14,t15,t16,t24,t25,t26,(aBN g10),hF,h713,trivial⟩
   intro T H ⟨t1,t6,t7,t10,t14,t15,t16,t24,t25,t26,t40,hF,h713,_⟩
   refine aA t40 ?_
   refine bW 4 (fun T H=>T 1=(iV i)∧T 6=(V.mm 713 (u+1))∧T 7=(iV ((k:Nat):Int))∧T 10=(iV (nth (nth gs k) j))∧T 14=(aD gs)∧T 15=(iV ((gs.length:Nat):Int))∧T 16=(iV ((k:Nat):Int))∧T 24=(aG (nth gs k))∧T 25=(iV (((nth gs k).length:Nat):Int))∧T 26=(iV ((j:Nat):Int))∧T 45=(V.bool (((inI (owJ gs k j) (nth (nth gs k) j))||decide ((nth (nth gs k) j) < (0:Int)))||decide (i≤(nth (nth gs k) j))))∧(∀ j,j∉[713]→H j=Hi j)∧H 713=(bz (u+1) cA 2 (eG (owJ gs k j)))∧True) ?_ ?_
   ·
    by_cases g11:((inI (owJ gs k j) (nth (nth gs k) j))||decide ((nth (nth gs k) j) < (0:Int)))=true
    ·
     have g11x:=g11
     try simp only [Bool.and_eq_true,Bool.or_eq_true,Bool.not_eq_true',decide_eq_true_eq] at g11x
     refine G_n (ebT g11 rfl) (G_n (ebT g11 rfl) (G_n (ebT g11 rfl) (bY (ebT g11 rfl) rfl ?_)))
     exact ⟨t1,t6,t7,t10,t14,t15,t16,t24,t25,t26,(aBZ g11),hF,h713,trivial⟩
    ·
     have g11x:=g11
     try simp only [Bool.and_eq_true,Bool.or_eq_true,Bool.not_eq_true',decide_eq_true_eq] at g11x
     refine aM (ebF g11 rfl) (aA t10 (aM (ebF g11 rfl) (aA t1 (aM (ebF g11 rfl) (lZ rfl rfl (bX (ebF g11 rfl) rfl ?_))))))
     exact ⟨t1,t6,t7,t10,t14,t15,t16,t24,t25,t26,(aBN g11),hF,h713,trivial⟩
   intro T H ⟨t1,t6,t7,t10,t14,t15,t16,t24,t25,t26,t45,hF,h713,_⟩
   refine R_e ?_
   refine cW t45 (fun c12=>?_) (fun c12=>?_)
   ·
    have d2:owB gs i k j=true:=c12
    refine aB (W_r (aA rfl (aA rfl (R_e (aX (y9 _ _ (p27 _ _ ?_)))))))
    refine y6 _ _ (y4 _ _ (p22 _ _ (y1 _ _ (bF (R:=fun T H=>T 4=(V.raw (.map none))∧T 5=(V.bool false)∧(∀ j,j∉[713]→H j=Hi j)∧H 713=(bz (u+1) cA 2 (eG (owJ gs k j)))∧True) ⟨(rVq (V.raw (.map none))),(rVq (V.bool false)),hF,h713,trivial⟩ ?_))))
    intro T H ⟨t4,t5,hF,h713,_⟩
    exfalso; have z:=aFh (show k < gs.length by omega) (aSM (show j < (nth gs k).length by omega) d2); rw [hx] at z; cases z
   have d2:owB gs i k j=false:=c12
   have d3:inI (owJ gs k j) (nth (nth gs k) j)=false:=(Bool.or_eq_false_iff.1 (Bool.or_eq_false_iff.1 d2).1).1
   refine aE (W_t (aA t6 (aA t10 (aA t7 (wO (B':=(bz (u+1) cA 2 (eG (owJ gs k (j+1))))) (rVq (V.mm 713 (u+1))) (rVq (iV (nth (nth gs k) j))) (rNq k) h713 ((aUR d3).trans (by rw [aIt (by omega)])) (R_e (n9 _ _ ?_)))))))
   refine .done (W_t (aU t26 (rNq 1) (by omega) (aA rfl (R_e ?_))))
   refine p17 _ _ _ ?_ ⟨(j+1),rfl,t1,t6,t7,t14,t15,t16,t24,t25,(eTq (rNq (j+1)) (by rfl)),(dZ hF (by decide)),(eTq (@rfl Blk (bz (u+1) cA 2 (eG (owJ gs k (j+1))))) (by rfl)),?_,?_⟩
   · omega
   · omega
   · intro q hq
     by_cases e:q=j
     · subst e; exact d2
     · exact hc2 q (by omega)
  have ej:owJ gs k j=owE gs (k+1):=aD0 (by omega)
  refine aN (p37 _ _ _ (x6 _ _ (n4 _ _ (.done (W_t (aU t16 (rNq 1) (by omega) (aA rfl ?_)))))))
  refine R_e ?_
  refine p12 _ _ _ ?_ ⟨(k+1),rfl,t1,t6,t14,t15,(eTq (rNq (k+1)) (by rfl)),hF,(eTq h713 (by (rw [ej]; done))),?_,?_⟩
  · omega
  · omega
  · intro q hq
    by_cases e:q=k
    · subst e; exact ⟨d1,fun p hp=>hc2 p (by omega)⟩
    · exact hc q (by omega)
 have ek:gs.length=k:=by omega
 refine aN (p32 _ _ _ (x1 _ _ (.done (W_r (aA t6 (aA t6 (aAq (n:=((owE gs k).length)) (rVq (V.mm 713 (u+1))) h713 aU4 ?_)))))))
 refine aA t1 (fC rfl rfl (aA rfl (aA rfl (R_e (bN (bF (R:=fun T H=>T 4=(V.mm 713 (u+1))∧T 5=(V.bool (decide ((((owE gs k).length:Nat):Int)=i)))∧(∀ j,j∉[713]→H j=Hi j)∧H 713=(bz (u+1) cA 2 (eG (owE gs k)))∧True) ⟨(rVq (V.mm 713 (u+1))),(rVq (V.bool (decide ((((owE gs k).length:Nat):Int)=i)))),hF,h713,trivial⟩ ?_))))))
 intro T H ⟨t4,t5,hF,h713,_⟩
 skip
 have fh:=dW.fin (dW.put (B:=(bz (u+1) cA 2 (eG (owE gs gs.length)))) (dW.start hF) h713 (jG.eq (by (rw [ek]; done))))
 exact aDM t4 t5 fh (dK.trans_eq (dK.same fh _) rfl) (dK.trans_eq (dK.same fh _) (by (rw [ek]; done)))
theorem aR4 (gs:List (List Int)) (i:Int) (u:Nat) (hb: ∀ k,k < gs.length→(nth gs k).length≤9223372036854775807) (hx:owX gs i=true) (Hi:aI) (hu:(Hi 713).ver=u):dL Tryz.prog 39 [(aD gs),(iV i)] Hi (V.tup [(V.raw (.map none)),(V.bool false)]) (upd Hi 713 (⟨u+1,false,false,0,0,[]⟩:Blk)):=by
 refine eW (k0:=700) Tryz.func39 aDb fun hB=>?_
 unfold s39
 dsimp only
 refine W_r (aA rfl (aA rfl (R_e (W_r (tP (i:=713) (n:=u) (rows:=eG (owE gs 0)) (by rfl) hu rfl (aA rfl (R_e ?_)))))))
 refine aB (W_r (aA rfl (bI rfl (aA rfl (R_e (aC fun Q1 n1 x1 y1 z1=>?_))))))
 refine bH (fun mm T H=> ∃ (k:Nat),mm=gs.length - k∧T 1=(iV i)∧T 6=(V.mm 713 (u+1))∧T 14=(aD gs)∧T 15=(iV ((gs.length:Nat):Int))∧T 16=(iV ((k:Nat):Int))∧(∀ j,j∉[713]→H j=Hi j)∧H 713=(bz (u+1) cA 2 (eG (owE gs k)))∧(k≤gs.length)∧(∀ q,q < k→(nth gs q).length≠0∧ ∀ p,p < (nth gs q).length→owB gs i q p=false)) ?_ ?_
 ·
  refine ⟨_,0,rfl,rfl,rfl,rfl,rfl,(eTq (rVq (iV 0)) rfl),(dZ (fun _ _=>rfl) (by decide)),rfl,?_,?_⟩
  · exact Nat.zero_le _
  · intro q hq; omega
 intro mm T H ⟨k,hmm,t1,t6,t14,t15,t16,hF,h713,hk,hc⟩ Q2 p12 p22 p32
 unfold aHA
 refine W_r (bJ t16 t15 (R_e ?_))
 refine aJ rfl (fun c3=>?_) fun c3=>?_
 ·
  have hbk:=hb k (by omega)
  refine aE (aC fun Q4 n4 x4 y4 z4=>(W_r (aA t16 (bE (i:=k) t14 t16 (by omega) rfl (aF rfl rfl (aA rfl (aA rfl ?_)))))))
  refine R_e (aB (W_r (aA rfl (bI rfl (fC rfl rfl (R_e ?_))))))
  refine aJ rfl (fun c5=>?_) fun c5=>?_
  ·
   have d1:(nth gs k).length=0:=by have z:=c5; omega
   refine aB (W_r (aA rfl (aA rfl (R_e (aX (y4 _ _ (p22 _ _ ?_)))))))
   refine y1 _ _ (bF (R:=fun T H=>T 4=(V.raw (.map none))∧T 5=(V.bool false)∧(∀ j,j∉[713]→H j=Hi j)∧H 713=(bz (u+1) cA 2 (eG (owE gs k)))∧True) ⟨(rVq (V.raw (.map none))),(rVq (V.bool false)),hF,h713,trivial⟩ ?_)
   intro T H ⟨t4,t5,hF,h713,_⟩
   skip
   have fh:=dW.fin (dW.putv (n:=(u+1)) (B:=(⟨u+1,false,false,0,0,[]⟩:Blk)) (dW.start hF) (cVq h713) (by show _≤u+1; omega) rfl)
   exact aDM t4 t5 fh (dK.trans_eq (dK.same fh _) rfl) (dK.trans_eq (dK.same fh _) rfl)
  have d1:(nth gs k).length≠0:=by have z:=c5; omega
  refine aE (W_r (aA rfl (bI rfl (aA rfl (R_e (iK fun Q6 n6 x6 y6 z6=>?_))))))
  refine bH (fun mm T H=> ∃ (j:Nat),mm=(nth gs k).length - j∧T 1=(iV i)∧T 6=(V.mm 713 (u+1))∧T 7=(iV ((k:Nat):Int))∧T 14=(aD gs)∧T 15=(iV ((gs.length:Nat):Int))∧T 16=(iV ((k:Nat):Int))∧T 24=(aG (nth gs k))∧T 25=(iV (((nth gs k).length:Nat):Int))∧T 26=(iV ((j:Nat):Int))∧(∀ j,j∉[713]→H j=Hi j)∧H 713=(bz (u+1) cA 2 (eG (owJ gs k j)))∧(j≤(nth gs k).length)∧(∀ p,p < j→owB gs i k p=false)) ?_ ?_
  ·
   refine ⟨_,0,rfl,t1,t6,rfl,t14,t15,t16,(eTq (rVq (aG (nth gs k))) (by rfl)),(eTq (rNq ((nth gs k).length)) (by rfl)),(eTq (rVq (iV 0)) rfl),hF,(eTq h713 (by (rw [aMO]; done))),?_,?_⟩
   · exact Nat.zero_le _
   · intro q hq; omega
  intro mm T H ⟨j,hmm,t1,t6,t7,t14,t15,t16,t24,t25,t26,hF,h713,hj,hc2⟩ Q7 p17 p27 p37
  unfold aH6
  refine W_r (bJ t26 t25 (R_e ?_))
  refine aJ rfl (fun c8=>?_) fun c8=>?_
  ·
   refine aE (aC fun Q9 n9 x9 y9 z9=>(W_r (bE (i:=j) t24 t26 (by omega) rfl (aF rfl rfl (aA rfl (R_e (aB ?_)))))))
   refine W_r (aA t6 (aA rfl (aA8 (z:=(iV 0)) (u:=(iV (lkI (owJ gs k j) (nth (nth gs k) j)))) (f:=(inI (owJ gs k j) (nth (nth gs k) j))) (rVq (V.mm 713 (u+1))) (rVq (iV (nth (nth gs k) j))) h713 aGL (aA rfl (cK rfl rfl (cK rfl rfl (aA rfl ?_)))))))
   refine aA rfl (R_e (aB (W_r (aA rfl (aA rfl ?_)))))
   refine bW 3 (fun T H=>T 1=(iV i)∧T 6=(V.mm 713 (u+1))∧T 7=(iV ((k:Nat):Int))∧T 10=(iV (nth (nth gs k) j))∧T 14=(aD gs)∧T 15=(iV ((gs.length:Nat):Int))∧T 16=(iV ((k:Nat):Int))∧T 24=(aG (nth gs k))∧T 25=(iV (((nth gs k).length:Nat):Int))∧T 26=(iV ((j:Nat):Int))∧T 40=(V.bool ((inI (owJ gs k j) (nth (nth gs k) j))||decide ((nth (nth gs k) j) < (0:Int))))∧(∀ j,j∉[713]→H j=Hi j)∧H 713=(bz (u+1) cA 2 (eG (owJ gs k j)))∧True) ?_ ?_
   ·
    by_cases g10:(inI (owJ gs k j) (nth (nth gs k) j))=true
    ·
     refine G_n (ebT g10 rfl) (G_n (ebT g10 rfl) (bY (ebT g10 rfl) rfl ?_))
     exact ⟨t1,t6,t7,rfl,t14,t15,t16,t24,t25,t26,(aBZ g10),hF,h713,trivial⟩
    ·
     refine aM (ebF g10 rfl) (aA rfl (aM (ebF g10 rfl) (bJ rfl rfl (bX (ebF g10 rfl) rfl ?_))))
     exact ⟨t1,t6,t7,rfl,t14,t15,t16,t24,t25,t26,(aBN g10),hF,h713,trivial⟩
   intro T H ⟨t1,t6,t7,t10,t14,t15,t16,t24,t25,t26,t40,hF,h713,_⟩
   refine aA t40 ?_
   refine bW 4 (fun T H=>T 1=(iV i)∧T 6=(V.mm 713 (u+1))∧T 7=(iV ((k:Nat):Int))∧T 10=(iV (nth (nth gs k) j))∧T 14=(aD gs)∧T 15=(iV ((gs.length:Nat):Int))∧T 16=(iV ((k:Nat):Int))∧T 24=(aG (nth gs k))∧T 25=(iV (((nth gs k).length:Nat):Int))∧T 26=(iV ((j:Nat):Int))∧T 45=(V.bool (((inI (owJ gs k j) (nth (nth gs k) j))||decide ((nth (nth gs k) j) < (0:Int)))||decide (i≤(nth (nth gs k) j))))∧(∀ j,j∉[713]→H j=Hi j)∧H 713=(bz (u+1) cA 2 (eG (owJ gs k j)))∧True) ?_ ?_
   ·
    by_cases g11:((inI (owJ gs k j) (nth (nth gs k) j))||decide ((nth (nth gs k) j) < (0:Int)))=true
    ·
     have g11x:=g11
     try simp only [Bool.and_eq_true,Bool.or_eq_true,Bool.not_eq_true',decide_eq_true_eq] at g11x
     refine G_n (ebT g11 rfl) (G_n (ebT g11 rfl) (G_n (ebT g11 rfl) (bY (ebT g11 rfl) rfl ?_)))
     exact ⟨t1,t6,t7,t10,t14,t15,t16,t24,t25,t26,(aBZ g11),hF,h713,trivial⟩
    ·
     have g11x:=g11
     try simp only [Bool.and_eq_true,Bool.or_eq_true,Bool.not_eq_true',decide_eq_true_eq] at g11x
     refine aM (ebF g11 rfl) (aA t10 (aM (ebF g11 rfl) (aA t1 (aM (ebF g11 rfl) (lZ rfl rfl (bX (ebF g11 rfl) rfl ?_))))))
     exact ⟨t1,t6,t7,t10,t14,t15,t16,t24,t25,t26,(aBN g11),hF,h713,trivial⟩
   intro T H ⟨t1,t6,t7,t10,t14,t15,t16,t24,t25,t26,t45,hF,h713,_⟩
   refine R_e ?_
   refine cW t45 (fun c12=>?_) (fun c12=>?_)
   ·
    have d2:owB gs i k j=true:=c12
    refine aB (W_r (aA rfl (aA rfl (R_e (aX (y9 _ _ (p27 _ _ ?_)))))))
    refine y6 _ _ (y4 _ _ (p22 _ _ (y1 _ _ (bF (R:=fun T H=>T 4=(V.raw (.map none))∧T 5=(V.bool false)∧(∀ j,j∉[713]→H j=Hi j)∧H 713=(bz (u+1) cA 2 (eG (owJ gs k j)))∧True) ⟨(rVq (V.raw (.map none))),(rVq (V.bool false)),hF,h713,trivial⟩ ?_))))
    intro T H ⟨t4,t5,hF,h713,_⟩
    skip
    have fh:=dW.fin (dW.putv (n:=(u+1)) (B:=(⟨u+1,false,false,0,0,[]⟩:Blk)) (dW.start hF) (cVq h713) (by show _≤u+1; omega) rfl)
    exact aDM t4 t5 fh (dK.trans_eq (dK.same fh _) rfl) (dK.trans_eq (dK.same fh _) rfl)
   have d2:owB gs i k j=false:=c12
   have d3:inI (owJ gs k j) (nth (nth gs k) j)=false:=(Bool.or_eq_false_iff.1 (Bool.or_eq_false_iff.1 d2).1).1
   refine aE (W_t (aA t6 (aA t10 (aA t7 (wO (B':=(bz (u+1) cA 2 (eG (owJ gs k (j+1))))) (rVq (V.mm 713 (u+1))) (rVq (iV (nth (nth gs k) j))) (rNq k) h713 ((aUR d3).trans (by rw [aIt (by omega)])) (R_e (n9 _ _ ?_)))))))
   refine .done (W_t (aU t26 (rNq 1) (by omega) (aA rfl (R_e ?_))))
   refine p17 _ _ _ ?_ ⟨(j+1),rfl,t1,t6,t7,t14,t15,t16,t24,t25,(eTq (rNq (j+1)) (by rfl)),(dZ hF (by decide)),(eTq (@rfl Blk (bz (u+1) cA 2 (eG (owJ gs k (j+1))))) (by rfl)),?_,?_⟩
   · omega
   · omega
   · intro q hq
     by_cases e:q=j
     · subst e; exact d2
     · exact hc2 q (by omega)
  have ej:owJ gs k j=owE gs (k+1):=aD0 (by omega)
  refine aN (p37 _ _ _ (x6 _ _ (n4 _ _ (.done (W_t (aU t16 (rNq 1) (by omega) (aA rfl ?_)))))))
  refine R_e ?_
  refine p12 _ _ _ ?_ ⟨(k+1),rfl,t1,t6,t14,t15,(eTq (rNq (k+1)) (by rfl)),hF,(eTq h713 (by (rw [ej]; done))),?_,?_⟩
  · omega
  · omega
  · intro q hq
    by_cases e:q=k
    · subst e; exact ⟨d1,fun p hp=>hc2 p (by omega)⟩
    · exact hc q (by omega)
 have ek:gs.length=k:=by omega
 refine aN (p32 _ _ _ (x1 _ _ (.done (W_r (aA t6 (aA t6 (aAq (n:=((owE gs k).length)) (rVq (V.mm 713 (u+1))) h713 aU4 ?_)))))))
 refine aA t1 (fC rfl rfl (aA rfl (aA rfl (R_e (bN (bF (R:=fun T H=>T 4=(V.mm 713 (u+1))∧T 5=(V.bool (decide ((((owE gs k).length:Nat):Int)=i)))∧(∀ j,j∉[713]→H j=Hi j)∧H 713=(bz (u+1) cA 2 (eG (owE gs k)))∧True) ⟨(rVq (V.mm 713 (u+1))),(rVq (V.bool (decide ((((owE gs k).length:Nat):Int)=i)))),hF,h713,trivial⟩ ?_))))))
 intro T H ⟨t4,t5,hF,h713,_⟩
 exfalso; have z:=aGo (fun q hq=>hc q (by omega)); rw [hx] at z; cases z
end Go.Proofs.YtmnnhjhkaepbaaaGreat
namespace Go.Proofs.YtmnnhjhkaepbaaaGreat
open Go Go.Proofs
attribute [local irreducible] oP
theorem wZ (x w:List Int) (hx: ∀ v∈x,0≤v∧v < 256) (hl:x.length≤1000):bA Tryz.prog 40 [(V.agg [(aG x),(aG w)])] (V.str (kyS x)):=by
 refine pW Tryz.func40 aHN fun hB=>?_
 unfold s40
 dsimp only
 refine W_r (dN (i:=1) (n:=0) (m:=2) (cs:=[(aG x),(aG w)]) rfl (cVq rfl) rfl rfl rfl (aA rfl (R_e (W_r (aZ rfl rfl (aS rfl rfl rfl rfl (bI rfl ?_)))))))
 refine lA (i:=9) (n:=0) (m:=x.length) (q:=x.length) (f:=bB) (x:=(0:UInt8)) rfl (cVq rfl) (rNq x.length) (rNq x.length) rfl (by omega) (by omega) (by omega) (aA rfl (R_e (aB (W_r (aZ rfl rfl (aS rfl rfl rfl rfl (bI rfl ?_)))))))
 refine aA rfl (R_e (aC fun Q1 n1 x1 y1 z1=>?_))
 refine bH (fun mm T H=> ∃ (k:Nat),mm=x.length - k∧T 3=(V.ms 9 1 0 x.length)∧T 11=(aG x)∧T 12=(iV ((x.length:Nat):Int))∧T 13=(iV ((k:Nat):Int))∧H 1=(bk 1 80 2 [[(aG x),(aG w)]])∧H 9=(bk 1 5 1 (List.map bB (kyP x k)))∧(k≤x.length)) ?_ ?_
 ·
  refine ⟨_,0,rfl,rfl,rfl,rfl,(eTq (rVq (iV 0)) rfl),rfl,(eTq (@rfl Blk (bk 1 5 1 (List.map bB (List.replicate x.length (0:UInt8))))) (by (rw [kyP,← wU,List.map_replicate]; first|done|rfl))),?_⟩
  · exact Nat.zero_le _
 intro mm T H ⟨k,hmm,t3,t11,t12,t13,h1,h9,hk⟩ Q2 p12 p22 p32
 unfold aMq
 refine W_r (bJ t13 t12 (R_e ?_))
 refine aJ rfl (fun c3=>?_) fun c3=>?_
 ·
  have rx:=hx _ (aY (show k < x.length by omega))
  refine aE (aC fun Q4 n4 x4 y4 z4=>(W_r (aA t13 (bE (i:=k) t11 t13 (by omega) rfl (aF rfl rfl (aA rfl (aA rfl ?_)))))))
  refine R_e (W_t (aA t3 (aA rfl (aA rfl (aLh (x:=(nth x k)) (rVq (iV (nth x k))) (by omega) (by omega) (bR (i:=k) (rVq (V.ms 9 1 0 x.length)) (rNq k) h9 oB rfl (by omega) (bC (vs:=[(u8V (UInt8.ofNat (nth x k).toNat))]) (B':=(bk 1 5 1 (List.map bB ((kyP x k).set k (UInt8.ofNat (nth x k).toNat))))) rfl rfl rfl h9 (eX (x:=(UInt8.ofNat (nth x k).toNat)) (i:=k) (by (unfold kyP; rw [fT]; omega)) rfl rfl rfl rfl) ?_)))))))
  refine R_e (n4 _ _ (.done (W_t (aU t13 (rNq 1) (by omega) (aA rfl (R_e ?_))))))
  refine p12 _ _ _ ?_ ⟨(k+1),rfl,t3,t11,t12,(eTq (rNq (k+1)) (by rfl)),h1,(eTq (@rfl Blk (bk 1 5 1 (List.map bB ((kyP x k).set k (UInt8.ofNat (nth x k).toNat))))) (by (rw [kyP,kyP,← nS (f:=fun j=>UInt8.ofNat (nth x j).toNat) (z:=(0:UInt8)) (n:=x.length) (j:=k) (by omega)]; first|done|rfl))),?_⟩
  · omega
  · omega
 refine aN (p32 _ _ _ (x1 _ _ (bF (R:=fun T H=>T 3=(V.ms 9 1 0 x.length)∧T 11=(aG x)∧T 12=(iV ((x.length:Nat):Int))∧T 13=(iV ((k:Nat):Int))∧T 14=(V.bool (decide (((k:Nat):Int) < ((x.length:Nat):Int))))∧H 1=(bk 1 80 2 [[(aG x),(aG w)]])∧H 9=(bk 1 5 1 (List.map bB (kyP x k)))∧True) ⟨t3,t11,t12,t13,(rVq (V.bool (decide (((k:Nat):Int) < ((x.length:Nat):Int))))),h1,h9,trivial⟩ ?_)))
 intro T H ⟨t3,t11,t12,t13,t14,h1,h9,_⟩
 refine .freeze 9 (.done ?_)
 refine bF (R:=fun T H=>T 3=(V.sl (List.map bB (kyP x k)))∧T 11=(aG x)∧T 12=(iV ((x.length:Nat):Int))∧T 13=(iV ((k:Nat):Int))∧T 14=(V.bool (decide (((k:Nat):Int) < ((x.length:Nat):Int))))∧H 1=(bk 1 80 2 [[(aG x),(aG w)]])∧((H 9).ver=1∧(H 9).live=false)∧True) ⟨(aL t3 (fR h9 (by rfl) (l:=(kyP x k)) rfl (by exact fT.symm))),(aL t11 rfl),(aL t12 rfl),(aL t13 rfl),(aL t14 rfl),(aK h1 (by decide)),(bG (cVq h9)),trivial⟩ ?_
 intro T H ⟨t3,t11,t12,t13,t14,h1,h9,_⟩
 refine W_r (aA t3 (aIP (l:=(kyP x k)) (rVq (V.sl (List.map bB (kyP x k)))) (aA rfl (R_e (bN ?_)))))
 refine bS (rVq (V.str (kyP x k))) (dE (by simp) ?_)
 · rw [aKl (by omega)]
end Go.Proofs.YtmnnhjhkaepbaaaGreat
namespace Go.Proofs.YtmnnhjhkaepbaaaGreat
open Go Go.Proofs
theorem aBi (m:M) (x w:List Int) (a g:Nat) (hm:bD m=0) (hg:g+1 < x.length) (h0:0≤nth x 0∧nth x 0 < m.nx.length) (h1:0≤nth x (g+1)∧nth x (g+1) < m.nx.length) (ha:a < m.i.toNat) (hxl:x.length≤1000) (hw:w.length≤100000):bA Tryz.prog 41 [(V.agg [(aG x),(aG w)]),(V.agg [(iV m.i),(iV m.s),(aD m.nx),(aD m.ot)]),(iV ((a:Nat):Int)),(iV ((g:Nat):Int))] (V.agg [(aG (dU m x a g)),(aG (iG w a))]):=by
 refine pW Tryz.func41 aGH fun hB=>?_
 unfold s41
 dsimp only
 have mo:=bT hm
 have r0:=mo.2.2.2.2.2.2.2 (nth x 0).toNat (by omega)
 have r1:=mo.2.2.2.2.2.2.2 (nth x (g+1)).toNat (by omega)
 have e1:nth (x.set 0 (nth (nth m.nx (nth x 0).toNat) a)) (g+1)=nth x (g+1):=by rw [fZ (by omega),if_neg (by omega)]
 refine W_r (dN (i:=4) (n:=0) (m:=2) (cs:=[(aG x),(aG w)]) rfl (cVq rfl) rfl rfl rfl (dN (i:=5) (n:=0) (m:=4) (cs:=[(iV m.i),(iV m.s),(aD m.nx),(aD m.ot)]) rfl (cVq rfl) rfl rfl rfl (cQ (i:=8) (n:=0) (m:=2) rfl (cVq rfl) rfl (R_e (W_r (dQ (i:=10) (n:=0) rfl (cVq rfl) (aZ rfl rfl ?_)))))))
 refine aS rfl rfl rfl rfl (gQ (l:=([])) (m:=x) (f:=cI) (rVq (V.ms 10 1 0 0)) (show _=(bz 1 3 1 (List.map cI ([]))) from (@rfl Blk (bz 1 3 1 []))) (by rfl) (rVq (aG x)) (fun _=>rfl) (fun _=>rfl) (by omega) (by omega) (aA rfl (R_e (W_r (aA rfl (aZ rfl rfl (aS rfl rfl rfl rfl ?_)))))))
 refine aA rfl (bR (i:=0) (rVq (V.ms 10 2 0 (0+x.length))) (rNq 0) (@rfl Blk (bz 2 3 1 (List.map cI x))) (cX (by omega)) rfl (by omega) (bL (v:=(iV (nth x 0))) rfl (@rfl Blk (bz 2 3 1 (List.map cI x))) (cJ (by omega) (by rfl)) (cP (i:=(nth x 0)) (rVq (aD m.nx)) (rVq (iV (nth x 0))) (by omega) (by omega) rfl (aF rfl rfl (aA rfl (bE (i:=a) (rVq (aG (nth m.nx (nth x 0).toNat))) (rNq a) (by omega) rfl (aF rfl rfl ?_)))))))
 refine bR (i:=0) (rVq (V.ms 10 2 0 (0+x.length))) (rNq 0) (@rfl Blk (bz 2 3 1 (List.map cI x))) (cX (by omega)) rfl (by omega) (bC (vs:=[(iV (nth (nth m.nx (nth x 0).toNat) a))]) (B':=(bz 2 3 1 (List.map cI (x.set 0 (nth (nth m.nx (nth x 0).toNat) a))))) rfl rfl rfl (@rfl Blk (bz 2 3 1 (List.map cI x))) (eX (x:=(nth (nth m.nx (nth x 0).toNat) a)) (i:=0) (by omega) rfl rfl rfl rfl) (R_e (W_r (aA rfl (aA rfl (aU rfl (rNq 1) (by omega) (aZ rfl rfl ?_)))))))
 refine aS rfl rfl rfl rfl (aA rfl (aA rfl (aU rfl (rNq 1) (by omega) (bR (i:=(g+1)) (rVq (V.ms 10 2 0 (0+x.length))) (rNq (g+1)) (@rfl Blk (bz 2 3 1 (List.map cI (x.set 0 (nth (nth m.nx (nth x 0).toNat) a))))) (cX (by (rw [List.length_set]; omega))) rfl (by omega) (bL (v:=(iV (nth (x.set 0 (nth (nth m.nx (nth x 0).toNat) a)) (g+1)))) rfl (@rfl Blk (bz 2 3 1 (List.map cI (x.set 0 (nth (nth m.nx (nth x 0).toNat) a))))) (cJ (by (rw [List.length_set]; omega)) (by rfl)) (cP (i:=(nth (x.set 0 (nth (nth m.nx (nth x 0).toNat) a)) (g+1))) (rVq (aD m.nx)) (rVq (iV (nth (x.set 0 (nth (nth m.nx (nth x 0).toNat) a)) (g+1)))) (by omega) (by omega) rfl (aF rfl rfl ?_)))))))
 refine aA rfl (bE (i:=a) (rVq (aG (nth m.nx (nth (x.set 0 (nth (nth m.nx (nth x 0).toNat) a)) (g+1)).toNat))) (rNq a) (by (rw [e1]; omega)) rfl (aF rfl rfl (bR (i:=(g+1)) (rVq (V.ms 10 2 0 (0+x.length))) (rNq (g+1)) (@rfl Blk (bz 2 3 1 (List.map cI (x.set 0 (nth (nth m.nx (nth x 0).toNat) a))))) (cX (by (rw [List.length_set]; omega))) rfl (by omega) (bC (vs:=[(iV (nth (nth m.nx (nth (x.set 0 (nth (nth m.nx (nth x 0).toNat) a)) (g+1)).toNat) a))]) (B':=(bz 2 3 1 (List.map cI ((x.set 0 (nth (nth m.nx (nth x 0).toNat) a)).set (g+1) (nth (nth m.nx (nth (x.set 0 (nth (nth m.nx (nth x 0).toNat) a)) (g+1)).toNat) a))))) rfl rfl rfl (@rfl Blk (bz 2 3 1 (List.map cI (x.set 0 (nth (nth m.nx (nth x 0).toNat) a))))) (eX (x:=(nth (nth m.nx (nth (x.set 0 (nth (nth m.nx (nth x 0).toNat) a)) (g+1)).toNat) a)) (i:=(g+1)) (by (rw [List.length_set]; omega)) rfl rfl rfl rfl) (R_e ?_)))))
 refine fV (fun T H=>T 8=(mPq 8)∧H 4=(bk 1 80 2 [[(aG x),(aG w)]])∧H 5=(bMq m)∧H 8=(bk 1 80 2 [[(V.ms 10 2 0 (0+x.length)),(V.ms 43 3 0 ((0+w.length)+1))]])∧H 10=(bz 2 3 1 (List.map cI ((x.set 0 (nth (nth m.nx (nth x 0).toNat) a)).set (g+1) (nth (nth m.nx (nth (x.set 0 (nth (nth m.nx (nth x 0).toNat) a)) (g+1)).toNat) a))))∧H 43=(bz 3 3 1 (List.map cI (w++[((a:Nat):Int)])))∧True) ?_ ?_
 ·
  refine aA rfl (dQ (i:=43) (n:=0) rfl (cVq rfl) (aZ rfl rfl (aS rfl rfl rfl rfl (gQ (l:=([])) (m:=w) (f:=cI) (rVq (V.ms 43 1 0 0)) (show _=(bz 1 3 1 (List.map cI ([]))) from (@rfl Blk (bz 1 3 1 []))) (by rfl) (rVq (aG w)) (fun _=>rfl) (fun _=>rfl) (by omega) (by omega) (aA rfl (bM rfl rfl (bK (l:=w) (f:=cI) (x:=((a:Nat):Int)) (rVq (V.ms 43 2 0 (0+w.length))) (@rfl Blk (bz 2 3 1 (List.map cI w))) (by simp) (rVq (V.sl [[(iV ((a:Nat):Int))]])) rfl rfl (by omega) (by omega) ?_)))))))
  refine eL rfl rfl (aPa rfl rfl rfl rfl rfl rfl rfl rfl rfl ?_)
  exact eE ⟨rfl,rfl,rfl,rfl,rfl,rfl,trivial⟩
 intro T H ⟨t8,h4,h5,h8,h10,h43,_⟩
 refine bN ?_
 refine aDD (gT (u:=(V.agg [(V.ms 10 2 0 (0+x.length)),(V.ms 43 3 0 ((0+w.length)+1))])) t8 h8 (lB oB rfl rfl)) (aJb (gD h10 (by rfl) (l:=((x.set 0 (nth (nth m.nx (nth x 0).toNat) a)).set (g+1) (nth (nth m.nx (nth (x.set 0 (nth (nth m.nx (nth x 0).toNat) a)) (g+1)).toNat) a))) rfl (by simp) (fun _=>by simp) ?_) (gD h43 (by rfl) (l:=(w++[((a:Nat):Int)])) rfl (by simp) (fun _=>by simp) ?_))
 · first|rfl|(rw [dU]; rfl)|skip
 · first|rfl|(rw [dU]; rfl)|skip
end Go.Proofs.YtmnnhjhkaepbaaaGreat
namespace Go.Proofs.YtmnnhjhkaepbaaaGreat
open Go Go.Proofs
attribute [local irreducible] oP
theorem zJ (m:M) (gs:List (List Int)) (hg:gs.length≤4):bA Tryz.prog 18 [(V.agg [(iV m.i),(iV m.s),(aD m.nx),(aD m.ot)]),(aD gs)] (V.tup [(aG ((isD m gs).1)),(V.bool ((isD m gs).2.1)),(iV ((isD m gs).2.2))]):=by
 refine pW Tryz.func18 aHU fun hB=>?_
 unfold s18
 dsimp only
 have hb:=hB.2.2
 refine W_r (dN (i:=2) (n:=0) (m:=4) (cs:=[(iV m.i),(iV m.s),(aD m.nx),(aD m.ot)]) rfl (cVq rfl) rfl rfl rfl (aA rfl (aA rfl (aA rfl (R_e (aB (W_r ?_)))))))
 refine aS rfl rfl rfl rfl (aV (iR m) rfl (aA rfl (R_e (aB (W_r (aA rfl (dD rfl rfl ?_)))))))
 refine R_e ?_
 refine aJ rfl (fun c1=>?_) fun c1=>?_
 ·
  have d0:=c1
  have e9:isD m gs=([],false,bD m):=by unfold isD; rw [if_pos d0]
  refine aB (W_r (aA rfl (aA rfl (aA rfl (aA rfl (R_e (aX ?_)))))))
  refine mV (rVq V.nilsl) (rVq (V.bool false)) (rVq (iV (bD m))) (eB ?_) (cH ?_) (aW ?_)
  · rw [e9]; try rfl
  · rw [e9]; try rfl
  · rw [e9]; try rfl
 have hm:bD m=0:=by omega
 have mo:=bT hm
 refine aE (kV fun K hK=>(aA rfl (aZ rfl rfl (aS rfl rfl rfl rfl ?_))))
 by_cases heF:owX gs m.i=true
 ·
  refine kC (cO rfl (cO rfl gG)) (aR4 gs m.i 0 hb heF _ (cVq rfl)) (aA rfl (cK rfl rfl (cK rfl rfl (aA rfl (aA rfl ?_)))))
  refine eE (hK _ _ ?_); clear hK K
  refine bF (R:=fun T H=>T 1=(aD gs)∧T 2=(mPq 2)∧T 8=(V.raw (.map none))∧T 9=(V.bool false)∧H 2=(bMq m)∧H 10=bZq∧H 15=bZq∧H 18=bZq∧H 36=bZq∧H 51=bZq∧H 56=bZq∧H 713=(⟨1,false,false,0,0,[]⟩:Blk)∧True) ⟨rfl,rfl,rfl,rfl,rfl,rfl,rfl,rfl,rfl,rfl,rfl,rfl,trivial⟩ ?_
  intro T H ⟨t1,t2,t8,t9,h2,h10,h15,h18,h36,h51,h56,h713,_⟩
  refine aB (W_r (aA t9 (vE rfl (R_e ?_))))
  refine cW rfl (fun c4=>?_) (fun c4=>?_)
  ·
   have e2:gsD gs m.i=false:=by first|exact aMp heF|exact aLY c4
   have e9:isD m gs=([],false,1):=by unfold isD; rw [if_neg (by omega),if_neg (by rw [e2]; decide)]
   refine aB (W_r (aA rfl (aA rfl (aA rfl (R_e (aX ?_))))))
   refine mV (rVq V.nilsl) (rVq (V.bool false)) (rVq (iV 1)) (eB ?_) (cH ?_) (aW ?_)
   · rw [e9]; try rfl
   · rw [e9]; try rfl
   · rw [e9]; try rfl
  · cases c4
 ·
  refine kC (cO rfl (cO rfl gG)) (aUd gs m.i 0 hb (by simpa using heF) _ (cVq rfl)) (aA rfl (cK rfl rfl (cK rfl rfl (aA rfl (aA rfl ?_)))))
  refine eE (hK _ _ ?_); clear hK K
  refine bF (R:=fun T H=>T 1=(aD gs)∧T 2=(mPq 2)∧T 8=(V.mm 713 1)∧T 9=(V.bool (decide ((((owE gs gs.length).length:Nat):Int)=m.i)))∧H 2=(bMq m)∧H 10=bZq∧H 15=bZq∧H 18=bZq∧H 36=bZq∧H 51=bZq∧H 56=bZq∧H 713=(bz 1 cA 2 (eG (owE gs gs.length)))∧True) ⟨rfl,rfl,rfl,rfl,rfl,rfl,rfl,rfl,rfl,rfl,rfl,rfl,trivial⟩ ?_
  intro T H ⟨t1,t2,t8,t9,h2,h10,h15,h18,h36,h51,h56,h713,_⟩
  refine aB (W_r (aA t9 (sX rfl (R_e ?_))))
  refine aJ rfl (fun c7=>?_) fun c7=>?_
  ·
   have e2:gsD gs m.i=false:=by first|exact aMp heF|exact aLY c7
   have e9:isD m gs=([],false,1):=by unfold isD; rw [if_neg (by omega),if_neg (by rw [e2]; decide)]
   refine aB (W_r (aA rfl (aA rfl (aA rfl (R_e (aX ?_))))))
   refine mV (rVq V.nilsl) (rVq (V.bool false)) (rVq (iV 1)) (eB ?_) (cH ?_) (aW ?_)
   · rw [e9]; try rfl
   · rw [e9]; try rfl
   · rw [e9]; try rfl
  have e3:gsD gs m.i=true:=aVk heF (by have z:=c7; omega)
  have e8:isD m gs=isL m gs 4097 0 (is0 m gs):=by unfold isD; rw [if_neg (by omega),if_pos e3]
  refine aE ?_
  refine fQ (fun T H=>T 2=(mPq 2)∧T 8=(V.mm 713 1)∧T 10=(mPq 10)∧H 2=(bMq m)∧H 10=(bk 1 80 2 [[(V.ms 36 1 0 (gs.length+1)),V.nilsl]])∧H 15=bZq∧H 18=bZq∧H 36=(bk 1 3 1 (List.map cI (List.replicate (gs.length+1) 0)))∧H 51=bZq∧H 56=bZq∧H 713=(bz 1 cA 2 (eG (owE gs gs.length)))∧True) ?_ ?_
  ·
   refine aA t1 (bI rfl (aU rfl (rNq 1) (by omega) (lA (i:=36) (n:=0) (m:=(gs.length+1)) (q:=(gs.length+1)) (f:=cI) (x:=0) rfl (cVq h36) (rNq (gs.length+1)) (rNq (gs.length+1)) rfl (by omega) (by omega) (by omega) (eL rfl rfl (cQ (i:=10) (n:=0) (m:=2) rfl (cVq h10) rfl (bC (vs:=[(V.ms 36 1 0 (gs.length+1)),V.nilsl]) (B':=(bk 1 80 2 [[(V.ms 36 1 0 (gs.length+1)),V.nilsl]])) rfl rfl rfl rfl (sB oB rfl rfl rfl rfl rfl) ?_))))))
   exact eE ⟨t2,t8,rfl,h2,rfl,h15,h18,rfl,h51,h56,h713,trivial⟩
  intro T H ⟨t2,t8,t10,h2,h10,h15,h18,h36,h51,h56,h713,_⟩
  refine aIs (r':=[(V.ms 36 1 0 (gs.length+1)),(aG ([]))]) h10 rfl (.done ?_)
  refine bF (R:=fun T H=>T 2=(mPq 2)∧T 8=(V.mm 713 1)∧T 10=(mPq 10)∧H 2=(bMq m)∧H 10=(bk 1 80 2 [[(V.ms 36 1 0 (gs.length+1)),(aG ([]))]])∧H 15=bZq∧H 18=bZq∧H 36=(bk 1 3 1 (List.map cI (List.replicate (gs.length+1) 0)))∧H 51=bZq∧H 56=bZq∧H 713=(bz 1 cA 2 (eG (owE gs gs.length)))∧True) ⟨t2,t8,t10,(uTq h2),(aH _ _ _),(uTq h15),(uTq h18),(uTq h36),(uTq h51),(uTq h56),(uTq h713),trivial⟩ ?_
  intro T H ⟨t2,t8,t10,h2,h10,h15,h18,h36,h51,h56,h713,_⟩
  refine aB (W_r (aZ t10 h10 (aS rfl h10 rfl rfl (cS rfl h36 (by rfl) (aA rfl (R_e (aC fun Q8 n8 x8 y8 z8=>?_)))))))
  refine bH (fun mm T H=> ∃ (k:Nat),mm=(gs.length+1) - k∧T 2=(mPq 2)∧T 8=(V.mm 713 1)∧T 10=(mPq 10)∧T 40=(iV (((gs.length+1):Nat):Int))∧T 41=(iV ((k:Nat):Int))∧H 2=(bMq m)∧H 10=(bk 1 80 2 [[(V.ms 36 1 0 (gs.length+1)),(aG ([]))]])∧H 15=bZq∧H 18=bZq∧H 36=(bk 1 3 1 (List.map cI (dA (fun _=>m.s) 0 (gs.length+1) k)))∧H 51=bZq∧H 56=bZq∧H 713=(bz 1 cA 2 (eG (owE gs gs.length)))∧(k≤(gs.length+1))) ?_ ?_
  ·
   refine ⟨_,0,rfl,t2,t8,t10,(eTq (rNq (gs.length+1)) (by rfl)),(eTq (rVq (iV 0)) rfl),h2,(eTq h10 (by rfl)),h15,h18,(eTq h36 (by (rw [← wU,List.map_replicate]; first|done|rfl))),h51,h56,h713,?_⟩
   · exact Nat.zero_le _
  intro mm T H ⟨k,hmm,t2,t8,t10,t40,t41,h2,h10,h15,h18,h36,h51,h56,h713,hk⟩ Q9 p19 p29 p39
  unfold aL5
  refine W_r (bJ t41 t40 (R_e ?_))
  refine aJ rfl (fun c10=>?_) fun c10=>?_
  ·
   refine aE (aC fun Q11 n11 x11 y11 z11=>(W_r (aA t41 (aA rfl (R_e (W_t (aZ t10 h10 ?_)))))))
   refine aS rfl h10 rfl rfl (aA rfl (aZ t2 h2 (aS rfl h2 rfl rfl (bR (i:=k) (rVq (V.ms 36 1 0 (gs.length+1))) (rNq k) h36 oB rfl (by omega) (bC (vs:=[(iV m.s)]) (B':=(bk 1 3 1 (List.map cI ((dA (fun _=>m.s) 0 (gs.length+1) k).set k m.s)))) rfl rfl rfl h36 (eX (x:=m.s) (i:=k) (by (rw [fT]; omega)) rfl rfl rfl rfl) (R_e (n11 _ _ ?_)))))))
   refine .done (W_t (aU t41 (rNq 1) (by omega) (aA rfl (R_e ?_))))
   refine p19 _ _ _ ?_ ⟨(k+1),rfl,t2,t8,t10,t40,(eTq (rNq (k+1)) (by rfl)),h2,h10,h15,h18,(eTq (@rfl Blk (bk 1 3 1 (List.map cI ((dA (fun _=>m.s) 0 (gs.length+1) k).set k m.s)))) (by (rw [← nS (f:=fun _=>m.s) (z:=0) (n:=(gs.length+1)) (j:=k) (by omega)]; first|done|rfl))),h51,h56,h713,?_⟩
   · omega
   · omega
  have e5:dA (fun _=>m.s) 0 (gs.length+1) k=List.replicate (gs.length+1) m.s:=aQ8 (by omega)
  refine aN (p39 _ _ _ (x8 _ _ (bF (R:=fun T H=>T 2=(mPq 2)∧T 8=(V.mm 713 1)∧T 10=(mPq 10)∧T 40=(iV (((gs.length+1):Nat):Int))∧T 41=(iV ((k:Nat):Int))∧T 42=(V.bool (decide (((k:Nat):Int) < (((gs.length+1):Nat):Int))))∧H 2=(bMq m)∧H 10=(bk 1 80 2 [[(V.ms 36 1 0 (gs.length+1)),(aG ([]))]])∧H 15=bZq∧H 18=bZq∧H 36=(bk 1 3 1 (List.map cI (dA (fun _=>m.s) 0 (gs.length+1) k)))∧H 51=bZq∧H 56=bZq∧H 713=(bz 1 cA 2 (eG (owE gs gs.length)))∧True) ⟨t2,t8,t10,t40,t41,(rVq (V.bool (decide (((k:Nat):Int) < (((gs.length+1):Nat):Int))))),h2,h10,h15,h18,h36,h51,h56,h713,trivial⟩ ?_)))
  intro T H ⟨t2,t8,t10,t40,t41,t42,h2,h10,h15,h18,h36,h51,h56,h713,_⟩
  refine nL (id:=36) (id2:=10) (rows:=[[(V.ms 36 1 0 (gs.length+1)),(aG ([]))]]) (i:=0) (off:=0) (r:=[(V.ms 36 1 0 (gs.length+1)),(aG ([]))]) (m:=(dA (fun _=>m.s) 0 (gs.length+1) k)) (g:=cI) (by decide) h36 h10 (by (simp only [List.length_cons,List.length_nil]; omega)) (by exact fT.symm) rfl (.done ?_)
  refine bF (R:=fun T H=>T 2=(mPq 2)∧T 8=(V.mm 713 1)∧T 10=(mPq 10)∧T 40=(iV (((gs.length+1):Nat):Int))∧T 41=(iV ((k:Nat):Int))∧T 42=(V.bool (decide (((k:Nat):Int) < (((gs.length+1):Nat):Int))))∧H 2=(bMq m)∧H 10=(bk 1 80 2 [[(aG (dA (fun _=>m.s) 0 (gs.length+1) k)),(aG ([]))]])∧H 15=bZq∧H 18=bZq∧((H 36).ver=1∧(H 36).live=false)∧H 51=bZq∧H 56=bZq∧H 713=(bz 1 cA 2 (eG (owE gs gs.length)))∧True) ⟨(aL t2 rfl),(aL t8 rfl),(aL t10 rfl),(aL t40 rfl),(aL t41 rfl),(aL t42 rfl),(uTq (aK h2 (by decide))),(aH _ _ _),(uTq (aK h15 (by decide))),(uTq (aK h18 (by decide))),⟨(cVq (aQ _ _ (by decide))).trans (bG (cVq h36)).1,(congrArg Blk.live (aQ _ _ (by decide))).trans (bG (cVq h36)).2⟩,(uTq (aK h51 (by decide))),(uTq (aK h56 (by decide))),(uTq (aK h713 (by decide))),trivial⟩ ?_
  intro T H ⟨t2,t8,t10,t40,t41,t42,h2,h10,h15,h18,h36,h51,h56,h713,_⟩
  refine W_r (tP (i:=51) (n:=0) (rows:=gZ []) rfl (cVq h51) rfl (aS t10 h10 rfl rfl (aV (wZ (dA (fun _=>m.s) 0 (gs.length+1) k) ([]) (by rw [e5]; exact ((aIq (gs:=gs) hm) 0 Nat.one_pos).1.byte hm) (by rw [fT]; omega)) rfl (wO (B':=(bz 1 cA 2 (gZ (snE (is0 m gs))))) (rVq (V.mm 51 1)) (rVq (V.str (kyS (dA (fun _=>m.s) 0 (gs.length+1) k)))) (rVq (V.bool true)) (@rfl Blk (bz 1 cA 2 (gZ []))) (by rw [e5]; exact aB8 rfl) (aA rfl (aA rfl (R_e ?_)))))))
  refine W_r (aS t10 h10 rfl rfl (gA (i:=56) (n:=0) (qs:=[(0,(V.agg [(aG (dA (fun _=>m.s) 0 (gs.length+1) k)),(aG ([]))]))]) (rows:=[[(aG (dA (fun _=>m.s) 0 (gs.length+1) k)),(aG ([]))]]) rfl (cVq h56) (bZ (congrArg (fun v=>(0,v)) rfl) rfl) rfl (aA rfl (R_e (aB (W_r (aA rfl ?_)))))))
  refine R_e (aC fun Q12 n12 x12 y12 z12=>?_)
  refine bH (fun mm T H=> ∃ (i:Nat) (w:Nat) (l:List Sit) (v15:Nat) (v18:Nat),mm=4097 - i∧T 2=(mPq 2)∧T 8=(V.mm 713 1)∧T 12=(V.mm 51 1)∧T 13=(V.ms 56 w 0 l.length)∧T 14=(iV ((i:Nat):Int))∧H 2=(bMq m)∧H 10=(bk 1 80 2 [[(aG (dA (fun _=>m.s) 0 (gs.length+1) k)),(aG ([]))]])∧((H 15).ver=v15∧(H 15).live=false)∧((H 18).ver=v18∧(H 18).live=false)∧((H 36).ver=1∧(H 36).live=false)∧H 51=(bz 1 cA 2 (gZ (snE l)))∧H 56=(bk w 80 2 (List.map cSi l))∧H 713=(bz 1 cA 2 (eG (owE gs gs.length)))∧(i≤4096∧i≤l.length)∧(SpI m gs l)∧(l.length≤1+64*i)∧(isL m gs 4097 0 (is0 m gs)=isL m gs (4097 - i) i l)) ?_ ?_
  ·
   refine ⟨_,0,1,(is0 m gs),0,0,rfl,t2,t8,rfl,(eTq (rVq (V.ms 56 1 0 1)) (by rfl)),(eTq (rVq (iV 0)) rfl),h2,h10,⟨(cVq h15),congrArg Blk.live h15⟩,⟨(cVq h18),congrArg Blk.live h18⟩,h36,(eTq (@rfl Blk (bz 1 cA 2 (gZ (snE (is0 m gs))))) (by rfl)),(eTq (@rfl Blk (bk 1 80 2 [[(aG (dA (fun _=>m.s) 0 (gs.length+1) k)),(aG ([]))]])) (by (rw [e5]; first|done|rfl))),h713,?_,?_,?_,?_⟩
   · exact ⟨by omega,Nat.zero_le _⟩
   · exact aIq hm
   · exact Nat.le_refl _
   · rfl
  intro mm T H ⟨i,w,l,v15,v18,hmm,t2,t8,t12,t13,t14,h2,h10,h15,h18,h36,h51,h56,h713,hi,hI,hll,hc⟩ Q13 p113 p213 p313
  unfold aMX
  refine aB (W_r (aA t14 (aA t13 (cS rfl h56 (by simp) (bJ rfl rfl (R_e ?_))))))
  refine aJ rfl (fun c14=>?_) fun c14=>?_
  ·
   obtain ⟨⟨x1,x2⟩,x3⟩:=hI i (by omega)
   refine aE (aC fun Q15 n15 x15 y15 z15=>(aB (W_r (aA t14 (fC rfl rfl (R_e ?_))))))
   refine aJ rfl (fun c16=>?_) fun c16=>?_
   ·
    have e9:isD m gs=([],false,11):=by rw [e8,hc,aEV (by omega) (by omega)]
    refine aB (W_r (aA rfl (aA rfl (aA rfl (R_e (aX (y15 _ _ ?_)))))))
    refine p213 _ _ (y12 _ _ ?_)
    refine mV (rVq V.nilsl) (rVq (V.bool false)) (rVq (iV 11)) (eB ?_) (cH ?_) (aW ?_)
    · rw [e9]; try rfl
    · rw [e9]; try rfl
    · rw [e9]; try rfl
   refine aE (W_r (aA t13 (aA t14 (bR (i:=i) (rVq (V.ms 56 w 0 l.length)) (rNq i) h56 oB rfl (by omega) (bL (v:=(V.agg [(aG ((nth l i).1)),(aG ((nth l i).2))])) rfl h56 (cJ (by omega) (by rfl)) (cQ (i:=15) (n:=v15) (m:=2) rfl h15.1 rfl (bC (vs:=[(aG ((nth l i).1)),(aG ((nth l i).2))]) (B':=(bk (v15+1) 80 2 [[(aG ((nth l i).1)),(aG ((nth l i).2))]])) rfl rfl rfl rfl (sB oB rfl rfl rfl rfl rfl) ?_)))))))
   refine R_e (W_r (aZ t2 h2 (aS rfl h2 rfl rfl (aA rfl (R_e (iK fun Q17 n17 x17 y17 z17=>?_))))))
   refine bH (fun mm T H=> ∃ (j:Nat) (w2:Nat) (l2:List Sit) (v18:Nat),mm=m.i.toNat - j∧T 2=(mPq 2)∧T 8=(V.mm 713 1)∧T 12=(V.mm 51 1)∧T 13=(V.ms 56 w2 0 l2.length)∧T 14=(iV ((i:Nat):Int))∧T 15=(V.mp 15 (v15+1) 0 0)∧T 70=(iV m.i)∧T 71=(iV ((j:Nat):Int))∧H 2=(bMq m)∧H 10=(bk 1 80 2 [[(aG (dA (fun _=>m.s) 0 (gs.length+1) k)),(aG ([]))]])∧H 15=(bk (v15+1) 80 2 [[(aG ((nth l i).1)),(aG ((nth l i).2))]])∧((H 18).ver=v18∧(H 18).live=false)∧((H 36).ver=1∧(H 36).live=false)∧H 51=(bz 1 cA 2 (gZ (snE l2)))∧H 56=(bk w2 80 2 (List.map cSi l2))∧H 713=(bz 1 cA 2 (eG (owE gs gs.length)))∧(j≤m.i.toNat)∧(SpI m gs l2)∧(l2.length≤1+64*i+j∧l.length≤l2.length)∧(isR m gs (nth l i) m.i.toNat 0 l=isR m gs (nth l i) (m.i.toNat - j) j l2)) ?_ ?_
   ·
    refine ⟨_,0,w,l,v18,rfl,t2,t8,t12,t13,t14,rfl,rfl,(eTq (rVq (iV 0)) rfl),h2,h10,rfl,h18,h36,h51,h56,h713,?_,?_,?_,?_⟩
    · exact Nat.zero_le _
    · exact hI
    · exact ⟨by omega,Nat.le_refl _⟩
    · rfl
   intro mm T H ⟨j,w2,l2,v18,hmm,t2,t8,t12,t13,t14,t15,t70,t71,h2,h10,h15,h18,h36,h51,h56,h713,hj,hI2,hl2,hq⟩ Q18 p118 p218 p318
   unfold aMA
   refine W_r (bJ t71 t70 (R_e ?_))
   refine aJ rfl (fun c19=>?_) fun c19=>?_
   ·
    obtain ⟨o1,o2,o3,o4⟩:=aAs (gs:=gs) (by omega) e3 (show j < m.i.toNat by omega)
    have hyO:=aLX (gs:=gs) (g:=gpN gs j) hm (hI i (by omega)).1 (show j < m.i.toNat by omega) o3
    have hyw:(jE m gs (nth l i) j).2.length=(nth l i).2.length+1:=by show ((nth l i).2++[((j:Nat):Int)]).length=_; simp
    have y0:=x2 0 (by omega)
    have y1:=x2 (gpN gs j+1) (by omega)
    have q0:=mo.2.2.2.2.2.2.2 (nth (nth l i).1 0).toNat (by omega)
    have q1:=mo.2.2.2.2.2.2.2 (nth (nth l i).1 (gpN gs j+1)).toNat (by omega)
    refine aE (aC fun Q20 n20 x20 y20 z20=>(W_r (aA t71 (aA rfl (R_e (W_r (aA t8 ?_)))))))
    refine aA rfl (aBs (z:=(iV 0)) (u:=(iV (((gpN gs j):Nat):Int))) (f:=(inI (owE gs gs.length) ((j:Nat):Int))) (rVq (V.mm 713 1)) (rNq j) h713 (aG1 (by omega) e3 (by omega)) (aA rfl (R_e (W_r (aS t15 h15 rfl rfl (aS t2 h2 rfl rfl (aA rfl ?_)))))))
    refine aA rfl (aV (aBi m ((nth l i).1) ((nth l i).2) j (gpN gs j) hm (by rw [x1]; omega) y0 y1 (by omega) (by rw [x1]; omega) (by omega)) rfl (cQ (i:=18) (n:=v18) (m:=2) rfl h18.1 rfl (bC (vs:=[(aG (dU m ((nth l i).1) j (gpN gs j))),(aG (iG ((nth l i).2) j))]) (B':=(bk (v18+1) 80 2 [[(aG (dU m ((nth l i).1) j (gpN gs j))),(aG (iG ((nth l i).2) j))]])) rfl rfl rfl rfl (sB oB rfl rfl rfl rfl rfl) (R_e (aB (W_r (aZ t2 h2 ?_)))))))
    refine aS rfl h2 rfl rfl (aZ t15 h15 (aS rfl h15 rfl rfl (bE (i:=0) (rVq (aG ((nth l i).1))) (rNq 0) (by omega) rfl (aF rfl rfl (cP (i:=(nth ((nth l i).1) 0)) (rVq (aD m.ot)) (rVq (iV (nth ((nth l i).1) 0))) (by omega) (by omega) rfl (aF rfl rfl (aA rfl ?_)))))))
    refine bE (i:=j) (rVq (aG (nth m.ot (nth ((nth l i).1) 0).toNat))) (rNq j) (by omega) rfl (aF rfl rfl (aZ t2 h2 (aS rfl h2 rfl rfl (aZ t15 h15 (aS rfl h15 rfl rfl (aA rfl (aU rfl (rNq 1) (by omega) ?_)))))))
    refine bE (i:=((gpN gs j)+1)) (rVq (aG ((nth l i).1))) (rNq ((gpN gs j)+1)) (by omega) rfl (aF rfl rfl (cP (i:=(nth ((nth l i).1) ((gpN gs j)+1))) (rVq (aD m.ot)) (rVq (iV (nth ((nth l i).1) ((gpN gs j)+1)))) (by omega) (by omega) rfl (aF rfl rfl (aA rfl (bE (i:=j) (rVq (aG (nth m.ot (nth ((nth l i).1) ((gpN gs j)+1)).toNat))) (rNq j) (by omega) rfl (aF rfl rfl (dD rfl rfl ?_)))))))
    refine R_e ?_
    refine aJ rfl (fun c21=>?_) fun c21=>?_
    ·
     have d1:aDO m gs (nth l i).1 j=true:=decide_eq_true c21
     have e9:isD m gs=((jE m gs (nth l i) j).2,true,0):=by rw [e8,hc,aFi (w:=(jE m gs (nth l i) j).2) (by omega) (by omega) (by rw [hq,aEc (by omega) d1])]
     refine aB ?_
     refine fV (fun T H=>T 4=(aG (iG ((nth l i).2) j))∧T 5=(V.bool true)∧T 6=(iV 0)∧H 2=(bMq m)∧H 10=(bk 1 80 2 [[(aG (dA (fun _=>m.s) 0 (gs.length+1) k)),(aG ([]))]])∧H 15=(bk (v15+1) 80 2 [[(aG ((nth l i).1)),(aG ((nth l i).2))]])∧H 18=(bk (v18+1) 80 2 [[(aG (dU m ((nth l i).1) j (gpN gs j))),(aG (iG ((nth l i).2) j))]])∧((H 36).ver=1∧(H 36).live=false)∧H 51=(bz 1 cA 2 (gZ (snE l2)))∧H 56=(bk w2 80 2 (List.map cSi l2))∧H 713=(bz 1 cA 2 (eG (owE gs gs.length)))∧True) ?_ ?_
     ·
      refine aZ rfl rfl (aS rfl rfl rfl rfl (aA rfl (aA rfl (aA rfl ?_))))
      exact eE ⟨rfl,rfl,rfl,h2,h10,h15,rfl,h36,h51,h56,h713,trivial⟩
     intro T H ⟨t4,t5,t6,h2,h10,h15,h18,h36,h51,h56,h713,_⟩
     refine aX (y20 _ _ (p218 _ _ (y17 _ _ (y15 _ _ (p213 _ _ (y12 _ _ ?_))))))
     refine mV t4 t5 t6 (mJ ?_ (fun _=>by simp)) (cH ?_) (aW ?_)
     · rw [e9]; try rfl
     · rw [e9]; try rfl
     · rw [e9]; try rfl
    have d1:aDO m gs (nth l i).1 j=false:=decide_eq_false c21
    refine aE ?_
    refine fV (fun T H=>T 2=(mPq 2)∧T 8=(V.mm 713 1)∧T 12=(V.mm 51 1)∧T 13=(V.ms 56 w2 0 l2.length)∧T 14=(iV ((i:Nat):Int))∧T 15=(V.mp 15 (v15+1) 0 0)∧T 18=(V.mp 18 (v18+1) 0 0)∧T 70=(iV m.i)∧T 71=(iV ((j:Nat):Int))∧T 113=(V.bool (!(iF l2 (dU m (nth l i).1 j (gpN gs j)))))∧H 2=(bMq m)∧H 10=(bk 1 80 2 [[(aG (dA (fun _=>m.s) 0 (gs.length+1) k)),(aG ([]))]])∧H 15=(bk (v15+1) 80 2 [[(aG ((nth l i).1)),(aG ((nth l i).2))]])∧H 18=(bk (v18+1) 80 2 [[(aG (dU m ((nth l i).1) j (gpN gs j))),(aG (iG ((nth l i).2) j))]])∧((H 36).ver=1∧(H 36).live=false)∧H 51=(bz 1 cA 2 (gZ (snE l2)))∧H 56=(bk w2 80 2 (List.map cSi l2))∧H 713=(bz 1 cA 2 (eG (owE gs gs.length)))∧True) ?_ ?_
    ·
     refine aA t12 (aS rfl rfl rfl rfl (aV (wZ (dU m ((nth l i).1) j (gpN gs j)) (iG ((nth l i).2) j) (hyO.byte hm) (by have z:=hyO.1; omega)) rfl (aBs (z:=(V.bool false)) (u:=(V.bool (iF l2 (dU m (nth l i).1 j (gpN gs j))))) (f:=(iF l2 (dU m (nth l i).1 j (gpN gs j)))) (rVq (V.mm 51 1)) (rVq (V.str (kyS (dU m ((nth l i).1) j (gpN gs j))))) h51 (aLi hm hI2 hyO) (vE rfl ?_))))
     exact eE ⟨t2,t8,t12,t13,t14,t15,rfl,t70,t71,rfl,h2,h10,h15,rfl,h36,h51,h56,h713,trivial⟩
    intro T H ⟨t2,t8,t12,t13,t14,t15,t18,t70,t71,t113,h2,h10,h15,h18,h36,h51,h56,h713,_⟩
    refine aEm t113 (fun c22=>?_) (fun c22=>?_)
    ·
     have d3:iF l2 (dU m (nth l i).1 j (gpN gs j))=false:=by have z:=c22; simpa using z
     refine W_r (aA t12 (aS t18 h18 rfl rfl (aV (wZ (dU m ((nth l i).1) j (gpN gs j)) (iG ((nth l i).2) j) (hyO.byte hm) (by have z:=hyO.1; omega)) rfl (wO (B':=(bz 1 cA 2 (gZ (snE (l2++[(jE m gs (nth l i) j)]))))) (rVq (V.mm 51 1)) (rVq (V.str (kyS (dU m ((nth l i).1) j (gpN gs j))))) (rVq (V.bool true)) h51 (aRw (y:=(jE m gs (nth l i) j)) hm hI2 hyO d3) (R_e (W_t (aA t13 ?_)))))))
     refine aS t18 h18 rfl rfl (bM rfl rfl (bK (l:=l2) (f:=cSi) (x:=((dU m ((nth l i).1) j (gpN gs j),iG ((nth l i).2) j):Sit)) (rVq (V.ms 56 w2 0 l2.length)) h56 (by rfl) (rVq (V.sl [[(aG (dU m ((nth l i).1) j (gpN gs j))),(aG (iG ((nth l i).2) j))]])) rfl rfl (by omega) (by omega) (aA rfl (R_e (n20 _ _ (bF (R:=fun T H=>T 2=(mPq 2)∧T 8=(V.mm 713 1)∧T 12=(V.mm 51 1)∧T 13=(V.ms 56 (w2+1) 0 (l2.length+1))∧T 14=(iV ((i:Nat):Int))∧T 15=(V.mp 15 (v15+1) 0 0)∧T 70=(iV m.i)∧T 71=(iV ((j:Nat):Int))∧H 2=(bMq m)∧H 10=(bk 1 80 2 [[(aG (dA (fun _=>m.s) 0 (gs.length+1) k)),(aG ([]))]])∧H 15=(bk (v15+1) 80 2 [[(aG ((nth l i).1)),(aG ((nth l i).2))]])∧H 18=(bk (v18+1) 80 2 [[(aG (dU m ((nth l i).1) j (gpN gs j))),(aG (iG ((nth l i).2) j))]])∧((H 36).ver=1∧(H 36).live=false)∧H 51=(bz 1 cA 2 (gZ (snE (l2++[(jE m gs (nth l i) j)]))))∧H 56=(bk (w2+1) 80 2 (List.map cSi (l2++[((dU m ((nth l i).1) j (gpN gs j),iG ((nth l i).2) j):Sit)])))∧H 713=(bz 1 cA 2 (eG (owE gs gs.length)))∧True) ⟨t2,t8,t12,(rVq (V.ms 56 (w2+1) 0 (l2.length+1))),t14,t15,t70,t71,h2,h10,h15,h18,h36,rfl,rfl,h713,trivial⟩ ?_))))))
     intro T H ⟨t2,t8,t12,t13,t14,t15,t70,t71,h2,h10,h15,h18,h36,h51,h56,h713,_⟩
     refine .freeze 18 (.done ?_)
     refine bF (R:=fun T H=>T 2=(mPq 2)∧T 8=(V.mm 713 1)∧T 12=(V.mm 51 1)∧T 13=(V.ms 56 (w2+1) 0 (l2.length+1))∧T 14=(iV ((i:Nat):Int))∧T 15=(V.mp 15 (v15+1) 0 0)∧T 70=(iV m.i)∧T 71=(iV ((j:Nat):Int))∧H 2=(bMq m)∧H 10=(bk 1 80 2 [[(aG (dA (fun _=>m.s) 0 (gs.length+1) k)),(aG ([]))]])∧H 15=(bk (v15+1) 80 2 [[(aG ((nth l i).1)),(aG ((nth l i).2))]])∧((H 18).ver=v18+1∧(H 18).live=false)∧((H 36).ver=1∧(H 36).live=false)∧H 51=(bz 1 cA 2 (gZ (snE (l2++[(jE m gs (nth l i) j)]))))∧H 56=(bk (w2+1) 80 2 (List.map cSi (l2++[((dU m ((nth l i).1) j (gpN gs j),iG ((nth l i).2) j):Sit)])))∧H 713=(bz 1 cA 2 (eG (owE gs gs.length)))∧True) ⟨(aL t2 rfl),(aL t8 rfl),(aL t12 rfl),(aL t13 (bV (by decide))),(aL t14 rfl),(aL t15 rfl),(aL t70 rfl),(aL t71 rfl),(aK h2 (by decide)),(aK h10 (by decide)),(aK h15 (by decide)),(bG (cVq h18)),(bU h36),(aK h51 (by decide)),(aK h56 (by decide)),(aK h713 (by decide)),trivial⟩ ?_
     intro T H ⟨t2,t8,t12,t13,t14,t15,t70,t71,h2,h10,h15,h18,h36,h51,h56,h713,_⟩
     refine W_t (aU t71 (rNq 1) (by omega) (aA rfl (R_e ?_)))
     refine p118 _ _ _ ?_ ⟨(j+1),(w2+1),(l2++[(jE m gs (nth l i) j)]),(v18+1),rfl,t2,t8,t12,(eTq t13 (by simp)),t14,t15,t70,(eTq (rNq (j+1)) (by rfl)),h2,h10,h15,h18,h36,(eTq h51 (by rfl)),(eTq h56 (by rfl)),h713,?_,?_,?_,?_⟩
     · omega
     · omega
     · first|exact hI2|exact hI2.add hyO (by rw [hyw]; omega)
     · first|omega|(rw [List.length_append]; simp only [List.length_cons,List.length_nil]; omega)
     · first|(rw [hq,nA (by omega) d1,aAZ (y:=(jE m gs (nth l i) j)) d3]; done)|(rw [hq,nA (by omega) d1,uL (y:=(jE m gs (nth l i) j)) d3]; done)
    have d3:iF l2 (dU m (nth l i).1 j (gpN gs j))=true:=by have z:=c22; simpa using z
    refine dS (n20 _ _ ?_)
    refine .freeze 18 (.done ?_)
    refine bF (R:=fun T H=>T 2=(mPq 2)∧T 8=(V.mm 713 1)∧T 12=(V.mm 51 1)∧T 13=(V.ms 56 w2 0 l2.length)∧T 14=(iV ((i:Nat):Int))∧T 15=(V.mp 15 (v15+1) 0 0)∧T 18=(V.mp 18 (v18+1) 0 0)∧T 70=(iV m.i)∧T 71=(iV ((j:Nat):Int))∧T 113=(V.bool (!(iF l2 (dU m (nth l i).1 j (gpN gs j)))))∧H 2=(bMq m)∧H 10=(bk 1 80 2 [[(aG (dA (fun _=>m.s) 0 (gs.length+1) k)),(aG ([]))]])∧H 15=(bk (v15+1) 80 2 [[(aG ((nth l i).1)),(aG ((nth l i).2))]])∧((H 18).ver=v18+1∧(H 18).live=false)∧((H 36).ver=1∧(H 36).live=false)∧H 51=(bz 1 cA 2 (gZ (snE l2)))∧H 56=(bk w2 80 2 (List.map cSi l2))∧H 713=(bz 1 cA 2 (eG (owE gs gs.length)))∧True) ⟨(aL t2 rfl),(aL t8 rfl),(aL t12 rfl),(aL t13 (bV (by decide))),(aL t14 rfl),(aL t15 rfl),(aL t18 rfl),(aL t70 rfl),(aL t71 rfl),(aL t113 rfl),(aK h2 (by decide)),(aK h10 (by decide)),(aK h15 (by decide)),(bG (cVq h18)),(bU h36),(aK h51 (by decide)),(aK h56 (by decide)),(aK h713 (by decide)),trivial⟩ ?_
    intro T H ⟨t2,t8,t12,t13,t14,t15,t18,t70,t71,t113,h2,h10,h15,h18,h36,h51,h56,h713,_⟩
    refine W_t (aU t71 (rNq 1) (by omega) (aA rfl (R_e ?_)))
    refine p118 _ _ _ ?_ ⟨(j+1),w2,l2,(v18+1),rfl,t2,t8,t12,t13,t14,t15,t70,(eTq (rNq (j+1)) (by rfl)),h2,h10,h15,h18,h36,h51,h56,h713,?_,?_,?_,?_⟩
    · omega
    · omega
    · first|exact hI2|exact hI2.add hyO (by rw [hyw]; omega)
    · first|omega|(rw [List.length_append]; simp only [List.length_cons,List.length_nil]; omega)
    · first|(rw [hq,nA (by omega) d1,aAZ (y:=(jE m gs (nth l i) j)) d3]; done)|(rw [hq,nA (by omega) d1,uL (y:=(jE m gs (nth l i) j)) d3]; done)
   have f1:isR m gs (nth l i) m.i.toNat 0 l=.inr l2:=by rw [hq,aEa (by omega)]
   refine aN (p318 _ _ _ (x17 _ _ (n15 _ _ (bF (R:=fun T H=>T 2=(mPq 2)∧T 8=(V.mm 713 1)∧T 12=(V.mm 51 1)∧T 13=(V.ms 56 w2 0 l2.length)∧T 14=(iV ((i:Nat):Int))∧T 15=(V.mp 15 (v15+1) 0 0)∧T 70=(iV m.i)∧T 71=(iV ((j:Nat):Int))∧T 72=(V.bool (decide (((j:Nat):Int) < m.i)))∧H 2=(bMq m)∧H 10=(bk 1 80 2 [[(aG (dA (fun _=>m.s) 0 (gs.length+1) k)),(aG ([]))]])∧H 15=(bk (v15+1) 80 2 [[(aG ((nth l i).1)),(aG ((nth l i).2))]])∧((H 18).ver=v18∧(H 18).live=false)∧((H 36).ver=1∧(H 36).live=false)∧H 51=(bz 1 cA 2 (gZ (snE l2)))∧H 56=(bk w2 80 2 (List.map cSi l2))∧H 713=(bz 1 cA 2 (eG (owE gs gs.length)))∧True) ⟨t2,t8,t12,t13,t14,t15,t70,t71,(rVq (V.bool (decide (((j:Nat):Int) < m.i)))),h2,h10,h15,h18,h36,h51,h56,h713,trivial⟩ ?_))))
   intro T H ⟨t2,t8,t12,t13,t14,t15,t70,t71,t72,h2,h10,h15,h18,h36,h51,h56,h713,_⟩
   refine .freeze 15 (.done ?_)
   refine bF (R:=fun T H=>T 2=(mPq 2)∧T 8=(V.mm 713 1)∧T 12=(V.mm 51 1)∧T 13=(V.ms 56 w2 0 l2.length)∧T 14=(iV ((i:Nat):Int))∧T 15=(V.mp 15 (v15+1) 0 0)∧T 70=(iV m.i)∧T 71=(iV ((j:Nat):Int))∧T 72=(V.bool (decide (((j:Nat):Int) < m.i)))∧H 2=(bMq m)∧H 10=(bk 1 80 2 [[(aG (dA (fun _=>m.s) 0 (gs.length+1) k)),(aG ([]))]])∧((H 15).ver=v15+1∧(H 15).live=false)∧((H 18).ver=v18∧(H 18).live=false)∧((H 36).ver=1∧(H 36).live=false)∧H 51=(bz 1 cA 2 (gZ (snE l2)))∧H 56=(bk w2 80 2 (List.map cSi l2))∧H 713=(bz 1 cA 2 (eG (owE gs gs.length)))∧True) ⟨(aL t2 rfl),(aL t8 rfl),(aL t12 rfl),(aL t13 (bV (by decide))),(aL t14 rfl),(aL t15 rfl),(aL t70 rfl),(aL t71 rfl),(aL t72 rfl),(aK h2 (by decide)),(aK h10 (by decide)),(bG (cVq h15)),(bU h18),(bU h36),(aK h51 (by decide)),(aK h56 (by decide)),(aK h713 (by decide)),trivial⟩ ?_
   intro T H ⟨t2,t8,t12,t13,t14,t15,t70,t71,t72,h2,h10,h15,h18,h36,h51,h56,h713,_⟩
   refine W_t (aA t14 (aU rfl (rNq 1) (by omega) (aA rfl (R_e ?_))))
   refine p113 _ _ _ ?_ ⟨(i+1),w2,l2,(v15+1),v18,rfl,t2,t8,t12,t13,(eTq (rNq (i+1)) (by rfl)),h2,h10,h15,h18,h36,h51,h56,h713,?_,?_,?_,?_⟩
   · omega
   · exact ⟨by omega,by omega⟩
   · exact hI2
   · omega
   · rw [hc,aHf (by omega) (by omega) f1]
  have e9:isD m gs=([],false,0):=by rw [e8,hc,aEA (by omega) (by omega)]
  refine aN (p313 _ _ _ (x12 _ _ (.done (W_r (aA rfl (aA rfl (aA rfl ?_)))))))
  refine R_e (bN ?_)
  refine mV (rVq V.nilsl) (rVq (V.bool false)) (rVq (iV 0)) (eB ?_) (cH ?_) (aW ?_)
  · rw [e9]; try rfl
  · rw [e9]; try rfl
  · rw [e9]; try rfl
end Go.Proofs.YtmnnhjhkaepbaaaGreat
namespace Go.Proofs.YtmnnhjhkaepbaaaGreat
open Go Go.Proofs
def aPf:List SO:=[
 qF 34 1 8,
 ql 35 34,
 qF 36 1 2,
 ql 37 36,
 sO 38 (.bslice 3 1 false [.int .i64 0] 1 [(0,.t 37)]),
 sO 39 (.append 3 1 8 (.t 35) (.t 38)),
 qF 40 1 8,
 sN (.store 1 (.t 40) (.t 39))]
def aMl:SC:=.seq (.seq (.reg [qM 28 9,qM 29 1,qN 30 29,qP 31 .lss 28 30]) (.cond (.t 31) (.skip) (.exit 0))) (.seq (.block 1 (.reg aPf)) (.reg [qM 32 9,qC 33 .add 32 1,qM 9 33]))
def aSg:List SO:=[
 qL 60 4 2,
 qM 61 10,
 qM 62 11,
 qA 63 3 61 62,
 qL 64 3 63,
 qM 65 12,
 qM 66 13,
 sO 67 (.call false 43 [.t 60,.t 64,.t 65,.t 66]),
 sO 14 (.alloc 87 [.int .i64 0,.nilsl,.nilsl]),
 sN (.store 3 (.t 14) (.t 67))]
def aOB:List SO:=[
 qF 68 3 2,
 ql 69 68,
 qM 70 10,
 qM 71 11,
 qA 72 3 70 71,
 qF 73 0 72,
 ql 74 73,
 qA 75 1 69 74,
 ql 76 75,
 qM 77 12,
 qA 78 1 76 77,
 ql 79 78,
 qF 80 3 2,
 ql 81 80,
 qM 82 10,
 qM 83 11,
 qA 84 3 82 83,
 qF 85 1 84,
 ql 86 85,
 qM 87 13,
 qA 88 1 86 87,
 ql 89 88,
 qA 90 1 81 89,
 ql 91 90,
 qM 92 12,
 qA 93 1 91 92,
 ql 94 93,
 qP 95 .neq 79 94]
def aMW:SC:=.seq (.seq (.reg [qM 51 12,qF 52 0 2,ql 53 52,qP 54 .lss 51 53]) (.cond (.t 54) (.skip) (.exit 4))) (.seq (.block 5 (.seq (.reg [qM 57 1,qM 58 12,sO 59 (.call false 24 [.t 57,.t 58]),qM 13 59]) (.seq (.dreg [14] aSg) (.seq (.seq (.reg aOB) (.cond (.t 95) (.seq (.reg [qF 96 2 14,ql 97 96,qM 4 97,sO 5 (.mv (.c (.bool true))),qI 6 0]) (.ret)) (.skip))) (.seq (.seq (.reg [qM 98 10,qL 99 3 14,sO 100 (.call false 44 [.t 98,.t 99])]) (.cond (.t 100) (.exit 5) (.skip))) (.reg [qM 101 10,qL 102 3 14,sO 103 (.bslice 87 3 false [.int .i64 0,.nilsl,.nilsl] 1 [(0,.t 102)]),sO 104 (.append 87 3 56 (.t 101) (.t 103)),qM 10 104])))))) (.reg [qM 55 12,qC 56 .add 55 1,qM 12 56]))
def aMP:SC:=.seq (.seq (.reg [qM 43 11,qM 44 10,qN 45 44,qP 46 .lss 43 45]) (.cond (.t 46) (.skip) (.exit 2))) (.seq (.block 3 (.seq (.seq (.reg [qM 49 11,qC 50 .geq 49 4096]) (.cond (.t 50) (.seq (.reg [sO 4 (.mv (.c (.nilsl))),sO 5 (.mv (.c (.bool false))),qI 6 11]) (.ret)) (.skip))) (.seq (.reg [qI 12 0]) (.block 4 (.loop aMW))))) (.reg [qM 47 11,qC 48 .add 47 1,qM 11 48]))
def s19:SF:=⟨105,[.tmp 4,.tmp 5,.tmp 6],.seq (.reg [sO 2 (.box 24 4 (.t 0)),sO 4 (.mv (.c (.nilsl))),sO 5 (.mv (.c (.bool false))),qI 6 0]) (.seq (.seq (.reg [qL 15 4 2,sO 16 (.call false 32 [.t 15]),qM 7 16]) (.seq (.reg [qM 17 7,qC 18 .neq 17 0]) (.cond (.t 18) (.seq (.reg [qM 19 7,sO 4 (.mv (.c (.nilsl))),sO 5 (.mv (.c (.bool false))),qM 6 19]) (.ret)) (.skip)))) (.seq (.seq (.reg [qM 20 1,qF 21 0 2,ql 22 21,sO 23 (.call false 42 [.t 20,.t 22]),sO 24 (.un .not (.t 23))]) (.cond (.t 24) (.seq (.reg [sO 4 (.mv (.c (.nilsl))),sO 5 (.mv (.c (.bool false))),qI 6 1]) (.ret)) (.skip))) (.seq (.reg [qF 25 1 2,ql 26 25,sO 27 (.build [.int .i64 0,.nilsl,.nilsl] [(0,1,.t 26)]),sO 8 (.alloc 87 [.int .i64 0,.nilsl,.nilsl]),sN (.store 3 (.t 8) (.t 27))]) (.seq (.seq (.reg [qI 9 0]) (.block 0 (.loop aMl))) (.seq (.reg [qL 41 3 8,sO 42 (.bslice 87 3 true [.int .i64 0,.nilsl,.nilsl] 1 [(0,.t 41)]),qM 10 42]) (.seq (.seq (.reg [qI 11 0]) (.block 2 (.loop aMP))) (.seq (.reg [sO 4 (.mv (.c (.nilsl))),sO 5 (.mv (.c (.bool false))),qI 6 0]) (.ret))))))))⟩
theorem aPD:aO Tryz.prog ⟨[39,75,135,136,137,155,161,186,188,194,195,196,211,212,213,226,230,233,238],[42],[],[]⟩ Tryz.f19=some s19:=by kernel_rfl
def aTY:List SO:=[
 qM 13 6,
 qM 14 0,
 qM 15 5,
 qA 16 1 14 15,
 ql 17 16,
 qN 18 17,
 qP 19 .lss 13 18]
def aTZ:List SO:=[
 qM 22 0,
 qM 23 5,
 qA 24 1 22 23,
 ql 25 24,
 qM 26 6,
 qA 27 1 25 26,
 ql 28 27,
 qM 29 1,
 qP 30 .eql 28 29]
def aMj:SC:=.seq (.seq (.reg aTY) (.cond (.t 19) (.skip) (.exit 2))) (.seq (.block 3 (.seq (.reg aTZ) (.cond (.t 30) (.seq (.reg [qM 31 5,qM 4 31]) (.ret)) (.skip)))) (.reg [qM 20 6,qC 21 .add 20 1,qM 6 21]))
def aML:SC:=.seq (.seq (.reg [qM 7 5,qM 8 0,qN 9 8,qP 10 .lss 7 9]) (.cond (.t 10) (.skip) (.exit 0))) (.seq (.block 1 (.seq (.reg [qI 6 0]) (.block 2 (.loop aMj)))) (.reg [qM 11 5,qC 12 .add 11 1,qM 5 12]))
def s24:SF:=⟨32,[.tmp 4],.seq (.reg [qI 4 0]) (.seq (.seq (.reg [qI 5 0]) (.block 0 (.loop aML))) (.seq (.reg [sO 4 (.mv (.c (.int .i64 (-1))))]) (.ret)))⟩
theorem aPJ:aO Tryz.prog ⟨[39,75,135,136,137,155,161,186,188,194,195,196,211,212,213,226,230,233,238],[],[],[]⟩ Tryz.f24=some s24:=by kernel_rfl
theorem sD (gs:List (List Int)) (a:Int):bA Tryz.prog 24 [(aD gs),(iV a)] (iV (gpI gs a)):=by
 refine pW Tryz.func24 aPJ fun hB=>?_
 unfold s24
 dsimp only
 refine W_r (aA rfl (R_e (aB (W_r (aA rfl (R_e (aC fun Q1 n1 x1 y1 z1=>?_)))))))
 refine bH (fun mm T H=> ∃ (k:Nat),mm=gs.length - k∧T 0=(aD gs)∧T 1=(iV a)∧T 5=(iV ((k:Nat):Int))∧(k≤gs.length)∧(gpI gs a=fi (fun i=>decide (a∈nth gs i)) k (gs.length - k))) ?_ ?_
 ·
  refine ⟨_,0,rfl,rfl,rfl,(eTq (rVq (iV 0)) rfl),?_,?_⟩
  · exact Nat.zero_le _
  · rfl
 intro mm T H ⟨k,hmm,t0,t1,t5,hk,hc⟩ Q2 p12 p22 p32
 unfold aML
 refine aB (W_r (aA t5 (aA t0 (bI rfl (bJ rfl rfl (R_e ?_))))))
 refine aJ rfl (fun c3=>?_) fun c3=>?_
 ·
  have hbk:=hB.2 k (by omega)
  refine aE (aC fun Q4 n4 x4 y4 z4=>(W_r (aA rfl (R_e (iK fun Q5 n5 x5 y5 z5=>?_)))))
  refine bH (fun mm T H=> ∃ (j:Nat),mm=(nth gs k).length - j∧T 0=(aD gs)∧T 1=(iV a)∧T 5=(iV ((k:Nat):Int))∧T 6=(iV ((j:Nat):Int))∧(j≤(nth gs k).length)∧(∀ q,q < j→nth (nth gs k) q≠a)) ?_ ?_
  ·
   refine ⟨_,0,rfl,t0,t1,t5,(eTq (rVq (iV 0)) rfl),?_,?_⟩
   · exact Nat.zero_le _
   · intro q hq; omega
  intro mm T H ⟨j,hmm,t0,t1,t5,t6,hj,hc2⟩ Q6 p16 p26 p36
  unfold aMj
  refine aB (W_r (aA t6 (aA t0 (aA t5 (bE (i:=k) (rVq (aD gs)) (rNq k) (by omega) rfl (aF rfl rfl (bI rfl ?_)))))))
  refine bJ rfl rfl (R_e ?_)
  refine aJ rfl (fun c7=>?_) fun c7=>?_
  ·
   refine aE (aC fun Q8 n8 x8 y8 z8=>(W_r (aA t0 (aA t5 (bE (i:=k) (rVq (aD gs)) (rNq k) (by omega) rfl (aF rfl rfl (aA t6 ?_)))))))
   refine bE (i:=j) (rVq (aG (nth gs k))) (rNq j) (by omega) rfl (aF rfl rfl (aA t1 (fC rfl rfl (R_e ?_))))
   refine iE rfl (fun c9=>?_) fun c9=>?_
   ·
    have d1:=c9
    refine W_r (aA t5 (aA rfl (R_e (bN (y8 _ _ (p26 _ _ (y5 _ _ ?_)))))))
    refine y4 _ _ (p22 _ _ (y1 _ _ ?_))
    refine bS (rNq k) (aW ?_)
    · rw [hc,aCZ (p:=fun i=>decide (a∈nth gs i)) (decide_eq_true (d1 ▸ aY (show j < (nth gs k).length by omega))) (by omega)]
   have d1:=c9
   refine dS (n8 _ _ (.done (W_t (aA t6 (aU rfl (rNq 1) (by omega) (aA rfl (R_e ?_)))))))
   refine p16 _ _ _ ?_ ⟨(j+1),rfl,t0,t1,t5,(eTq (rNq (j+1)) (by rfl)),?_,?_⟩
   · omega
   · omega
   · intro q hq
     by_cases e:q=j
     · subst e; exact d1
     · exact hc2 q (by omega)
  have d5:a∉nth gs k:=sZ fun q hq=>hc2 q (by omega)
  refine aN (p36 _ _ _ (x5 _ _ (n4 _ _ (.done (W_t (aA t5 (aU rfl (rNq 1) (by omega) ?_)))))))
  refine aA rfl (R_e ?_)
  refine p12 _ _ _ ?_ ⟨(k+1),rfl,t0,t1,(eTq (rNq (k+1)) (by rfl)),?_,?_⟩
  · omega
  · omega
  · rw [hc,aAT (p:=fun i=>decide (a∈nth gs i)) (decide_eq_false d5) (by omega)]
 refine aN (p32 _ _ _ (x1 _ _ (.done (W_r (aA rfl (R_e (bN ?_)))))))
 refine bS (rVq (iV (-1))) (aW ?_)
 · rw [hc,aC5 (by omega)]
def aVg:List SO:=[
 qF 5 0 1,
 ql 6 5,
 qC 7 .lss 6 1,
 qM 8 7,
 ⟨some (8,false),some 9,.fld 0 (.t 1)⟩,
 ⟨some (8,false),some 10,.load false 1 (.t 9)⟩,
 ⟨some (8,false),some 11,.bin .gtr (.t 10) (.c (.int .i64 64))⟩,
 sO 12 (.pick (.t 8) (.c (.bool true)) (.t 11))]
def aUE:List SO:=[
 qF 21 1 1,
 ql 22 21,
 qC 23 .lss 22 0,
 qM 24 23,
 ⟨some (24,false),some 25,.fld 1 (.t 1)⟩,
 ⟨some (24,false),some 26,.load false 1 (.t 25)⟩,
 ⟨some (24,false),some 27,.fld 2 (.t 1)⟩,
 ⟨some (24,false),some 28,.load false 1 (.t 27)⟩,
 ⟨some (24,false),some 29,.len (.t 28)⟩,
 ⟨some (24,false),some 30,.bin .geq (.t 26) (.t 29)⟩,
 sO 31 (.pick (.t 24) (.c (.bool true)) (.t 30))]
def aTz:List SO:=[
 qF 32 3 1,
 ql 33 32,
 qN 34 33,
 qF 35 2 1,
 ql 36 35,
 qN 37 36,
 qP 38 .neq 34 37]
def aNc:SC:=.seq (.seq (.reg [qM 39 3,qF 40 2 1,ql 41 40,qN 42 41,qP 43 .lss 39 42]) (.cond (.t 43) (.skip) (.exit 0))) (.seq (.block 1 (.seq (.reg [qL 46 4 1,qM 47 3,sO 48 (.call false 51 [.t 46,.t 47]),qM 4 48]) (.seq (.reg [qM 49 4,qC 50 .neq 49 0]) (.cond (.t 50) (.seq (.reg [qM 51 4,qM 2 51]) (.ret)) (.skip))))) (.reg [qM 44 3,qC 45 .add 44 1,qM 3 45]))
def s32:SF:=⟨52,[.tmp 2],.seq (.reg [sO 1 (.box 24 4 (.t 0)),qI 2 0]) (.seq (.seq (.reg aVg) (.cond (.t 12) (.seq (.reg [qI 2 2]) (.ret)) (.skip))) (.seq (.seq (.reg [qF 13 2 1,ql 14 13,qN 15 14,qC 16 .eql 15 0]) (.cond (.t 16) (.seq (.reg [qI 2 19]) (.ret)) (.skip))) (.seq (.seq (.reg [qF 17 2 1,ql 18 17,qN 19 18,qC 20 .gtr 19 128]) (.cond (.t 20) (.seq (.reg [qI 2 11]) (.ret)) (.skip))) (.seq (.seq (.reg aUE) (.cond (.t 31) (.seq (.reg [qI 2 2]) (.ret)) (.skip))) (.seq (.seq (.reg aTz) (.cond (.t 38) (.seq (.reg [qI 2 1]) (.ret)) (.skip))) (.seq (.seq (.reg [qI 3 0]) (.block 0 (.loop aNc))) (.seq (.reg [qI 2 0]) (.ret))))))))⟩
theorem aRc:aO Tryz.prog ⟨[39,75,135,136,137,155,161,186,188,194,195,196,211,212,213,226,230,233,238],[],[],[]⟩ Tryz.f32=some s32:=by kernel_rfl
def aTW:List SO:=[
 qF 6 2 2,
 ql 7 6,
 qM 8 1,
 qA 9 1 7 8,
 ql 10 9,
 qN 11 10,
 qF 12 0 2,
 ql 13 12,
 qP 14 .neq 11 13,
 qM 15 14,
 ⟨some (15,false),some 16,.fld 3 (.t 2)⟩,
 ⟨some (15,false),some 17,.load false 1 (.t 16)⟩,
 ⟨some (15,false),some 18,.mv (.t 1)⟩,
 ⟨some (15,false),some 19,.idx 1 (.t 17) (.t 18)⟩,
 ⟨some (15,false),some 20,.load false 1 (.t 19)⟩,
 ⟨some (15,false),some 21,.len (.t 20)⟩,
 ⟨some (15,false),some 22,.fld 0 (.t 2)⟩,
 ⟨some (15,false),some 23,.load false 1 (.t 22)⟩,
 ⟨some (15,false),some 24,.bin .neq (.t 21) (.t 23)⟩,
 sO 25 (.pick (.t 15) (.c (.bool true)) (.t 24))]
def aUo:List SO:=[
 qF 32 2 2,
 ql 33 32,
 qM 34 1,
 qA 35 1 33 34,
 ql 36 35,
 qM 37 5,
 qA 38 1 36 37,
 ql 39 38,
 qC 40 .lss 39 0,
 qM 41 40,
 ⟨some (41,false),some 42,.fld 2 (.t 2)⟩,
 ⟨some (41,false),some 43,.load false 1 (.t 42)⟩,
 ⟨some (41,false),some 44,.mv (.t 1)⟩,
 ⟨some (41,false),some 45,.idx 1 (.t 43) (.t 44)⟩,
 ⟨some (41,false),some 46,.load false 1 (.t 45)⟩,
 ⟨some (41,false),some 47,.mv (.t 5)⟩,
 ⟨some (41,false),some 48,.idx 1 (.t 46) (.t 47)⟩,
 ⟨some (41,false),some 49,.load false 1 (.t 48)⟩,
 ⟨some (41,false),some 50,.fld 2 (.t 2)⟩,
 ⟨some (41,false),some 51,.load false 1 (.t 50)⟩,
 ⟨some (41,false),some 52,.len (.t 51)⟩,
 ⟨some (41,false),some 53,.bin .geq (.t 49) (.t 52)⟩,
 sO 54 (.pick (.t 41) (.c (.bool true)) (.t 53)),
 qM 55 54,
 ⟨some (55,false),some 56,.fld 3 (.t 2)⟩,
 ⟨some (55,false),some 57,.load false 1 (.t 56)⟩,
 ⟨some (55,false),some 58,.mv (.t 1)⟩,
 ⟨some (55,false),some 59,.idx 1 (.t 57) (.t 58)⟩,
 ⟨some (55,false),some 60,.load false 1 (.t 59)⟩,
 ⟨some (55,false),some 61,.mv (.t 5)⟩,
 ⟨some (55,false),some 62,.idx 1 (.t 60) (.t 61)⟩,
 ⟨some (55,false),some 63,.load false 1 (.t 62)⟩,
 ⟨some (55,false),some 64,.bin .lss (.t 63) (.c (.int .i64 0))⟩,
 sO 65 (.pick (.t 55) (.c (.bool true)) (.t 64)),
 qM 66 65,
 ⟨some (66,false),some 67,.fld 3 (.t 2)⟩,
 ⟨some (66,false),some 68,.load false 1 (.t 67)⟩,
 ⟨some (66,false),some 69,.mv (.t 1)⟩,
 ⟨some (66,false),some 70,.idx 1 (.t 68) (.t 69)⟩,
 ⟨some (66,false),some 71,.load false 1 (.t 70)⟩,
 ⟨some (66,false),some 72,.mv (.t 5)⟩,
 ⟨some (66,false),some 73,.idx 1 (.t 71) (.t 72)⟩,
 ⟨some (66,false),some 74,.load false 1 (.t 73)⟩,
 ⟨some (66,false),some 75,.bin .gtr (.t 74) (.c (.int .i64 1048576))⟩,
 sO 76 (.pick (.t 66) (.c (.bool true)) (.t 75))]
def aMy:SC:=.seq (.seq (.reg [qM 26 5,qF 27 0 2,ql 28 27,qP 29 .lss 26 28]) (.cond (.t 29) (.skip) (.exit 0))) (.seq (.block 1 (.seq (.reg aUo) (.cond (.t 76) (.seq (.reg [qI 4 2]) (.ret)) (.skip)))) (.reg [qM 30 5,qC 31 .add 30 1,qM 5 31]))
def s51:SF:=⟨77,[.tmp 4],.seq (.reg [sO 2 (.box 24 4 (.t 0)),qI 4 0]) (.seq (.seq (.reg aTW) (.cond (.t 25) (.seq (.reg [qI 4 1]) (.ret)) (.skip))) (.seq (.seq (.reg [qI 5 0]) (.block 0 (.loop aMy))) (.seq (.reg [qI 4 0]) (.ret))))⟩
theorem aOY:aO Tryz.prog ⟨[39,75,135,136,137,155,161,186,188,194,195,196,211,212,213,226,230,233,238],[],[],[]⟩ Tryz.f51=some s51:=by kernel_rfl
theorem aGZ (m:M) (s:Nat) (h1:s < m.nx.length) (h2:s < m.ot.length) (hi:1≤m.i∧m.i≤64):bA Tryz.prog 51 [(V.agg [(iV m.i),(iV m.s),(aD m.nx),(aD m.ot)]),(iV ((s:Nat):Int))] (iV (nX m s)):=by
 refine pW Tryz.func51 aOY fun hB=>?_
 unfold s51
 dsimp only
 refine W_r (dN (i:=2) (n:=0) (m:=4) (cs:=[(iV m.i),(iV m.s),(aD m.nx),(aD m.ot)]) rfl (cVq rfl) rfl rfl rfl (aA rfl (R_e (aB (W_r (aZ rfl rfl (aS rfl rfl rfl rfl ?_)))))))
 refine aA rfl (bE (i:=s) (rVq (aD m.nx)) (rNq s) (by omega) rfl (aF rfl rfl (bI rfl (aZ rfl rfl (aS rfl rfl rfl rfl (dD rfl rfl (aA rfl ?_)))))))
 refine bW 10 (fun T H=>T 1=(iV ((s:Nat):Int))∧T 2=(mPq 2)∧T 25=(V.bool (decide (((((nth m.nx s).length:Nat):Int)≠m.i)∨((((nth m.ot s).length:Nat):Int)≠m.i))))∧H 2=(bMq m)∧True) ?_ ?_
 ·
  by_cases g1:(((nth m.nx s).length:Nat):Int)≠m.i
  ·
   refine G_n (edT g1 rfl) (G_n (edT g1 rfl) (G_n (edT g1 rfl) (G_n (edT g1 rfl) (G_n (edT g1 rfl) (G_n (edT g1 rfl) (G_n (edT g1 rfl) (G_n (edT g1 rfl) ?_)))))))
   refine G_n (edT g1 rfl) (bY (edT g1 rfl) rfl ?_)
   exact ⟨rfl,rfl,(dY g1),rfl,trivial⟩
  ·
   refine aM (edF g1 rfl) (aZ rfl rfl (aM (edF g1 rfl) (aS rfl rfl rfl rfl (aM (edF g1 rfl) (aA rfl (aM (edF g1 rfl) (bE (i:=s) (rVq (aD m.ot)) (rNq s) (by omega) rfl ?_)))))))
   refine aM (edF g1 rfl) (aF rfl rfl (aM (edF g1 rfl) (bI rfl (aM (edF g1 rfl) (aZ rfl rfl (aM (edF g1 rfl) (aS rfl rfl rfl rfl ?_)))))))
   refine aM (edF g1 rfl) (dD rfl rfl (bX (edF g1 rfl) rfl ?_))
   exact ⟨rfl,rfl,(dX g1),rfl,trivial⟩
 intro T H ⟨t1,t2,t25,h2,_⟩
 refine R_e ?_
 refine aJ t25 (fun c2=>?_) fun c2=>?_
 ·
  refine aB (W_r (aA rfl (R_e (aX ?_))))
  refine bS (rVq (iV 1)) (aW ?_)
  · rw [nX,if_pos (by omega)]
 refine aE (aB (W_r (aA rfl (R_e (aC fun Q3 n3 x3 y3 z3=>?_)))))
 refine bH (fun mm T H=> ∃ (k:Nat),mm=m.i.toNat - k∧T 1=(iV ((s:Nat):Int))∧T 2=(mPq 2)∧T 5=(iV ((k:Nat):Int))∧H 2=(bMq m)∧(k≤m.i.toNat)∧(((nth m.nx s).length:Int)=m.i∧((nth m.ot s).length:Int)=m.i)∧(nX m s=fe (tL m s) k (m.i.toNat - k))) ?_ ?_
 ·
  refine ⟨_,0,rfl,t1,t2,(eTq (rVq (iV 0)) rfl),h2,?_,?_,?_⟩
  · omega
  · omega
  · rw [nX,if_neg (by omega)]; rfl
 intro mm T H ⟨k,hmm,t1,t2,t5,h2,hk,hl,hc⟩ Q4 p14 p24 p34
 unfold aMy
 refine aB (W_r (aA t5 (aZ t2 h2 (aS rfl h2 rfl rfl (bJ rfl rfl (R_e ?_))))))
 refine aJ rfl (fun c5=>?_) fun c5=>?_
 ·
  refine aE (aC fun Q6 n6 x6 y6 z6=>?_)
  refine fV (fun T H=>T 1=(iV ((s:Nat):Int))∧T 2=(mPq 2)∧T 5=(iV ((k:Nat):Int))∧T 76=(V.bool (decide (((((nth (nth m.nx s) k) < (0:Int))∨(((m.nx.length:Nat):Int)≤(nth (nth m.nx s) k)))∨((nth (nth m.ot s) k) < (0:Int)))∨((1048576:Int) < (nth (nth m.ot s) k)))))∧H 2=(bMq m)∧True) ?_ ?_
  ·
   refine aZ t2 h2 (aS rfl h2 rfl rfl (aA t1 (bE (i:=s) (rVq (aD m.nx)) (rNq s) (by omega) rfl (aF rfl rfl (aA t5 (bE (i:=k) (rVq (aG (nth m.nx s))) (rNq k) (by omega) rfl (aF rfl rfl ?_)))))))
   refine bJ rfl rfl (aA rfl ?_)
   refine bW 13 (fun T H=>T 1=(iV ((s:Nat):Int))∧T 2=(mPq 2)∧T 5=(iV ((k:Nat):Int))∧T 54=(V.bool (decide (((nth (nth m.nx s) k) < (0:Int))∨(((m.nx.length:Nat):Int)≤(nth (nth m.nx s) k)))))∧H 2=(bMq m)∧True) ?_ ?_
   ·
    by_cases g7:(nth (nth m.nx s) k) < (0:Int)
    ·
     refine G_n (edT g7 rfl) (G_n (edT g7 rfl) (G_n (edT g7 rfl) (G_n (edT g7 rfl) (G_n (edT g7 rfl) (G_n (edT g7 rfl) (G_n (edT g7 rfl) (G_n (edT g7 rfl) ?_)))))))
     refine G_n (edT g7 rfl) (G_n (edT g7 rfl) (G_n (edT g7 rfl) (G_n (edT g7 rfl) (bY (edT g7 rfl) rfl ?_))))
     exact ⟨t1,t2,t5,(dY g7),h2,trivial⟩
    ·
     refine aM (edF g7 rfl) (aZ t2 h2 (aM (edF g7 rfl) (aS rfl h2 rfl rfl (aM (edF g7 rfl) (aA t1 (aM (edF g7 rfl) (bE (i:=s) (rVq (aD m.nx)) (rNq s) (by omega) rfl ?_)))))))
     refine aM (edF g7 rfl) (aF rfl rfl (aM (edF g7 rfl) (aA t5 (aM (edF g7 rfl) (bE (i:=k) (rVq (aG (nth m.nx s))) (rNq k) (by omega) rfl (aM (edF g7 rfl) (aF rfl rfl ?_)))))))
     refine aM (edF g7 rfl) (aZ t2 h2 (aM (edF g7 rfl) (aS rfl h2 rfl rfl (aM (edF g7 rfl) (bI rfl (aM (edF g7 rfl) (lZ rfl rfl ?_)))))))
     refine bX (edF g7 rfl) rfl ?_
     exact ⟨t1,t2,t5,(dX g7),h2,trivial⟩
   intro T H ⟨t1,t2,t5,t54,h2,_⟩
   refine aA t54 ?_
   refine bW 10 (fun T H=>T 1=(iV ((s:Nat):Int))∧T 2=(mPq 2)∧T 5=(iV ((k:Nat):Int))∧T 65=(V.bool (decide ((((nth (nth m.nx s) k) < (0:Int))∨(((m.nx.length:Nat):Int)≤(nth (nth m.nx s) k)))∨((nth (nth m.ot s) k) < (0:Int)))))∧H 2=(bMq m)∧True) ?_ ?_
   ·
    by_cases g8:((nth (nth m.nx s) k) < (0:Int))∨(((m.nx.length:Nat):Int)≤(nth (nth m.nx s) k))
    ·
     refine G_n (edT g8 rfl) (G_n (edT g8 rfl) (G_n (edT g8 rfl) (G_n (edT g8 rfl) (G_n (edT g8 rfl) (G_n (edT g8 rfl) (G_n (edT g8 rfl) (G_n (edT g8 rfl) ?_)))))))
     refine G_n (edT g8 rfl) (bY (edT g8 rfl) rfl ?_)
     exact ⟨t1,t2,t5,(dY g8),h2,trivial⟩
    ·
     refine aM (edF g8 rfl) (aZ t2 h2 (aM (edF g8 rfl) (aS rfl h2 rfl rfl (aM (edF g8 rfl) (aA t1 (aM (edF g8 rfl) (bE (i:=s) (rVq (aD m.ot)) (rNq s) (by omega) rfl ?_)))))))
     refine aM (edF g8 rfl) (aF rfl rfl (aM (edF g8 rfl) (aA t5 (aM (edF g8 rfl) (bE (i:=k) (rVq (aG (nth m.ot s))) (rNq k) (by omega) rfl (aM (edF g8 rfl) (aF rfl rfl ?_)))))))
     refine aM (edF g8 rfl) (bJ rfl rfl (bX (edF g8 rfl) rfl ?_))
     exact ⟨t1,t2,t5,(dX g8),h2,trivial⟩
   intro T H ⟨t1,t2,t5,t65,h2,_⟩
   refine aA t65 ?_
   refine bW 10 (fun T H=>T 1=(iV ((s:Nat):Int))∧T 2=(mPq 2)∧T 5=(iV ((k:Nat):Int))∧T 76=(V.bool (decide (((((nth (nth m.nx s) k) < (0:Int))∨(((m.nx.length:Nat):Int)≤(nth (nth m.nx s) k)))∨((nth (nth m.ot s) k) < (0:Int)))∨((1048576:Int) < (nth (nth m.ot s) k)))))∧H 2=(bMq m)∧True) ?_ ?_
   ·
    by_cases g9:(((nth (nth m.nx s) k) < (0:Int))∨(((m.nx.length:Nat):Int)≤(nth (nth m.nx s) k)))∨((nth (nth m.ot s) k) < (0:Int))
    ·
     refine G_n (edT g9 rfl) (G_n (edT g9 rfl) (G_n (edT g9 rfl) (G_n (edT g9 rfl) (G_n (edT g9 rfl) (G_n (edT g9 rfl) (G_n (edT g9 rfl) (G_n (edT g9 rfl) ?_)))))))
     refine G_n (edT g9 rfl) (bY (edT g9 rfl) rfl ?_)
     exact ⟨t1,t2,t5,(dY g9),h2,trivial⟩
    ·
     refine aM (edF g9 rfl) (aZ t2 h2 (aM (edF g9 rfl) (aS rfl h2 rfl rfl (aM (edF g9 rfl) (aA t1 (aM (edF g9 rfl) (bE (i:=s) (rVq (aD m.ot)) (rNq s) (by omega) rfl ?_)))))))
     refine aM (edF g9 rfl) (aF rfl rfl (aM (edF g9 rfl) (aA t5 (aM (edF g9 rfl) (bE (i:=k) (rVq (aG (nth m.ot s))) (rNq k) (by omega) rfl (aM (edF g9 rfl) (aF rfl rfl ?_)))))))
     refine aM (edF g9 rfl) (iQ rfl rfl (bX (edF g9 rfl) rfl ?_))
     exact ⟨t1,t2,t5,(dX g9),h2,trivial⟩
   intro T H ⟨t1,t2,t5,t76,h2,_⟩
   exact eE ⟨t1,t2,t5,t76,h2,trivial⟩
  intro T H ⟨t1,t2,t5,t76,h2,_⟩
  refine iE t76 (fun c10=>?_) fun c10=>?_
  ·
   refine W_r (aA rfl (R_e (bN (y6 _ _ (p24 _ _ (y3 _ _ ?_))))))
   refine bS (rVq (iV 2)) (aW ?_)
   · rw [hc,uY (by unfold tL; split <;> omega) (by omega)]; unfold tL; split <;> omega
  refine dS (n6 _ _ (.done (W_t (aA t5 (aU rfl (rNq 1) (by omega) (aA rfl (R_e ?_)))))))
  refine p14 _ _ _ ?_ ⟨(k+1),rfl,t1,t2,(eTq (rNq (k+1)) (by rfl)),h2,?_,?_,?_⟩
  · omega
  · omega
  · omega
  · rw [hc,tU (by unfold tL; split <;> omega) (by omega)]
 refine aN (p34 _ _ _ (x3 _ _ (.done (W_r (aA rfl (R_e (bN ?_)))))))
 refine bS (rVq (iV 0)) (aW ?_)
 · rw [hc,aAG (by omega)]
theorem iS (m:M):bA Tryz.prog 32 [(V.agg [(iV m.i),(iV m.s),(aD m.nx),(aD m.ot)])] (iV (bD m)):=by
 refine pW Tryz.func32 aRc fun hB=>?_
 unfold s32
 dsimp only
 refine W_r (dN (i:=1) (n:=0) (m:=4) (cs:=[(iV m.i),(iV m.s),(aD m.nx),(aD m.ot)]) rfl (cVq rfl) rfl rfl rfl (aA rfl (R_e (aB (W_r (aZ rfl rfl (aS rfl rfl rfl rfl ?_)))))))
 refine bJ rfl rfl (aA rfl ?_)
 refine bW 4 (fun T H=>T 1=(mPq 1)∧T 12=(V.bool (decide ((m.i < (1:Int))∨((64:Int) < m.i))))∧H 1=(bMq m)∧True) ?_ ?_
 ·
  by_cases g1:m.i < (1:Int)
  ·
   refine G_n (edT g1 rfl) (G_n (edT g1 rfl) (G_n (edT g1 rfl) (bY (edT g1 rfl) rfl ?_)))
   exact ⟨rfl,(dY g1),rfl,trivial⟩
  ·
   refine aM (edF g1 rfl) (aZ rfl rfl (aM (edF g1 rfl) (aS rfl rfl rfl rfl (aM (edF g1 rfl) (iQ rfl rfl (bX (edF g1 rfl) rfl ?_))))))
   exact ⟨rfl,(dX g1),rfl,trivial⟩
 intro T H ⟨t1,t12,h1,_⟩
 refine R_e ?_
 refine aJ t12 (fun c2=>?_) fun c2=>?_
 ·
  refine aB (W_r (aA rfl (R_e (aX ?_))))
  refine bS (rVq (iV 2)) (aW ?_)
  · rw [bD,if_pos (by omega)]
 refine aE (aB (W_r (aZ t1 h1 (aS rfl h1 rfl rfl (bI rfl (fC rfl rfl (R_e ?_)))))))
 refine aJ rfl (fun c3=>?_) fun c3=>?_
 ·
  refine aB (W_r (aA rfl (R_e (aX ?_))))
  refine bS (rVq (iV 19)) (aW ?_)
  · rw [bD,if_neg (by omega),if_pos (by omega)]
 refine aE (aB (W_r (aZ t1 h1 (aS rfl h1 rfl rfl (bI rfl (iQ rfl rfl (R_e ?_)))))))
 refine aJ rfl (fun c4=>?_) fun c4=>?_
 ·
  refine aB (W_r (aA rfl (R_e (aX ?_))))
  refine bS (rVq (iV 11)) (aW ?_)
  · rw [bD,if_neg (by omega),if_neg (by omega),if_pos (by omega)]
 refine aE (aB (W_r (aZ t1 h1 (aS rfl h1 rfl rfl (bJ rfl rfl (aA rfl ?_))))))
 refine bW 7 (fun T H=>T 1=(mPq 1)∧T 31=(V.bool (decide ((m.s < (0:Int))∨(((m.nx.length:Nat):Int)≤m.s))))∧H 1=(bMq m)∧True) ?_ ?_
 ·
  by_cases g5:m.s < (0:Int)
  ·
   refine G_n (edT g5 rfl) (G_n (edT g5 rfl) (G_n (edT g5 rfl) (G_n (edT g5 rfl) (G_n (edT g5 rfl) (G_n (edT g5 rfl) (bY (edT g5 rfl) rfl ?_))))))
   exact ⟨t1,(dY g5),h1,trivial⟩
  ·
   refine aM (edF g5 rfl) (aZ t1 h1 (aM (edF g5 rfl) (aS rfl h1 rfl rfl (aM (edF g5 rfl) (aZ t1 h1 (aM (edF g5 rfl) (aS rfl h1 rfl rfl ?_)))))))
   refine aM (edF g5 rfl) (bI rfl (aM (edF g5 rfl) (lZ rfl rfl (bX (edF g5 rfl) rfl ?_))))
   exact ⟨t1,(dX g5),h1,trivial⟩
 intro T H ⟨t1,t31,h1,_⟩
 refine R_e ?_
 refine aJ t31 (fun c6=>?_) fun c6=>?_
 ·
  refine aB (W_r (aA rfl (R_e (aX ?_))))
  refine bS (rVq (iV 2)) (aW ?_)
  · rw [bD,if_neg (by omega),if_neg (by omega),if_neg (by omega),if_pos (by omega)]
 refine aE (aB (W_r (aZ t1 h1 (aS rfl h1 rfl rfl (bI rfl (aZ t1 h1 (aS rfl h1 rfl rfl ?_)))))))
 refine bI rfl (dD rfl rfl (R_e ?_))
 refine aJ rfl (fun c7=>?_) fun c7=>?_
 ·
  refine aB (W_r (aA rfl (R_e (aX ?_))))
  refine bS (rVq (iV 1)) (aW ?_)
  · rw [bD,if_neg (by omega),if_neg (by omega),if_neg (by omega),if_neg (by omega),if_pos (by omega)]
 refine aE (aB (W_r (aA rfl (R_e (aC fun Q8 n8 x8 y8 z8=>?_)))))
 refine bH (fun mm T H=> ∃ (k:Nat),mm=m.nx.length - k∧T 1=(mPq 1)∧T 3=(iV ((k:Nat):Int))∧H 1=(bMq m)∧(k≤m.nx.length)∧(1≤m.i∧m.i≤64∧0 < m.nx.length∧m.nx.length≤128∧m.ot.length=m.nx.length)∧(bD m=fe (nX m) k (m.nx.length - k))) ?_ ?_
 ·
  refine ⟨_,0,rfl,t1,(eTq (rVq (iV 0)) rfl),h1,?_,?_,?_⟩
  · omega
  · omega
  · rw [bD,if_neg (by omega),if_neg (by omega),if_neg (by omega),if_neg (by omega),if_neg (by omega)]; rfl
 intro mm T H ⟨k,hmm,t1,t3,h1,hk,hv,hc⟩ Q9 p19 p29 p39
 unfold aNc
 refine aB (W_r (aA t3 (aZ t1 h1 (aS rfl h1 rfl rfl (bI rfl (bJ rfl rfl (R_e ?_)))))))
 refine aJ rfl (fun c10=>?_) fun c10=>?_
 ·
  refine aE (aC fun Q11 n11 x11 y11 z11=>(W_r (aS t1 h1 rfl rfl (aA t3 (aV (aGZ m k (by omega) (by omega) (by omega)) rfl (aA rfl (R_e ?_)))))))
  refine W_r (aA rfl (dD rfl rfl (R_e ?_)))
  refine iE rfl (fun c12=>?_) fun c12=>?_
  ·
   refine W_r (aA rfl (aA rfl (R_e (bN (y11 _ _ (p29 _ _ (y8 _ _ ?_)))))))
   refine bS (rVq (iV (nX m k))) (aW ?_)
   · rw [hc,uY (by omega) (by omega)]
  refine dS (n11 _ _ (.done (W_t (aA t3 (aU rfl (rNq 1) (by omega) (aA rfl (R_e ?_)))))))
  refine p19 _ _ _ ?_ ⟨(k+1),rfl,t1,(eTq (rNq (k+1)) (by rfl)),h1,?_,?_,?_⟩
  · omega
  · omega
  · omega
  · rw [hc,tU (by omega) (by omega)]
 refine aN (p39 _ _ _ (x8 _ _ (.done (W_r (aA rfl (R_e (bN ?_)))))))
 refine bS (rVq (iV 0)) (aW ?_)
 · rw [hc,aAG (by omega)]
def aUh:List SO:=[
 qM 14 0,
 qM 15 6,
 qA 16 1 14 15,
 ql 17 16,
 qN 18 17,
 qC 19 .eql 18 0,
 qM 20 19,
 ⟨some (20,false),some 21,.mv (.t 0)⟩,
 ⟨some (20,false),some 22,.mv (.t 6)⟩,
 ⟨some (20,false),some 23,.idx 1 (.t 21) (.t 22)⟩,
 ⟨some (20,false),some 24,.load false 1 (.t 23)⟩,
 ⟨some (20,false),some 25,.len (.t 24)⟩,
 ⟨some (20,false),some 26,.mv (.t 1)⟩,
 ⟨some (20,false),some 27,.bin .gtr (.t 25) (.t 26)⟩,
 sO 28 (.pick (.t 20) (.c (.bool true)) (.t 27)),
 qM 29 28,
 ⟨some (29,false),some 30,.mv (.t 5)⟩,
 ⟨some (29,false),some 31,.mv (.t 1)⟩,
 ⟨some (29,false),some 32,.bin .gtr (.t 30) (.t 31)⟩,
 sO 33 (.pick (.t 29) (.c (.bool true)) (.t 32))]
def aTC:List SO:=[
 qM 34 5,
 qM 35 0,
 qM 36 6,
 qA 37 1 35 36,
 ql 38 37,
 qN 39 38,
 qP 40 .add 34 39,
 qM 5 40]
def aMc:SC:=.seq (.seq (.reg [qM 8 6,qM 9 0,qN 10 9,qP 11 .lss 8 10]) (.cond (.t 11) (.skip) (.exit 0))) (.seq (.block 1 (.seq (.seq (.reg aUh) (.cond (.t 33) (.seq (.reg [sO 4 (.mv (.c (.bool false)))]) (.ret)) (.skip))) (.reg aTC))) (.reg [qM 12 6,qC 13 .add 12 1,qM 6 13]))
def aMT:SC:=.seq (.seq (.reg [qM 44 7,qM 45 1,qP 46 .lss 44 45]) (.cond (.t 46) (.skip) (.exit 2))) (.seq (.block 3 (.seq (.reg [qM 49 0,qM 50 7,sO 51 (.call false 24 [.t 49,.t 50]),qC 52 .lss 51 0]) (.cond (.t 52) (.seq (.reg [sO 4 (.mv (.c (.bool false)))]) (.ret)) (.skip)))) (.reg [qM 47 7,qC 48 .add 47 1,qM 7 48]))
def s42:SF:=⟨53,[.tmp 4],.seq (.reg [sO 4 (.mv (.c (.bool false)))]) (.seq (.reg [qI 5 0]) (.seq (.seq (.reg [qI 6 0]) (.block 0 (.loop aMc))) (.seq (.seq (.reg [qM 41 5,qM 42 1,qP 43 .neq 41 42]) (.cond (.t 43) (.seq (.reg [sO 4 (.mv (.c (.bool false)))]) (.ret)) (.skip))) (.seq (.seq (.reg [qI 7 0]) (.block 2 (.loop aMT))) (.seq (.reg [sO 4 (.mv (.c (.bool true)))]) (.ret))))))⟩
theorem aRs:aO Tryz.prog ⟨[39,75,135,136,137,155,161,186,188,194,195,196,211,212,213,226,230,233,238],[],[],[]⟩ Tryz.f42=some s42:=by kernel_rfl
theorem aAH (gs:List (List Int)) (i:Int) (hi:0≤i∧i≤64):bA Tryz.prog 42 [(aD gs),(iV i)] (V.bool (gsD gs i)):=by
 refine pW Tryz.func42 aRs fun hB=>?_
 unfold s42
 dsimp only
 refine W_r (aA rfl (R_e (W_r (aA rfl (R_e (aB (W_r ?_)))))))
 refine aA rfl (R_e (aC fun Q1 n1 x1 y1 z1=>?_))
 refine bH (fun mm T H=> ∃ (k:Nat),mm=gs.length - k∧T 0=(aD gs)∧T 1=(iV i)∧T 5=(iV (((gs.take k).flatten.length:Nat):Int))∧T 6=(iV ((k:Nat):Int))∧(k≤gs.length)∧(((gs.take k).flatten.length:Int)≤2*i)∧(∀ q,q < k→(nth gs q).length≠0)) ?_ ?_
 ·
  refine ⟨_,0,rfl,rfl,rfl,(eTq (rVq (iV 0)) (by rfl)),(eTq (rVq (iV 0)) rfl),?_,?_,?_⟩
  · exact Nat.zero_le _
  · simp; omega
  · intro q hq; omega
 intro mm T H ⟨k,hmm,t0,t1,t5,t6,hk,hn,hc⟩ Q2 p12 p22 p32
 unfold aMc
 refine aB (W_r (aA t6 (aA t0 (bI rfl (bJ rfl rfl (R_e ?_))))))
 refine aJ rfl (fun c3=>?_) fun c3=>?_
 ·
  have hbk:=hB.2 k (by omega)
  have fs:=aCG (gs:=gs) (k:=k) (by omega)
  refine aE (aC fun Q4 n4 x4 y4 z4=>(aB (W_r (aA t0 (aA t6 (bE (i:=k) (rVq (aD gs)) (rNq k) (by omega) rfl (aF rfl rfl ?_)))))))
  refine bI rfl (fC rfl rfl (aA rfl ?_))
  refine bW 8 (fun T H=>T 0=(aD gs)∧T 1=(iV i)∧T 5=(iV (((gs.take k).flatten.length:Nat):Int))∧T 6=(iV ((k:Nat):Int))∧T 28=(V.bool (decide (((((nth gs k).length:Nat):Int)=(0:Int))∨(i < (((nth gs k).length:Nat):Int)))))∧True) ?_ ?_
  ·
   by_cases g5:(((nth gs k).length:Nat):Int)=(0:Int)
   ·
    refine G_n (edT g5 rfl) (G_n (edT g5 rfl) (G_n (edT g5 rfl) (G_n (edT g5 rfl) (G_n (edT g5 rfl) (G_n (edT g5 rfl) (G_n (edT g5 rfl) (bY (edT g5 rfl) rfl ?_)))))))
    exact ⟨t0,t1,t5,t6,(dY g5),trivial⟩
   ·
    refine aM (edF g5 rfl) (aA t0 (aM (edF g5 rfl) (aA t6 (aM (edF g5 rfl) (bE (i:=k) (rVq (aD gs)) (rNq k) (by omega) rfl (aM (edF g5 rfl) (aF rfl rfl ?_)))))))
    refine aM (edF g5 rfl) (bI rfl (aM (edF g5 rfl) (aA t1 (aM (edF g5 rfl) (iQ rfl rfl (bX (edF g5 rfl) rfl ?_))))))
    exact ⟨t0,t1,t5,t6,(dX g5),trivial⟩
  intro T H ⟨t0,t1,t5,t6,t28,_⟩
  refine aA t28 ?_
  refine bW 4 (fun T H=>T 0=(aD gs)∧T 1=(iV i)∧T 5=(iV (((gs.take k).flatten.length:Nat):Int))∧T 6=(iV ((k:Nat):Int))∧T 33=(V.bool (decide ((((((nth gs k).length:Nat):Int)=(0:Int))∨(i < (((nth gs k).length:Nat):Int)))∨(i < (((gs.take k).flatten.length:Nat):Int)))))∧True) ?_ ?_
  ·
   by_cases g6:((((nth gs k).length:Nat):Int)=(0:Int))∨(i < (((nth gs k).length:Nat):Int))
   ·
    refine G_n (edT g6 rfl) (G_n (edT g6 rfl) (G_n (edT g6 rfl) (bY (edT g6 rfl) rfl ?_)))
    exact ⟨t0,t1,t5,t6,(dY g6),trivial⟩
   ·
    refine aM (edF g6 rfl) (aA t5 (aM (edF g6 rfl) (aA t1 (aM (edF g6 rfl) (iQ rfl rfl (bX (edF g6 rfl) rfl ?_))))))
    exact ⟨t0,t1,t5,t6,(dX g6),trivial⟩
  intro T H ⟨t0,t1,t5,t6,t33,_⟩
  refine R_e ?_
  refine aJ t33 (fun c7=>?_) fun c7=>?_
  ·
   have d1:(nth gs k).length=0∨i < (nth gs k).length∨i < (gs.take k).flatten.length:=by have z:=c7; omega
   refine aB (W_r (aA rfl (R_e (aX (y4 _ _ (p22 _ _ (y1 _ _ ?_)))))))
   refine bS (rVq (V.bool false)) (cH ?_)
   · exact (Bool.eq_false_iff.2 fun z=>aPP (show k < gs.length by omega) d1 ((aBE hi.1).1 z)).symm
  have d1: ¬((nth gs k).length=0∨i < (nth gs k).length∨i < (gs.take k).flatten.length):=by have z:=c7; omega
  refine aE (W_t (aA t5 (aA t0 (aA t6 (bE (i:=k) (rVq (aD gs)) (rNq k) (by omega) rfl (aF rfl rfl (bI rfl ?_)))))))
  refine aU rfl rfl (by omega) (aA rfl (R_e (n4 _ _ (.done (W_t (aA t6 (aU rfl (rNq 1) (by omega) ?_)))))))
  refine aA rfl (R_e ?_)
  refine p12 _ _ _ ?_ ⟨(k+1),rfl,t0,t1,(eTq (rNq (((gs.take k).flatten.length)+(nth gs k).length)) (by exact congrArg iV (by omega))),(eTq (rNq (k+1)) (by rfl)),?_,?_,?_⟩
  · omega
  · omega
  · rw [aCG (by omega)]; omega
  · intro q hq
    by_cases e:q=k
    · subst e; omega
    · exact hc q (by omega)
 have ek:(gs.take k).flatten.length=gs.flatten.length:=by rw [show k=gs.length by omega,List.take_length]
 refine aN (p32 _ _ _ (x1 _ _ (.done (aB (W_r (aA t5 (aA t1 ?_)))))))
 refine dD rfl rfl (R_e ?_)
 refine aJ rfl (fun c8=>?_) fun c8=>?_
 ·
  have d2:=c8
  refine aB (W_r (aA rfl (R_e (aX ?_))))
  refine bS (rVq (V.bool false)) (cH ?_)
  · exact (Bool.eq_false_iff.2 fun z=>d2 (by have y:=((aBE hi.1).1 z).2.1; omega)).symm
 refine aE (aB (W_r (aA rfl (R_e (aC fun Q9 n9 x9 y9 z9=>?_)))))
 refine bH (fun mm T H=> ∃ (a:Nat),mm=i.toNat - a∧T 0=(aD gs)∧T 1=(iV i)∧T 7=(iV ((a:Nat):Int))∧((a:Int)≤i)∧(∀ b:Nat,b < a→0≤gpI gs (b:Int))) ?_ ?_
 ·
  refine ⟨_,0,rfl,t0,t1,(eTq (rVq (iV 0)) rfl),?_,?_⟩
  · omega
  · intro q hq; omega
 intro mm T H ⟨a,hmm,t0,t1,t7,ha,hc2⟩ Q10 p110 p210 p310
 unfold aMT
 refine aB (W_r (aA t7 (aA t1 (bJ rfl rfl (R_e ?_)))))
 refine aJ rfl (fun c11=>?_) fun c11=>?_
 ·
  refine aE (aC fun Q12 n12 x12 y12 z12=>(W_r (aA t0 (aA t7 (aV (sD gs ((a:Nat):Int)) rfl (bJ rfl rfl (R_e ?_)))))))
  refine iE rfl (fun c13=>?_) fun c13=>?_
  ·
   have d3:=c13
   refine W_r (aA rfl (R_e (bN (y12 _ _ (p210 _ _ (y9 _ _ ?_))))))
   refine bS (rVq (V.bool false)) (cH ?_)
   · exact (Bool.eq_false_iff.2 fun z=>by have y:=((aBE hi.1).1 z).2.2 ((a:Nat):Int) (by omega) (by omega); omega).symm
  refine dS (n12 _ _ (.done (W_t (aA t7 (aU rfl (rNq 1) (by omega) (aA rfl (R_e ?_)))))))
  refine p110 _ _ _ ?_ ⟨(a+1),rfl,t0,t1,(eTq (rNq (a+1)) (by rfl)),?_,?_⟩
  · omega
  · omega
  · intro q hq
    by_cases e:q=a
    · subst e; omega
    · exact hc2 q (by omega)
 refine aN (p310 _ _ _ (x9 _ _ (.done (W_r (aA rfl (R_e (bN ?_)))))))
 refine bS (rVq (V.bool true)) (cH ?_)
 · exact ((aBE hi.1).2 (aU6 (fun q hq=>hc q (by omega)) (by omega) (fun b hb=>hc2 b (by omega)))).symm
def aUP:List SO:=[
 qM 14 9,
 qM 15 3,
 qF 16 2 4,
 ql 17 16,
 qM 18 9,
 qM 19 3,
 qA 20 1 18 19,
 ql 21 20,
 qA 22 1 17 21,
 ql 23 22,
 qM 24 2,
 qA 25 1 23 24,
 ql 26 25,
 qA 27 1 14 15,
 sN (.store 1 (.t 27) (.t 26))]
def aSQ:List SO:=[
 qF 28 2 4,
 ql 29 28,
 qF 30 0 5,
 ql 31 30,
 qA 32 1 29 31,
 ql 33 32,
 qM 34 2,
 qA 35 1 33 34,
 ql 36 35,
 qM 37 9,
 qF 38 2 5,
 ql 39 38,
 qM 40 2,
 sO 41 (.bslice 3 1 false [.int .i64 0] 1 [(0,.t 40)]),
 sO 42 (.bslice 25 1 false [.nilsl] 2 [(0,.t 39),(1,.t 41)]),
 sO 43 (.call false 68 [.t 42]),
 sO 44 (.build [.int .i64 0,.nilsl,.nilsl] [(0,1,.t 36),(1,1,.t 37),(2,1,.t 43)]),
 sN (.store 3 (.t 8) (.t 44))]
def s43:SF:=⟨45,[.cell 8 true 3],.seq (.reg [sO 4 (.box 24 4 (.t 0)),sO 5 (.box 87 3 (.t 1)),sO 8 (.alloc 87 [.int .i64 0,.nilsl,.nilsl])]) (.seq (.reg [qF 10 1 5,ql 11 10,sO 12 (.bslice 25 1 false [.nilsl] 1 [(0,.t 11)]),sO 13 (.callA 68 [.t 12]),qM 9 13]) (.seq (.reg aUP) (.seq (.reg aSQ) (.ret))))⟩
theorem aO5:aO Tryz.prog ⟨[39,75,135,136,137,155,161,186,188,194,195,196,211,212,213,226,230,233,238],[13],[],[]⟩ Tryz.f43=some s43:=by kernel_rfl
def aTw:List SO:=[
 qM 11 3,
 qM 12 0,
 qM 13 4,
 qA 14 1 12 13,
 ql 15 14,
 sO 16 (.append 3 1 8 (.t 11) (.t 15)),
 qM 3 16]
def aIy:SC:=.seq (.seq (.reg [qM 5 4,qM 6 0,qN 7 6,qP 8 .lss 5 7]) (.cond (.t 8) (.skip) (.exit 0))) (.seq (.block 1 (.reg aTw)) (.reg [qM 9 4,qC 10 .add 9 1,qM 4 10]))
def s68:SF:=⟨18,[.tmp 2],.seq (.reg [sO 2 (.mv (.c (.nilsl)))]) (.seq (.reg [sO 3 (.lazy 3 1)]) (.seq (.seq (.reg [qI 4 0]) (.block 0 (.loop aIy))) (.seq (.reg [qM 17 3,qM 2 17]) (.ret))))⟩
theorem aGP:aO Tryz.prog ⟨[39,75,135,136,137,155,161,186,188,194,195,196,211,212,213,226,230,233,238],[3],[],[]⟩ Tryz.f68=some s68:=by kernel_rfl
theorem aFR (l:List (List Int)) (hs:(cat l).length≤17592186044416):bA Tryz.prog 68 [(aD l)] (aG (cat l)):=by
 refine pW Tryz.func68 aGP fun hB=>?_
 unfold s68
 dsimp only
 refine W_r (aA rfl (R_e (W_r (dQ (i:=3) (n:=0) rfl (cVq rfl) (R_e (aB (W_r ?_)))))))
 refine aA rfl (R_e (aC fun Q1 n1 x1 y1 z1=>?_))
 refine bH (fun mm T H=> ∃ (k:Nat),mm=l.length - k∧T 0=(aD l)∧T 3=(V.ms 3 (1+k) 0 ((cat (l.take k)).length))∧T 4=(iV ((k:Nat):Int))∧H 3=(bz (1+k) 3 1 (List.map cI (cat (l.take k))))∧(k≤l.length)) ?_ ?_
 ·
  refine ⟨_,0,rfl,rfl,(eTq (rVq (V.ms 3 1 0 0)) (by rfl)),(eTq (rVq (iV 0)) rfl),(eTq (@rfl Blk (bz 1 3 1 [])) (by rfl)),?_⟩
  · omega
 intro mm T H ⟨k,hmm,t0,t3,t4,h3,hk⟩ Q2 p12 p22 p32
 unfold aIy
 refine aB (W_r (aA t4 (aA t0 (bI rfl (bJ rfl rfl (R_e ?_))))))
 refine aJ rfl (fun c3=>?_) fun c3=>?_
 ·
  have hq:=sQ (l:=l) (k:=k) (by omega)
  refine aE (aC fun Q4 n4 x4 y4 z4=>(W_t (aA t3 (aA t0 (aA t4 (bE (i:=k) (rVq (aD l)) (rNq k) (by omega) rfl (aF rfl rfl ?_)))))))
  refine gQ (l:=(cat (l.take k))) (m:=(nth l k)) (f:=cI) (rVq (V.ms 3 (1+k) 0 ((cat (l.take k)).length))) h3 (by rfl) (rVq (aG (nth l k))) (fun _=>rfl) (fun _=>rfl) (by omega) (by omega) (aA rfl (R_e (n4 _ _ (.done (W_t (aA t4 (aU rfl (rNq 1) (by omega) ?_)))))))
  refine aA rfl (R_e ?_)
  refine p12 _ _ _ ?_ ⟨(k+1),rfl,t0,(eTq (rVq (V.ms 3 (1+k+1) 0 (((cat (l.take k)).length)+(nth l k).length))) (by (rw [qZ (by omega),List.length_append]; rfl))),(eTq (rNq (k+1)) (by rfl)),(eTq (@rfl Blk (bz (1+k+1) 3 1 (List.map cI (cat (l.take k)++(nth l k))))) (by (rw [qZ (by omega)]; rfl))),?_⟩
  · omega
  · omega
 refine aN (p32 _ _ _ (x1 _ _ (.done (W_r (aA t3 (aA rfl (R_e ?_)))))))
 refine bN ?_
 refine bS (rVq (V.ms 3 (1+k) 0 ((cat (l.take k)).length))) (gD h3 (by simp) (l:=(cat (l.take k))) rfl (by rfl) (fun _=>by simp) ?_)
 · (have e:k=l.length:=(by omega); subst e; rw [List.take_length])
theorem aIB (l:List (List Int)) (v:Nat) (hs:(cat l).length≤17592186044416) (hn:l.length≤1000) (Hi:aI) (hv:(Hi 13).ver=v):dL Tryz.prog 68 [(aD l)] Hi (V.ms 13 (v+1+l.length) 0 ((cat l).length)) (upd Hi 13 (bz (v+1+l.length) 3 1 (List.map cI (cat l)))):=by
 refine eW (k0:=10) Tryz.func68 aGP fun hB=>?_
 unfold s68
 dsimp only
 refine W_r (aA rfl (R_e (W_r (dQ (i:=13) (n:=v) rfl hv (R_e (aB (W_r ?_)))))))
 refine aA rfl (R_e (aC fun Q1 n1 x1 y1 z1=>?_))
 refine bH (fun mm T H=> ∃ (k:Nat),mm=l.length - k∧T 0=(aD l)∧T 3=(V.ms 13 (v+1+k) 0 ((cat (l.take k)).length))∧T 4=(iV ((k:Nat):Int))∧(∀ j,j∉[13]→H j=Hi j)∧H 13=(bz (v+1+k) 3 1 (List.map cI (cat (l.take k))))∧(k≤l.length)) ?_ ?_
 ·
  refine ⟨_,0,rfl,rfl,(Eq.trans (@rfl V (V.ms 13 (v+1) 0 (0))) (by first|rfl|(rw [ct,List.length_append]; first|done|rfl)|(rw [et,ek]; done)|(rw [et,ek]; rfl)|simp)),(Eq.trans (@rfl V (iV (0:Int))) rfl),(dZ (fun _ _=>rfl) (by decide)),(Eq.trans (@rfl Blk (bz (v+1) 3 1 [])) (by first|rfl|(rw [ct]; first|done|rfl)|(rw [et]; first|done|rfl)|(rw [et,ek]; first|done|rfl)|(simp; done))),?_⟩
  · exact Nat.zero_le _
 intro mm T H ⟨k,hmm,t0,t3,t4,hF,h13,hk⟩ Q2 p12 p22 p32
 unfold aIy
 refine aB (W_r (aA t4 (aA t0 (bI rfl (bJ rfl rfl (R_e ?_))))))
 refine aJ rfl (fun c3=>?_) fun c3=>?_
 ·
  have hq:=sQ (l:=l) (k:=k) (by omega)
  have ct:=qZ (l:=l) (k:=k) (by omega)
  refine aE (aC fun Q4 n4 x4 y4 z4=>(W_t (aA t3 (aA t0 (aA t4 (bE (i:=k) (@rfl V (aD l)) (@rfl V (iV ((k:Nat):Int))) (by omega) rfl (aF rfl rfl ?_)))))))
  refine gQ (l:=(cat (l.take k))) (m:=((nth (l) (k)))) (f:=cI) (@rfl V (V.ms 13 (v+1+k) 0 ((cat (l.take k)).length))) h13 (by first|rfl|simp|omega) (@rfl V (aG ((nth (l) (k))))) (fun _=>rfl) (fun _=>rfl) (by omega) (by omega) (aA rfl (R_e (n4 _ _ (.done (W_t (aA t4 (aU rfl (@rfl V (iV ((1:Nat):Int))) (by omega) ?_)))))))
  refine aA rfl (R_e ?_)
  refine p12 _ _ _ ?_ ⟨(k+1),rfl,t0,(Eq.trans (@rfl V (V.ms 13 (v+1+k+1) 0 (((cat (l.take k)).length)+((nth (l) (k))).length))) (by first|rfl|(rw [ct,List.length_append]; first|done|rfl)|(rw [et,ek]; done)|(rw [et,ek]; rfl)|simp)),(Eq.trans (@rfl V (iV ((k+1:Nat):Int))) (by first|rfl|(rw [ct,List.length_append]; first|done|rfl)|(rw [et,ek]; done)|(rw [et,ek]; rfl)|simp)),(dZ hF (by decide)),(Eq.trans (@rfl Blk (bz (v+1+k+1) 3 1 (List.map cI (cat (l.take k)++((nth (l) (k))))))) (by first|rfl|(rw [ct]; first|done|rfl)|(rw [et]; first|done|rfl)|(rw [et,ek]; first|done|rfl)|(simp; done))),?_⟩
  · omega
  · omega
 have ek:l.length=k:=by omega
 have et:cat l=cat (l.take k):=by rw [← ek,List.take_length]
 refine aN (p32 _ _ _ (x1 _ _ (.done (W_r (aA t3 (aA rfl (R_e ?_)))))))
 refine bN (bF (R:=fun T H=>T 2=(V.ms 13 (v+1+k) 0 ((cat (l.take k)).length))∧(∀ j,j∉[13]→H j=Hi j)∧H 13=(bz (v+1+k) 3 1 (List.map cI (cat (l.take k))))∧True) ⟨(@rfl V (V.ms 13 (v+1+k) 0 ((cat (l.take k)).length))),hF,h13,trivial⟩ ?_)
 intro T H ⟨t2,hF,h13,_⟩
 have fh:=dW.fin (dW.put (B:=(bz (v+1+l.length) 3 1 (List.map cI (cat l)))) (dW.start hF) h13 (jG.up (by omega) (by first|rfl|(rw [ct]; first|done|rfl)|(rw [et]; first|done|rfl)|(rw [et,ek]; first|done|rfl)|(simp; done))))
 exact jR t2 fh (dK.trans_eq (dK.ms (n:=(v+1+l.length)) fh (by simp [h13]) (by simp [h13]) rfl rfl) (by first|rfl|(rw [ct,List.length_append]; first|done|rfl)|(rw [et,ek]; done)|(rw [et,ek]; rfl)|simp))
theorem aCy (m:M) (x w:List Int) (a g:Nat) (hm:bD m=0) (hg:g+1 < x.length) (h0:0≤nth x 0∧nth x 0 < m.nx.length) (h1:0≤nth x (g+1)∧nth x (g+1) < m.nx.length) (ha:a < m.i.toNat) (hxl:x.length≤1000) (hw:w.length≤100000):bA Tryz.prog 43 [(V.agg [(iV m.i),(iV m.s),(aD m.nx),(aD m.ot)]),(V.agg [(iV (nth x 0)),(aG (tl1 x)),(aG w)]),(iV ((a:Nat):Int)),(iV ((g:Nat):Int))] (V.agg [(iV (nth (dU m x a g) 0)),(aG (tl1 (dU m x a g))),(aG (iG w a))]):=by
 refine pW Tryz.func43 aO5 fun hB=>?_
 unfold s43
 dsimp only
 have mo:=bT hm
 have r0:=mo.2.2.2.2.2.2.2 (nth x 0).toNat (by omega)
 have r1:=mo.2.2.2.2.2.2.2 (nth x (g+1)).toNat (by omega)
 have e1:nth (cat [(tl1 x)]) g=nth x (g+1):=by rw [sK,nE]
 have e2:(cat [(tl1 x)]).length=x.length - 1:=by rw [sK,aA0]
 have e3:=aA0 (x:=x)
 refine W_r (dN (i:=4) (n:=0) (m:=4) (cs:=[(iV m.i),(iV m.s),(aD m.nx),(aD m.ot)]) rfl (cVq rfl) rfl rfl rfl (dN (i:=5) (n:=0) (m:=3) (cs:=[(iV (nth x 0)),(aG (tl1 x)),(aG w)]) rfl (cVq rfl) rfl rfl rfl (cQ (i:=8) (n:=0) (m:=3) rfl (cVq rfl) rfl (R_e (W_r (aZ rfl rfl (aS rfl rfl rfl rfl ?_)))))))
 refine bM rfl rfl (aKW (i:=13) (n:=0) (B:=(bz (0+1+[(tl1 x)].length) 3 1 (List.map cI (cat [(tl1 x)])))) rfl (cVq rfl) (cO rfl gG) rfl (fun H2 h2=>aIB [(tl1 x)] 0 (by omega) (by simp) H2 h2) (aA rfl (R_e (W_r (aA rfl (aA rfl (aZ rfl rfl ?_)))))))
 refine aS rfl rfl rfl rfl (aA rfl (aA rfl (bR (i:=g) (rVq (V.ms 13 (0+1+[(tl1 x)].length) 0 ((cat [(tl1 x)]).length))) (rNq g) (@rfl Blk (bz (0+1+[(tl1 x)].length) 3 1 (List.map cI (cat [(tl1 x)])))) (cX (by omega)) rfl (by omega) (bL (v:=(iV (nth (cat [(tl1 x)]) g))) rfl (@rfl Blk (bz (0+1+[(tl1 x)].length) 3 1 (List.map cI (cat [(tl1 x)])))) (cJ (by omega) (by rfl)) (cP (i:=(nth (cat [(tl1 x)]) g)) (rVq (aD m.nx)) (rVq (iV (nth (cat [(tl1 x)]) g))) (by omega) (by omega) rfl (aF rfl rfl (aA rfl ?_)))))))
 refine bE (i:=a) (rVq (aG (nth m.nx (nth (cat [(tl1 x)]) g).toNat))) (rNq a) (by (rw [e1]; omega)) rfl (aF rfl rfl (bR (i:=g) (rVq (V.ms 13 (0+1+[(tl1 x)].length) 0 ((cat [(tl1 x)]).length))) (rNq g) (@rfl Blk (bz (0+1+[(tl1 x)].length) 3 1 (List.map cI (cat [(tl1 x)])))) (cX (by omega)) rfl (by omega) (bC (vs:=[(iV (nth (nth m.nx (nth (cat [(tl1 x)]) g).toNat) a))]) (B':=(bz (0+1+[(tl1 x)].length) 3 1 (List.map cI ((cat [(tl1 x)]).set g (nth (nth m.nx (nth (cat [(tl1 x)]) g).toNat) a))))) rfl rfl rfl (@rfl Blk (bz (0+1+[(tl1 x)].length) 3 1 (List.map cI (cat [(tl1 x)])))) (eX (x:=(nth (nth m.nx (nth (cat [(tl1 x)]) g).toNat) a)) (i:=g) (by omega) rfl rfl rfl rfl) (R_e ?_))))
 refine fV (fun T H=>T 8=(mPq 8)∧H 4=(bMq m)∧H 5=(bk 1 87 3 [[(iV (nth x 0)),(aG (tl1 x)),(aG w)]])∧H 8=(bk 1 87 3 [[(iV (nth (nth m.nx (nth x 0).toNat) a)),(V.ms 13 (0+1+[(tl1 x)].length) 0 ((cat [(tl1 x)]).length)),(aG (cat ([w,[((a:Nat):Int)]])))]])∧H 13=(bz (0+1+[(tl1 x)].length) 3 1 (List.map cI ((cat [(tl1 x)]).set g (nth (nth m.nx (nth (cat [(tl1 x)]) g).toNat) a))))∧True) ?_ ?_
 ·
  refine aZ rfl rfl (aS rfl rfl rfl rfl (aZ rfl rfl (aS rfl rfl rfl rfl (cP (i:=(nth x 0)) (rVq (aD m.nx)) (rVq (iV (nth x 0))) (by omega) (by omega) rfl (aF rfl rfl (aA rfl (bE (i:=a) (rVq (aG (nth m.nx (nth x 0).toNat))) (rNq a) (by omega) rfl ?_)))))))
  refine aF rfl rfl (aA rfl (aZ rfl rfl (aS rfl rfl rfl rfl (aA rfl (bM rfl rfl (bM rfl rfl (aV (aFR ([w,[((a:Nat):Int)]]) (by rw [aE3]; simp [iG]; omega)) rfl ?_)))))))
  refine eL rfl rfl (aPa rfl rfl rfl rfl rfl rfl rfl rfl rfl ?_)
  exact eE ⟨rfl,rfl,rfl,rfl,rfl,trivial⟩
 intro T H ⟨t8,h4,h5,h8,h13,_⟩
 refine bN ?_
 refine aDD (gT (u:=(V.agg [(iV (nth (nth m.nx (nth x 0).toNat) a)),(V.ms 13 (0+1+[(tl1 x)].length) 0 ((cat [(tl1 x)]).length)),(aG (cat ([w,[((a:Nat):Int)]])))])) t8 h8 (lB oB rfl rfl)) (aEo (aW ?_) (gD h13 (by rfl) (l:=((cat [(tl1 x)]).set g (nth (nth m.nx (nth (cat [(tl1 x)]) g).toNat) a))) rfl (by simp) (fun _=>by simp) ?_) (mJ ?_ (fun _=>by simp)))
 · first|rfl|(rw [aIk (by omega)]; done)|(rw [yT (by omega),sK]; done)|(rw [yT (by omega),sK]; rfl)|(rw [aE3]; rfl)|skip
 · first|rfl|(rw [aIk (by omega)]; done)|(rw [yT (by omega),sK]; done)|(rw [yT (by omega),sK]; rfl)|(rw [aE3]; rfl)|skip
 · first|rfl|(rw [aIk (by omega)]; done)|(rw [yT (by omega),sK]; done)|(rw [yT (by omega),sK]; rfl)|(rw [aE3]; rfl)|skip
def aS4:List SO:=[
 qM 12 0,
 qM 13 5,
 qA 14 3 12 13,
 qF 15 0 14,
 ql 16 15,
 qF 17 0 3,
 ql 18 17,
 qP 19 .eql 16 18,
 qM 20 19,
 ⟨some (20,true),some 21,.mv (.t 0)⟩,
 ⟨some (20,true),some 22,.mv (.t 5)⟩,
 ⟨some (20,true),some 23,.idx 3 (.t 21) (.t 22)⟩,
 ⟨some (20,true),some 24,.fld 1 (.t 23)⟩,
 ⟨some (20,true),some 25,.load false 1 (.t 24)⟩,
 ⟨some (20,true),some 26,.fld 1 (.t 3)⟩,
 ⟨some (20,true),some 27,.load false 1 (.t 26)⟩,
 ⟨some (20,true),some 28,.call false 22 [.t 25,.t 27]⟩,
 sO 29 (.pick (.t 20) (.t 28) (.c (.bool false)))]
def aMd:SC:=.seq (.seq (.reg [qM 6 5,qM 7 0,qN 8 7,qP 9 .lss 6 8]) (.cond (.t 9) (.skip) (.exit 0))) (.seq (.block 1 (.seq (.reg aS4) (.cond (.t 29) (.seq (.reg [sO 4 (.mv (.c (.bool true)))]) (.ret)) (.skip)))) (.reg [qM 10 5,qC 11 .add 10 1,qM 5 11]))
def s44:SF:=⟨30,[.tmp 4],.seq (.reg [sO 3 (.box 87 3 (.t 1)),sO 4 (.mv (.c (.bool false)))]) (.seq (.seq (.reg [qI 5 0]) (.block 0 (.loop aMd))) (.seq (.reg [sO 4 (.mv (.c (.bool false)))]) (.ret)))⟩
theorem aRB:aO Tryz.prog ⟨[39,75,135,136,137,155,161,186,188,194,195,196,211,212,213,226,230,233,238],[],[],[]⟩ Tryz.f44=some s44:=by kernel_rfl
theorem aBt (l:List Sit) (y w:List Int) (hy:0 < y.length) (hl: ∀ k,k < l.length→0 < (nth l k).1.length):bA Tryz.prog 44 [(V.sl (List.map cSp l)),(V.agg [(iV (nth y 0)),(aG (tl1 y)),(aG w)])] (V.bool (iF l y)):=by
 refine pW Tryz.func44 aRB fun hB=>?_
 unfold s44
 dsimp only
 refine W_r (dN (i:=3) (n:=0) (m:=3) (cs:=[(iV (nth y 0)),(aG (tl1 y)),(aG w)]) rfl (cVq rfl) rfl rfl rfl (aA rfl (R_e (aB (W_r (aA rfl (R_e ?_)))))))
 refine aC fun Q1 n1 x1 y1 z1=>?_
 refine bH (fun mm T H=> ∃ (k:Nat),mm=l.length - k∧T 0=(V.sl (List.map cSp l))∧T 3=(mPq 3)∧T 5=(iV ((k:Nat):Int))∧H 3=(bk 1 87 3 [[(iV (nth y 0)),(aG (tl1 y)),(aG w)]])∧(k≤l.length)∧(∀ q,q < k→(nth l q).1≠y)) ?_ ?_
 ·
  refine ⟨_,0,rfl,rfl,rfl,(eTq (rVq (iV 0)) rfl),rfl,?_,?_⟩
  · exact Nat.zero_le _
  · intro q hq; omega
 intro mm T H ⟨k,hmm,t0,t3,t5,h3,hk,hc⟩ Q2 p12 p22 p32
 unfold aMd
 refine aB (W_r (aA t5 (aA t0 (bI rfl (bJ rfl rfl (R_e ?_))))))
 refine aJ rfl (fun c3=>?_) fun c3=>?_
 ·
  refine aE (aC fun Q4 n4 x4 y4 z4=>(W_r (aA t0 (aA t5 (bE (i:=k) (rVq (V.sl (List.map cSp l))) (rNq k) (by omega) rfl (mD (cs':=[(iV (nth (nth l k).1 0)),(aG (tl1 (nth l k).1)),(aG ((nth l k).2))]) rfl rfl (aF rfl rfl ?_)))))))
  refine aZ t3 h3 (aS rfl h3 rfl rfl (fC rfl rfl (aA rfl ?_)))
  refine bW 9 (fun T H=>T 0=(V.sl (List.map cSp l))∧T 3=(mPq 3)∧T 5=(iV ((k:Nat):Int))∧T 29=(V.bool (decide (((nth (nth l k).1 0)=(nth y 0))∧((tl1 (nth l k).1)=(tl1 y)))))∧H 3=(bk 1 87 3 [[(iV (nth y 0)),(aG (tl1 y)),(aG w)]])∧True) ?_ ?_
  ·
   by_cases g5:(nth (nth l k).1 0)=(nth y 0)
   ·
    refine aM (edT g5 rfl) (aA t0 (aM (edT g5 rfl) (aA t5 (aM (edT g5 rfl) (bE (i:=k) (rVq (V.sl (List.map cSp l))) (rNq k) (by omega) rfl (aM (edT g5 rfl) (mD (cs':=[(aG (tl1 (nth l k).1)),(aG ((nth l k).2))]) rfl rfl ?_)))))))
    refine aM (edT g5 rfl) (aF rfl rfl (aM (edT g5 rfl) (aZ t3 h3 (aM (edT g5 rfl) (aS rfl h3 rfl rfl (aM (edT g5 rfl) (aV (sA (tl1 (nth l k).1) (tl1 y)) rfl ?_)))))))
    refine bY (edT g5 rfl) rfl ?_
    exact ⟨t0,t3,t5,(jW g5),h3,trivial⟩
   ·
    refine G_n (edF g5 rfl) (G_n (edF g5 rfl) (G_n (edF g5 rfl) (G_n (edF g5 rfl) (G_n (edF g5 rfl) (G_n (edF g5 rfl) (G_n (edF g5 rfl) (G_n (edF g5 rfl) ?_)))))))
    refine bX (edF g5 rfl) rfl ?_
    exact ⟨t0,t3,t5,(jT g5),h3,trivial⟩
  intro T H ⟨t0,t3,t5,t29,h3,_⟩
  refine R_e ?_
  refine iE t29 (fun c6=>?_) fun c6=>?_
  ·
   have d1:(nth l k).1=y:=(aVG (hl k (by omega)) hy).1 (by have z:=c6; simpa using z)
   refine W_r (aA rfl (R_e (bN (y4 _ _ (p22 _ _ (y1 _ _ ?_))))))
   refine bS (rVq (V.bool true)) (cH ?_)
   · exact (aRi (show k < l.length by omega) d1).symm
  have d1:(nth l k).1≠y:=fun e=>by have z:=c6; subst e; simp at z
  refine dS (n4 _ _ (.done (W_t (aA t5 (aU rfl (rNq 1) (by omega) (aA rfl (R_e ?_)))))))
  refine p12 _ _ _ ?_ ⟨(k+1),rfl,t0,t3,(eTq (rNq (k+1)) (by rfl)),h3,?_,?_⟩
  · omega
  · omega
  · intro q hq
    by_cases e:q=k
    · subst e; exact d1
    · exact hc q (by omega)
 refine aN (p32 _ _ _ (x1 _ _ (.done (W_r (aA rfl (R_e (bN ?_)))))))
 refine bS (rVq (V.bool false)) (cH ?_)
 · exact (aRG (fun q hq=>hc q (by omega))).symm
theorem aAa (m:M) (gs:List (List Int)) (hg:gs.length≤4):bA Tryz.prog 19 [(V.agg [(iV m.i),(iV m.s),(aD m.nx),(aD m.ot)]),(aD gs)] (V.tup [(aG ((isD m gs).1)),(V.bool ((isD m gs).2.1)),(iV ((isD m gs).2.2))]):=by
 refine pW Tryz.func19 aPD fun hB=>?_
 unfold s19
 dsimp only
 refine W_r (dN (i:=2) (n:=0) (m:=4) (cs:=[(iV m.i),(iV m.s),(aD m.nx),(aD m.ot)]) rfl (cVq rfl) rfl rfl rfl (aA rfl (aA rfl (aA rfl (R_e (aB (W_r ?_)))))))
 refine aS rfl rfl rfl rfl (aV (iS m) rfl (aA rfl (R_e (aB (W_r (aA rfl (dD rfl rfl ?_)))))))
 refine R_e ?_
 refine aJ rfl (fun c1=>?_) fun c1=>?_
 ·
  have d0:=c1
  have e9:isD m gs=([],false,bD m):=by unfold isD; rw [if_pos d0]
  refine aB (W_r (aA rfl (aA rfl (aA rfl (aA rfl (R_e (aX ?_)))))))
  refine mV (rVq V.nilsl) (rVq (V.bool false)) (rVq (iV (bD m))) (eB ?_) (cH ?_) (aW ?_)
  · rw [e9]; try rfl
  · rw [e9]; try rfl
  · rw [e9]; try rfl
 have hm:bD m=0:=by omega
 have mo:=bT hm
 refine aE (aB (W_r (aA rfl (aZ rfl rfl (aS rfl rfl rfl rfl (aV (aAH gs m.i (by omega)) rfl (vE rfl ?_)))))))
 refine R_e ?_
 refine cW rfl (fun c2=>?_) (fun c2=>?_)
 ·
  have e2:gsD gs m.i=false:=by have z:=c2; simpa using z
  have e9:isD m gs=([],false,1):=by unfold isD; rw [if_neg (by omega),if_neg (by rw [e2]; decide)]
  refine aB (W_r (aA rfl (aA rfl (aA rfl (R_e (aX ?_))))))
  refine mV (rVq V.nilsl) (rVq (V.bool false)) (rVq (iV 1)) (eB ?_) (cH ?_) (aW ?_)
  · rw [e9]; try rfl
  · rw [e9]; try rfl
  · rw [e9]; try rfl
 have e3:gsD gs m.i=true:=by have z:=c2; simpa using z
 have e8:isD m gs=isL m gs 4097 0 (is0 m gs):=by unfold isD; rw [if_neg (by omega),if_pos e3]
 refine aE (W_r (aZ rfl rfl (aS rfl rfl rfl rfl (eL rfl rfl (cQ (i:=8) (n:=0) (m:=3) rfl (cVq rfl) rfl (bC (vs:=[(iV m.s),V.nilsl,V.nilsl]) (B':=(bk 1 87 3 [[(iV m.s),V.nilsl,V.nilsl]])) rfl rfl rfl rfl (sB oB rfl rfl rfl rfl rfl) (R_e ?_)))))))
 refine aB ?_
 refine fQ (fun T H=>T 1=(aD gs)∧T 2=(mPq 2)∧T 8=(mPq 8)∧T 9=(iV 0)∧H 2=(bMq m)∧H 8=(bk 1 87 3 [[(iV m.s),V.nilsl,V.nilsl]])∧H 14=bZq∧H 42=bZq∧H 812=bZq∧True) ?_ ?_
 ·
  refine aA rfl ?_
  exact eE ⟨rfl,rfl,rfl,rfl,rfl,rfl,rfl,rfl,rfl,trivial⟩
 intro T H ⟨t1,t2,t8,t9,h2,h8,h14,h42,h812,_⟩
 refine .lazyCell 812 3 1 8 0 1 [(iV m.s),V.nilsl,V.nilsl] (by decide) (by rw [h8]; rfl) (by rw [h8]; rfl) rfl (.done ?_)
 refine bF (R:=fun T H=>T 1=(aD gs)∧T 2=(mPq 2)∧T 8=(mPq 8)∧T 9=(iV 0)∧H 2=(bMq m)∧H 8=(bk 1 87 3 [[(iV m.s),(V.ms 812 1 0 0),V.nilsl]])∧H 14=bZq∧H 42=bZq∧H 812=(bz 1 3 1 [])∧True) ⟨t1,t2,t8,t9,(uTq (uTq h2)),(by rw [aH,h8,(cVq h812)]; rfl),(uTq (uTq h14)),(uTq (uTq h42)),(by rw [aQ _ _ (by decide),aH,(cVq h812)]),trivial⟩ ?_
 intro T H ⟨t1,t2,t8,t9,h2,h8,h14,h42,h812,_⟩
 refine aC fun Q3 n3 x3 y3 z3=>?_
 refine bH (fun mm T H=> ∃ (k:Nat) (u:Nat),mm=gs.length - k∧T 1=(aD gs)∧T 2=(mPq 2)∧T 8=(mPq 8)∧T 9=(iV ((k:Nat):Int))∧H 2=(bMq m)∧H 8=(bk 1 87 3 [[(iV m.s),(V.ms 812 u 0 k),V.nilsl]])∧H 14=bZq∧H 42=bZq∧H 812=(bz u 3 1 (List.map cI (tbl (fun _=>m.s) k)))∧(k≤gs.length)) ?_ ?_
 ·
  refine ⟨_,0,1,rfl,t1,t2,t8,(eTq t9 rfl),h2,h8,h14,h42,(eTq h812 (by rfl)),?_⟩
  · exact Nat.zero_le _
 intro mm T H ⟨k,u,hmm,t1,t2,t8,t9,h2,h8,h14,h42,h812,hk⟩ Q4 p14 p24 p34
 unfold aMl
 refine aB (W_r (aA t9 (aA t1 (bI rfl (bJ rfl rfl (R_e ?_))))))
 refine aJ rfl (fun c5=>?_) fun c5=>?_
 ·
  refine aE (aC fun Q6 n6 x6 y6 z6=>(W_t (aZ t8 h8 (aS rfl h8 rfl rfl (aZ t2 h2 (aS rfl h2 rfl rfl (bM rfl rfl ?_)))))))
  refine bK (l:=(tbl (fun _=>m.s) k)) (f:=cI) (x:=m.s) (rVq (V.ms 812 u 0 k)) h812 (by exact (aP _ _).symm) (rVq (V.sl [[(iV m.s)]])) rfl rfl (by omega) (by omega) (aZ t8 h8 (bC (vs:=[(V.ms 812 (u+1) 0 (k+1))]) (B':=(bk 1 87 3 [[(iV m.s),(V.ms 812 (u+1) 0 (k+1)),V.nilsl]])) rfl rfl rfl h8 (sB oB rfl rfl rfl rfl rfl) (R_e (n6 _ _ (.done (W_t (aA t9 ?_)))))))
  refine aU rfl (rNq 1) (by omega) (aA rfl (R_e ?_))
  refine p14 _ _ _ ?_ ⟨(k+1),(u+1),rfl,t1,t2,t8,(eTq (rNq (k+1)) (by rfl)),h2,(eTq (@rfl Blk (bk 1 87 3 [[(iV m.s),(V.ms 812 (u+1) 0 (k+1)),V.nilsl]])) (by rfl)),h14,h42,(eTq (@rfl Blk (bz (u+1) 3 1 (List.map cI (tbl (fun _=>m.s) k++[m.s])))) (by (rw [cE]; first|done|rfl))),?_⟩
  · omega
  · omega
 have ek:k=gs.length:=by omega
 refine aN (p34 _ _ _ (x3 _ _ (bF (R:=fun T H=>T 1=(aD gs)∧T 2=(mPq 2)∧T 8=(mPq 8)∧T 9=(iV ((k:Nat):Int))∧T 31=(V.bool (decide (((k:Nat):Int) < ((gs.length:Nat):Int))))∧H 2=(bMq m)∧H 8=(bk 1 87 3 [[(iV m.s),(V.ms 812 u 0 k),V.nilsl]])∧H 14=bZq∧H 42=bZq∧H 812=(bz u 3 1 (List.map cI (tbl (fun _=>m.s) k)))∧True) ⟨t1,t2,t8,t9,(rVq (V.bool (decide (((k:Nat):Int) < ((gs.length:Nat):Int))))),h2,h8,h14,h42,h812,trivial⟩ ?_)))
 intro T H ⟨t1,t2,t8,t9,t31,h2,h8,h14,h42,h812,_⟩
 refine aIs (r':=[(iV m.s),(V.ms 812 u 0 k),(aG ([]))]) h8 rfl (bF (R:=fun T H=>T 1=(aD gs)∧T 2=(mPq 2)∧T 8=(mPq 8)∧T 9=(iV ((k:Nat):Int))∧T 31=(V.bool (decide (((k:Nat):Int) < ((gs.length:Nat):Int))))∧H 2=(bMq m)∧H 8=(bk 1 87 3 [[(iV m.s),(V.ms 812 u 0 k),(aG ([]))]])∧H 14=bZq∧H 42=bZq∧H 812=(bz u 3 1 (List.map cI (tbl (fun _=>m.s) k)))∧True) ⟨t1,t2,t8,t9,t31,(uTq h2),(aH _ _ _),(uTq h14),(uTq h42),(uTq h812),trivial⟩ ?_)
 intro T H ⟨t1,t2,t8,t9,t31,h2,h8,h14,h42,h812,_⟩
 refine nL (id:=812) (id2:=8) (rows:=[[(iV m.s),(V.ms 812 u 0 k),(aG ([]))]]) (i:=0) (off:=1) (r:=[(iV m.s),(V.ms 812 u 0 k),(aG ([]))]) (m:=(tbl (fun _=>m.s) k)) (g:=cI) (by decide) h812 h8 (by (simp only [List.length_cons,List.length_nil]; omega)) (by exact (aP _ _).symm) rfl (.done ?_)
 refine bF (R:=fun T H=>T 1=(aD gs)∧T 2=(mPq 2)∧T 8=(mPq 8)∧T 9=(iV ((k:Nat):Int))∧T 31=(V.bool (decide (((k:Nat):Int) < ((gs.length:Nat):Int))))∧H 2=(bMq m)∧H 8=(bk 1 87 3 [[(iV m.s),(aG (tbl (fun _=>m.s) k)),(aG ([]))]])∧H 14=bZq∧H 42=bZq∧((H 812).ver=u∧(H 812).live=false)∧True) ⟨(aL t1 rfl),(aL t2 rfl),(aL t8 rfl),(aL t9 rfl),(aL t31 rfl),(uTq (aK h2 (by decide))),(aH _ _ _),(uTq (aK h14 (by decide))),(uTq (aK h42 (by decide))),⟨(cVq (aQ _ _ (by decide))).trans (bG (cVq h812)).1,(congrArg Blk.live (aQ _ _ (by decide))).trans (bG (cVq h812)).2⟩,trivial⟩ ?_
 intro T H ⟨t1,t2,t8,t9,t31,h2,h8,h14,h42,h812,_⟩
 refine W_r (aS t8 h8 rfl rfl (gA (i:=42) (n:=0) (qs:=[(0,(V.agg [(iV m.s),(aG (tbl (fun _=>m.s) k)),(aG ([]))]))]) (rows:=[[(iV m.s),(aG (tbl (fun _=>m.s) k)),(aG ([]))]]) rfl (cVq h42) (bZ (congrArg (fun v=>(0,v)) rfl) rfl) rfl (aA rfl (R_e (aB (W_r (aA rfl ?_)))))))
 refine R_e (aC fun Q7 n7 x7 y7 z7=>?_)
 refine bH (fun mm T H=> ∃ (i:Nat) (w:Nat) (l:List Sit) (v14:Nat),mm=4097 - i∧T 1=(aD gs)∧T 2=(mPq 2)∧T 10=(V.ms 42 w 0 l.length)∧T 11=(iV ((i:Nat):Int))∧H 2=(bMq m)∧H 8=(bk 1 87 3 [[(iV m.s),(aG (tbl (fun _=>m.s) k)),(aG ([]))]])∧((H 14).ver=v14∧(H 14).live=false)∧H 42=(bk w 87 3 (List.map cSp l))∧((H 812).ver=u∧(H 812).live=false)∧(i≤4096∧i≤l.length)∧(SpI m gs l)∧(l.length≤1+64*i)∧(isL m gs 4097 0 (is0 m gs)=isL m gs (4097 - i) i l)) ?_ ?_
 ·
  refine ⟨_,0,1,(is0 m gs),0,rfl,t1,t2,(eTq (rVq (V.ms 42 1 0 1)) (by rfl)),(eTq (rVq (iV 0)) rfl),h2,h8,⟨(cVq h14),congrArg Blk.live h14⟩,(eTq (@rfl Blk (bk 1 87 3 [[(iV m.s),(aG (tbl (fun _=>m.s) k)),(aG ([]))]])) (by exact congrArg (fun r=>(⟨_,true,false,_,3,r⟩:Blk)) (aOd ek))),h812,?_,?_,?_,?_⟩
  · exact ⟨by omega,Nat.zero_le _⟩
  · exact aIq hm
  · exact Nat.le_refl _
  · rfl
 intro mm T H ⟨i,w,l,v14,hmm,t1,t2,t10,t11,h2,h8,h14,h42,h812,hi,hI,hll,hc⟩ Q8 p18 p28 p38
 unfold aMP
 refine aB (W_r (aA t11 (aA t10 (cS rfl h42 (by simp) (bJ rfl rfl (R_e ?_))))))
 refine aJ rfl (fun c9=>?_) fun c9=>?_
 ·
  obtain ⟨⟨x1,x2⟩,x3⟩:=hI i (by omega)
  refine aE (aC fun Q10 n10 x10 y10 z10=>(aB (W_r (aA t11 (lZ rfl rfl (R_e ?_))))))
  refine aJ rfl (fun c11=>?_) fun c11=>?_
  ·
   have e9:isD m gs=([],false,11):=by rw [e8,hc,aEV (by omega) (by omega)]
   refine aB (W_r (aA rfl (aA rfl (aA rfl (R_e (aX (y10 _ _ ?_)))))))
   refine p28 _ _ (y7 _ _ ?_)
   refine mV (rVq V.nilsl) (rVq (V.bool false)) (rVq (iV 11)) (eB ?_) (cH ?_) (aW ?_)
   · rw [e9]; try rfl
   · rw [e9]; try rfl
   · rw [e9]; try rfl
  refine aE (W_r (aA rfl (R_e (iK fun Q12 n12 x12 y12 z12=>?_))))
  refine bH (fun mm T H=> ∃ (j:Nat) (w2:Nat) (l2:List Sit) (v14:Nat),mm=m.i.toNat - j∧T 1=(aD gs)∧T 2=(mPq 2)∧T 10=(V.ms 42 w2 0 l2.length)∧T 11=(iV ((i:Nat):Int))∧T 12=(iV ((j:Nat):Int))∧H 2=(bMq m)∧H 8=(bk 1 87 3 [[(iV m.s),(aG (tbl (fun _=>m.s) k)),(aG ([]))]])∧((H 14).ver=v14∧(H 14).live=false)∧H 42=(bk w2 87 3 (List.map cSp l2))∧((H 812).ver=u∧(H 812).live=false)∧(j≤m.i.toNat)∧(SpI m gs l2)∧(l2.length≤1+64*i+j∧l.length≤l2.length)∧(nth l2 i=nth l i)∧(isR m gs (nth l i) m.i.toNat 0 l=isR m gs (nth l i) (m.i.toNat - j) j l2)) ?_ ?_
  ·
   refine ⟨_,0,w,l,v14,rfl,t1,t2,t10,t11,(eTq (rVq (iV 0)) rfl),h2,h8,h14,h42,h812,?_,?_,?_,?_,?_⟩
   · exact Nat.zero_le _
   · exact hI
   · exact ⟨by omega,Nat.le_refl _⟩
   · rfl
   · rfl
  intro mm T H ⟨j,w2,l2,v14,hmm,t1,t2,t10,t11,t12,h2,h8,h14,h42,h812,hj,hI2,hl2,hn2,hq⟩ Q13 p113 p213 p313
  unfold aMW
  refine aB (W_r (aA t12 (aZ t2 h2 (aS rfl h2 rfl rfl (bJ rfl rfl (R_e ?_))))))
  refine aJ rfl (fun c14=>?_) fun c14=>?_
  ·
   obtain ⟨o1,o2,o3,o4⟩:=aAs (gs:=gs) (by omega) e3 (show j < m.i.toNat by omega)
   have hyO:=aLX (gs:=gs) (g:=gpN gs j) hm (hI i (by omega)).1 (show j < m.i.toNat by omega) o3
   have hyw:(jE m gs (nth l i) j).2.length=(nth l i).2.length+1:=by show ((nth l i).2++[((j:Nat):Int)]).length=_; simp
   have y0:=x2 0 (by omega)
   have y1:=x2 (gpN gs j+1) (by omega)
   have q0:=mo.2.2.2.2.2.2.2 (nth (nth l i).1 0).toNat (by omega)
   have q1:=mo.2.2.2.2.2.2.2 (nth (nth l i).1 (gpN gs j+1)).toNat (by omega)
   have tn:nth (tl1 (nth l i).1) (gpN gs j)=nth (nth l i).1 (gpN gs j+1):=nE
   have x3b:=x3
   rw [← hn2] at x1 x3b y0 y1 q0 q1 tn
   have tl:=aA0 (x:=(nth l2 i).1)
   refine aE (aC fun Q15 n15 x15 y15 z15=>(W_r (aA t1 (aA t12 (aV (by have z:=sD gs ((j:Nat):Int); rw [o4] at z; exact z) rfl (aA rfl (R_e ?_)))))))
   refine W_d (by exact (aNd h14.2 aL1)) (aS t2 h2 rfl rfl (aA t10 (aA t11 (bR (i:=i) (rVq (V.ms 42 w2 0 l2.length)) (rNq i) h42 oB rfl (by omega) (bL (v:=(V.agg [(iV (nth (nth l2 i).1 0)),(aG (tl1 (nth l2 i).1)),(aG ((nth l2 i).2))])) rfl h42 (cJ (by omega) (by rfl)) (aA t12 (aA rfl ?_)))))))
   refine aV (aCy m ((nth l2 i).1) ((nth l2 i).2) j (gpN gs j) hm (by omega) y0 y1 (by omega) (by omega) (by omega)) rfl (cQ (i:=14) (n:=v14) (m:=3) rfl h14.1 rfl (bC (vs:=[(iV (nth (dU m ((nth l2 i).1) j (gpN gs j)) 0)),(aG (tl1 (dU m ((nth l2 i).1) j (gpN gs j)))),(aG (iG ((nth l2 i).2) j))]) (B':=(bk (v14+1) 87 3 [[(iV (nth (dU m ((nth l2 i).1) j (gpN gs j)) 0)),(aG (tl1 (dU m ((nth l2 i).1) j (gpN gs j)))),(aG (iG ((nth l2 i).2) j))]])) rfl rfl rfl rfl (sB oB rfl rfl rfl rfl rfl) (R_e (aB ?_))))
   refine fV (fun T H=>T 1=(aD gs)∧T 2=(mPq 2)∧T 10=(V.ms 42 w2 0 l2.length)∧T 11=(iV ((i:Nat):Int))∧T 12=(iV ((j:Nat):Int))∧T 14=(V.mp 14 (v14+1) 0 0)∧T 95=(V.bool (decide ((nth (nth m.ot (nth (nth l2 i).1 0).toNat) j)≠(nth (nth m.ot (nth (tl1 (nth l2 i).1) (gpN gs j)).toNat) j))))∧H 2=(bMq m)∧H 8=(bk 1 87 3 [[(iV m.s),(aG (tbl (fun _=>m.s) k)),(aG ([]))]])∧H 14=(bk (v14+1) 87 3 [[(iV (nth (dU m ((nth l2 i).1) j (gpN gs j)) 0)),(aG (tl1 (dU m ((nth l2 i).1) j (gpN gs j)))),(aG (iG ((nth l2 i).2) j))]])∧H 42=(bk w2 87 3 (List.map cSp l2))∧((H 812).ver=u∧(H 812).live=false)∧True) ?_ ?_
   ·
    refine aZ t2 h2 (aS rfl h2 rfl rfl (aA t10 (aA t11 (bR (i:=i) (rVq (V.ms 42 w2 0 l2.length)) (rNq i) h42 oB rfl (by omega) (aZ rfl h42 (bL (v:=(iV (nth (nth l2 i).1 0))) rfl h42 (cJ (by omega) (by rfl)) (cP (i:=(nth (nth l2 i).1 0)) (rVq (aD m.ot)) (rVq (iV (nth (nth l2 i).1 0))) (by omega) (by omega) rfl ?_)))))))
    refine aF rfl rfl (aA t12 (bE (i:=j) (rVq (aG (nth m.ot (nth (nth l2 i).1 0).toNat))) (rNq j) (by omega) rfl (aF rfl rfl (aZ t2 h2 (aS rfl h2 rfl rfl (aA t10 (aA t11 ?_)))))))
    refine bR (i:=i) (rVq (V.ms 42 w2 0 l2.length)) (rNq i) h42 oB rfl (by omega) (aZ rfl h42 (bL (v:=(aG (tl1 (nth l2 i).1))) rfl h42 (cJ (by omega) (by rfl)) (aA rfl (bE (i:=(gpN gs j)) (rVq (aG (tl1 (nth l2 i).1))) (rNq (gpN gs j)) (by omega) rfl (aF rfl rfl (cP (i:=(nth (tl1 (nth l2 i).1) (gpN gs j))) (rVq (aD m.ot)) (rVq (iV (nth (tl1 (nth l2 i).1) (gpN gs j)))) (by omega) (by omega) rfl (aF rfl rfl ?_)))))))
    refine aA t12 (bE (i:=j) (rVq (aG (nth m.ot (nth (tl1 (nth l2 i).1) (gpN gs j)).toNat))) (rNq j) (by (rw [nE]; omega)) rfl (aF rfl rfl (dD rfl rfl ?_)))
    exact eE ⟨t1,t2,t10,t11,t12,rfl,rfl,h2,h8,rfl,h42,h812,trivial⟩
   intro T H ⟨t1,t2,t10,t11,t12,t14,t95,h2,h8,h14,h42,h812,_⟩
   refine aJ t95 (fun c16=>?_) fun c16=>?_
   ·
    have d1:aDO m gs (nth l i).1 j=true:=decide_eq_true (by rw [← hn2,← tn]; exact c16)
    have e9:isD m gs=((jE m gs (nth l i) j).2,true,0):=by rw [e8,hc,aFi (w:=(jE m gs (nth l i) j).2) (by omega) (by omega) (by rw [hq,aEc (by omega) d1])]
    refine aB (W_r (aZ t14 h14 (aS rfl h14 rfl rfl (aA rfl (aA rfl (aA rfl (R_e ?_)))))))
    refine aX (y15 _ _ (p213 _ _ (y12 _ _ (y10 _ _ (p28 _ _ (y7 _ _ ?_))))))
    refine mV (rVq (aG (iG ((nth l2 i).2) j))) (rVq (V.bool true)) (rVq (iV 0)) (mJ ?_ (fun _=>by simp)) (cH ?_) (aW ?_)
    · rw [e9]; try first|rfl|(rw [← hn2]; rfl)
    · rw [e9]; try first|rfl|(rw [← hn2]; rfl)
    · rw [e9]; try first|rfl|(rw [← hn2]; rfl)
   have d1:aDO m gs (nth l i).1 j=false:=decide_eq_false (by rw [← hn2,← tn]; exact c16)
   refine aE (aB (W_r (aA t10 (aS t14 h14 rfl rfl (aC6 (cO (rVq (V.ms 42 w2 0 l2.length)) (cO (rVq (V.agg [(iV (nth (dU m ((nth l2 i).1) j (gpN gs j)) 0)),(aG (tl1 (dU m ((nth l2 i).1) j (gpN gs j)))),(aG (iG ((nth l2 i).2) j))])) gG)) (aBt l2 (dU m ((nth l2 i).1) j (gpN gs j)) (iG ((nth l2 i).2) j) (by rw [hn2,hyO.1]; omega) (fun q hq=>by have z:=(hI2 q hq).1.1; omega)) (bZ (aDm h42 (by simp) (aBB (l:=l2) (by rfl)) (fun _=>by simp)) (bZ (dG 6 _ (by simp [-List.map_take,-List.map_drop,-List.map_append,-List.map_reverse])) rfl)) (by simp [-List.map_take,-List.map_drop,-List.map_append,-List.map_reverse]) (Or.inr rfl) (R_e ?_))))))
   refine cW rfl (fun c17=>?_) (fun c17=>?_)
   ·
    have d3:iF l2 (dU m (nth l i).1 j (gpN gs j))=true:=by rw [← hn2]; exact c17
    refine aN (x15 _ _ (bF (R:=fun T H=>T 1=(aD gs)∧T 2=(mPq 2)∧T 10=(V.ms 42 w2 0 l2.length)∧T 11=(iV ((i:Nat):Int))∧T 12=(iV ((j:Nat):Int))∧T 14=(V.mp 14 (v14+1) 0 0)∧T 100=(V.bool (iF l2 (dU m ((nth l2 i).1) j (gpN gs j))))∧H 2=(bMq m)∧H 8=(bk 1 87 3 [[(iV m.s),(aG (tbl (fun _=>m.s) k)),(aG ([]))]])∧H 14=(bk (v14+1) 87 3 [[(iV (nth (dU m ((nth l2 i).1) j (gpN gs j)) 0)),(aG (tl1 (dU m ((nth l2 i).1) j (gpN gs j)))),(aG (iG ((nth l2 i).2) j))]])∧H 42=(bk w2 87 3 (List.map cSp l2))∧((H 812).ver=u∧(H 812).live=false)∧True) ⟨t1,t2,t10,t11,t12,t14,(rVq (V.bool (iF l2 (dU m ((nth l2 i).1) j (gpN gs j))))),h2,h8,h14,h42,h812,trivial⟩ ?_))
    intro T H ⟨t1,t2,t10,t11,t12,t14,t100,h2,h8,h14,h42,h812,_⟩
    refine .freeze 14 (.done ?_)
    refine bF (R:=fun T H=>T 1=(aD gs)∧T 2=(mPq 2)∧T 10=(V.ms 42 w2 0 l2.length)∧T 11=(iV ((i:Nat):Int))∧T 12=(iV ((j:Nat):Int))∧T 14=(V.mp 14 (v14+1) 0 0)∧T 100=(V.bool (iF l2 (dU m ((nth l2 i).1) j (gpN gs j))))∧H 2=(bMq m)∧H 8=(bk 1 87 3 [[(iV m.s),(aG (tbl (fun _=>m.s) k)),(aG ([]))]])∧((H 14).ver=v14+1∧(H 14).live=false)∧H 42=(bk w2 87 3 (List.map cSp l2))∧((H 812).ver=u∧(H 812).live=false)∧True) ⟨(aL t1 rfl),(aL t2 rfl),(aL t10 (bV (by decide))),(aL t11 rfl),(aL t12 rfl),(aL t14 rfl),(aL t100 rfl),(aK h2 (by decide)),(aK h8 (by decide)),(bG (cVq h14)),(aK h42 (by decide)),(bU h812),trivial⟩ ?_
    intro T H ⟨t1,t2,t10,t11,t12,t14,t100,h2,h8,h14,h42,h812,_⟩
    refine W_t (aA t12 (aU rfl (rNq 1) (by omega) (aA rfl (R_e ?_))))
    refine p113 _ _ _ ?_ ⟨(j+1),w2,l2,(v14+1),rfl,t1,t2,t10,t11,(eTq (rNq (j+1)) (by rfl)),h2,h8,h14,h42,h812,?_,?_,?_,?_,?_⟩
    · omega
    · omega
    · first|exact hI2|exact hI2.add hyO (by rw [hyw]; omega)
    · first|omega|(rw [List.length_append]; simp only [List.length_cons,List.length_nil]; omega)
    · first|exact hn2|(rw [bQ (by omega)]; exact hn2)
    · first|(rw [hq,nA (by omega) d1,aAZ (y:=(jE m gs (nth l i) j)) d3]; done)|(rw [hq,nA (by omega) d1,uL (y:=(jE m gs (nth l i) j)) d3]; done)
   have d3:iF l2 (dU m (nth l i).1 j (gpN gs j))=false:=by rw [← hn2]; have z:=c17; simpa using z
   refine aE (W_t (aA t10 (aS t14 h14 rfl rfl (bM rfl rfl (bK (l:=l2) (f:=cSp) (x:=((dU m ((nth l2 i).1) j (gpN gs j),iG ((nth l2 i).2) j):Sit)) (rVq (V.ms 42 w2 0 l2.length)) h42 (by rfl) (rVq (V.sl [[(iV (nth (dU m ((nth l2 i).1) j (gpN gs j)) 0)),(aG (tl1 (dU m ((nth l2 i).1) j (gpN gs j)))),(aG (iG ((nth l2 i).2) j))]])) rfl rfl (by omega) (by omega) (aA rfl (R_e ?_)))))))
   refine n15 _ _ (bF (R:=fun T H=>T 1=(aD gs)∧T 2=(mPq 2)∧T 10=(V.ms 42 (w2+1) 0 (l2.length+1))∧T 11=(iV ((i:Nat):Int))∧T 12=(iV ((j:Nat):Int))∧H 2=(bMq m)∧H 8=(bk 1 87 3 [[(iV m.s),(aG (tbl (fun _=>m.s) k)),(aG ([]))]])∧H 14=(bk (v14+1) 87 3 [[(iV (nth (dU m ((nth l2 i).1) j (gpN gs j)) 0)),(aG (tl1 (dU m ((nth l2 i).1) j (gpN gs j)))),(aG (iG ((nth l2 i).2) j))]])∧H 42=(bk (w2+1) 87 3 (List.map cSp (l2++[((dU m ((nth l2 i).1) j (gpN gs j),iG ((nth l2 i).2) j):Sit)])))∧((H 812).ver=u∧(H 812).live=false)∧True) ⟨t1,t2,(rVq (V.ms 42 (w2+1) 0 (l2.length+1))),t11,t12,h2,h8,h14,rfl,h812,trivial⟩ ?_)
   intro T H ⟨t1,t2,t10,t11,t12,h2,h8,h14,h42,h812,_⟩
   refine .freeze 14 (.done ?_)
   refine bF (R:=fun T H=>T 1=(aD gs)∧T 2=(mPq 2)∧T 10=(V.ms 42 (w2+1) 0 (l2.length+1))∧T 11=(iV ((i:Nat):Int))∧T 12=(iV ((j:Nat):Int))∧H 2=(bMq m)∧H 8=(bk 1 87 3 [[(iV m.s),(aG (tbl (fun _=>m.s) k)),(aG ([]))]])∧((H 14).ver=v14+1∧(H 14).live=false)∧H 42=(bk (w2+1) 87 3 (List.map cSp (l2++[((dU m ((nth l2 i).1) j (gpN gs j),iG ((nth l2 i).2) j):Sit)])))∧((H 812).ver=u∧(H 812).live=false)∧True) ⟨(aL t1 rfl),(aL t2 rfl),(aL t10 (bV (by decide))),(aL t11 rfl),(aL t12 rfl),(aK h2 (by decide)),(aK h8 (by decide)),(bG (cVq h14)),(aK h42 (by decide)),(bU h812),trivial⟩ ?_
   intro T H ⟨t1,t2,t10,t11,t12,h2,h8,h14,h42,h812,_⟩
   refine W_t (aA t12 (aU rfl (rNq 1) (by omega) (aA rfl (R_e ?_))))
   refine p113 _ _ _ ?_ ⟨(j+1),(w2+1),(l2++[(jE m gs (nth l i) j)]),(v14+1),rfl,t1,t2,(eTq t10 (by simp)),t11,(eTq (rNq (j+1)) (by rfl)),h2,h8,h14,(eTq h42 (by (rw [hn2]; first|done|rfl))),h812,?_,?_,?_,?_,?_⟩
   · omega
   · omega
   · first|exact hI2|exact hI2.add hyO (by rw [hyw]; omega)
   · first|omega|(rw [List.length_append]; simp only [List.length_cons,List.length_nil]; omega)
   · first|exact hn2|(rw [bQ (by omega)]; exact hn2)
   · first|(rw [hq,nA (by omega) d1,aAZ (y:=(jE m gs (nth l i) j)) d3]; done)|(rw [hq,nA (by omega) d1,uL (y:=(jE m gs (nth l i) j)) d3]; done)
  have f1:isR m gs (nth l i) m.i.toNat 0 l=.inr l2:=by rw [hq,aEa (by omega)]
  refine aN (p313 _ _ _ (x12 _ _ (n10 _ _ (.done (W_t (aA t11 (aU rfl (rNq 1) (by omega) ?_)))))))
  refine aA rfl (R_e ?_)
  refine p18 _ _ _ ?_ ⟨(i+1),w2,l2,v14,rfl,t1,t2,t10,(eTq (rNq (i+1)) (by rfl)),h2,h8,h14,h42,h812,?_,?_,?_,?_⟩
  · omega
  · exact ⟨by omega,by omega⟩
  · exact hI2
  · omega
  · rw [hc,aHf (by omega) (by omega) f1]
 have e9:isD m gs=([],false,0):=by rw [e8,hc,aEA (by omega) (by omega)]
 refine aN (p38 _ _ _ (x7 _ _ (.done (W_r (aA rfl (aA rfl (aA rfl ?_)))))))
 refine R_e (bN ?_)
 refine mV (rVq V.nilsl) (rVq (V.bool false)) (rVq (iV 0)) (eB ?_) (cH ?_) (aW ?_)
 · rw [e9]; try rfl
 · rw [e9]; try rfl
 · rw [e9]; try rfl
end Go.Proofs.YtmnnhjhkaepbaaaGreat
namespace Go.Proofs.YtmnnhjhkaepbaaaGreat
open Go Go.Proofs
attribute [local irreducible] oP
theorem aDH (m:M):bA Tryz.prog 76 [(V.agg [(iV m.i),(iV m.s),(aD m.nx),(aD m.ot)])] (aG (rch m)):=by
 refine pW Tryz.func76 aGw fun hB=>?_
 unfold s76
 dsimp only
 refine W_r (dN (i:=1) (n:=0) (m:=4) (cs:=[(iV m.i),(iV m.s),(aD m.nx),(aD m.ot)]) rfl (cVq rfl) rfl rfl rfl (aA rfl (R_e (aB (W_r (aS rfl rfl rfl rfl (aV (iR m) rfl ?_)))))))
 refine dD rfl rfl (R_e ?_)
 refine aJ rfl (fun c1=>?_) fun c1=>?_
 ·
  have d0:=c1
  refine aB (W_r (aA rfl (R_e (aX ?_))))
  refine bS (rVq V.nilsl) (eB ?_)
  · rw [rch,if_pos d0]
 have hm:bD m=0:=by omega
 obtain ⟨v1,v2,v3,v4,v5,v6,v7,_⟩:=bT hm
 refine aE (W_r (aZ rfl rfl (aS rfl rfl rfl rfl (bI rfl (lA (i:=14) (n:=0) (m:=m.nx.length) (q:=m.nx.length) (f:=cB) (x:=false) rfl (cVq rfl) (rNq m.nx.length) (rNq m.nx.length) rfl (by omega) (by omega) (by omega) (aA rfl (R_e ?_)))))))
 refine W_r (aA rfl (aZ rfl rfl (aS rfl rfl rfl rfl (dR (i:=m.s) (rVq (V.ms 14 1 0 m.nx.length)) (rVq (iV m.s)) (@rfl Blk (bk 1 4 1 (List.map cB (List.replicate m.nx.length false)))) oB rfl (by omega) (by omega) (bC (vs:=[(V.bool true)]) (B':=(bk 1 4 1 (List.map cB ((List.replicate m.nx.length false).set m.s.toNat true)))) rfl rfl rfl (@rfl Blk (bk 1 4 1 (List.map cB (List.replicate m.nx.length false)))) (eX (x:=true) (i:=m.s.toNat) (by (simp only [List.length_replicate]; omega)) rfl rfl rfl rfl) (R_e (W_r ?_)))))))
 refine aZ rfl rfl (aS rfl rfl rfl rfl (gA (i:=21) (n:=0) (qs:=[(0,(iV m.s))]) (rows:=[[(iV m.s)]]) rfl (cVq rfl) (bZ (congrArg (fun v=>(0,v)) rfl) rfl) rfl (aA rfl (R_e (aB (W_r (aA rfl ?_)))))))
 refine R_e (aC fun Q2 n2 x2 y2 z2=>?_)
 refine bH (fun mm T H=> ∃ (k:Nat) (w:Nat) (P:RS),mm=m.nx.length - k∧T 1=(mPq 1)∧T 3=(V.ms 14 1 0 m.nx.length)∧T 4=(V.ms 21 w 0 P.1.length)∧T 5=(iV ((k:Nat):Int))∧H 1=(bMq m)∧H 14=(bk 1 4 1 (List.map cB P.2))∧H 21=(bk w 3 1 (List.map cI P.1))∧(k≤P.1.length)∧(RI m.nx.length P)∧(gR m m.nx.length 0 (kI m)=gR m (m.nx.length - k) k P)) ?_ ?_
 ·
  refine ⟨_,0,1,(kI m),rfl,rfl,rfl,(eTq (rVq (V.ms 21 1 0 1)) (by rfl)),(eTq (rVq (iV 0)) rfl),rfl,(eTq (@rfl Blk (bk 1 4 1 (List.map cB ((List.replicate m.nx.length false).set m.s.toNat true)))) (by rfl)),(eTq (@rfl Blk (bk 1 3 1 [[(iV m.s)]])) (by rfl)),?_,?_,?_⟩
  · exact Nat.zero_le _
  · exact vI hm
  · rfl
 intro mm T H ⟨k,w,P,hmm,t1,t3,t4,t5,h1,h14,h21,hk,hr,hc⟩ Q3 p13 p23 p33
 unfold aMo
 refine aB (W_r (aA t5 (aA t4 (cS rfl h21 (by simp) (bJ rfl rfl (R_e ?_))))))
 refine aJ rfl (fun c4=>?_) fun c4=>?_
 ·
  have r1:=hr.rng _ (aY (show k < P.1.length by omega))
  have r0:=hr.len
  have r5:=hr.blen
  have r6:=((bT hm).2.2.2.2.2.2.2 (nth P.1 k).toNat (by omega)).1
  refine aE (aC fun Q5 n5 x5 y5 z5=>(W_r (aZ t1 h1 (aS rfl h1 rfl rfl (aA t4 (aA t5 (bR (i:=k) (rVq (V.ms 21 w 0 P.1.length)) (rNq k) h21 oB rfl (by omega) ?_)))))))
  refine bL (v:=(iV (nth P.1 k))) rfl h21 (cJ (by omega) (by rfl)) (cP (i:=(nth P.1 k)) (rVq (aD m.nx)) (rVq (iV (nth P.1 k))) (by omega) (by omega) rfl (aF rfl rfl (bI rfl (aA rfl (R_e (iK fun Q6 n6 x6 y6 z6=>?_))))))
  refine bH (fun mm T H=> ∃ (j:Nat) (w2:Nat) (Q:RS),mm=(nth m.nx (nth P.1 k).toNat).length - j∧T 1=(mPq 1)∧T 3=(V.ms 14 1 0 m.nx.length)∧T 4=(V.ms 21 w2 0 Q.1.length)∧T 5=(iV ((k:Nat):Int))∧T 35=(aG (nth m.nx (nth P.1 k).toNat))∧T 36=(iV (((nth m.nx (nth P.1 k).toNat).length:Nat):Int))∧T 37=(iV ((j:Nat):Int))∧H 1=(bMq m)∧H 14=(bk 1 4 1 (List.map cB Q.2))∧H 21=(bk w2 3 1 (List.map cI Q.1))∧(j≤(nth m.nx (nth P.1 k).toNat).length)∧(Q=((nth m.nx (nth P.1 k).toNat).take j).foldl fH P)∧(RI m.nx.length Q)) ?_ ?_
  ·
   refine ⟨_,0,w,P,rfl,t1,t3,t4,t5,rfl,rfl,(eTq (rVq (iV 0)) rfl),h1,h14,h21,?_,?_,?_⟩
   · omega
   · rfl
   · exact hr
  intro mm T H ⟨j,w2,Q,hmm,t1,t3,t4,t5,t35,t36,t37,h1,h14,h21,hj,hq,hrq⟩ Q7 p17 p27 p37
  unfold aMD
  refine W_r (bJ t37 t36 (R_e ?_))
  refine aJ rfl (fun c8=>?_) fun c8=>?_
  ·
   have r2:=vM hm r1.1 r1.2 _ (aY (show j < (nth m.nx (nth P.1 k).toNat).length by omega))
   have r3:=hrq.blen
   have r4:=hrq.len
   refine aE (aC fun Q9 n9 x9 y9 z9=>(W_r (bE (i:=j) t35 t37 (by omega) rfl (aF rfl rfl (aA rfl (R_e (W_r ?_)))))))
   refine aA t3 (aA rfl (dR (i:=(nth (nth m.nx (nth P.1 k).toNat) j)) (rVq (V.ms 14 1 0 m.nx.length)) (rVq (iV (nth (nth m.nx (nth P.1 k).toNat) j))) h14 oB rfl (by omega) (by omega) (bL (v:=(V.bool (nth Q.2 ((nth (nth m.nx (nth P.1 k).toNat) j).toNat)))) rfl h14 (cJ (by omega) (by rfl)) (vE rfl (R_e ?_)))))
   refine aEm rfl (fun c10=>?_) (fun c10=>?_)
   ·
    have d2:nth Q.2 (nth (nth m.nx (nth P.1 k).toNat) j).toNat=false:=by simpa using c10
    refine W_r (aA t3 (aA rfl (dR (i:=(nth (nth m.nx (nth P.1 k).toNat) j)) (rVq (V.ms 14 1 0 m.nx.length)) (rVq (iV (nth (nth m.nx (nth P.1 k).toNat) j))) h14 oB rfl (by omega) (by omega) (bC (vs:=[(V.bool true)]) (B':=(bk 1 4 1 (List.map cB (Q.2.set ((nth (nth m.nx (nth P.1 k).toNat) j).toNat) true)))) rfl rfl rfl h14 (eX (x:=true) (i:=((nth (nth m.nx (nth P.1 k).toNat) j).toNat)) (by omega) rfl rfl rfl rfl) (R_e (W_t (aA t4 ?_)))))))
    refine aA rfl (bM rfl rfl (bK (l:=Q.1) (f:=cI) (x:=(nth (nth m.nx (nth P.1 k).toNat) j)) (rVq (V.ms 21 w2 0 Q.1.length)) h21 (by rfl) (rVq (V.sl [[(iV (nth (nth m.nx (nth P.1 k).toNat) j))]])) rfl rfl (by omega) (by omega) (aA rfl (R_e (n9 _ _ (.done (W_t ?_)))))))
    refine aU t37 (rNq 1) (by omega) (aA rfl (R_e ?_))
    refine p17 _ _ _ ?_ ⟨(j+1),(w2+1),(fH Q (nth (nth m.nx (nth P.1 k).toNat) j)),rfl,t1,t3,(eTq (rVq (V.ms 21 (w2+1) 0 (Q.1.length+1))) (by (rw [rB d2,List.length_append]; rfl))),t5,t35,t36,(eTq (rNq (j+1)) (by rfl)),h1,(eTq (@rfl Blk (bk 1 4 1 (List.map cB (Q.2.set ((nth (nth m.nx (nth P.1 k).toNat) j).toNat) true)))) (by (rw [rB d2]; done))),(eTq (@rfl Blk (bk (w2+1) 3 1 (List.map cI (Q.1++[(nth (nth m.nx (nth P.1 k).toNat) j)])))) (by (rw [rB d2]; done))),?_,?_,?_⟩
    · omega
    · omega
    · rw [kO (by omega),← hq]
    · exact hrq.step r2.1 r2.2
   have d2:nth Q.2 (nth (nth m.nx (nth P.1 k).toNat) j).toNat=true:=by simpa using c10
   refine dS (n9 _ _ (.done (W_t (aU t37 (rNq 1) (by omega) (aA rfl (R_e ?_))))))
   refine p17 _ _ _ ?_ ⟨(j+1),w2,(fH Q (nth (nth m.nx (nth P.1 k).toNat) j)),rfl,t1,t3,(eTq t4 (by (rw [nN d2]; done))),t5,t35,t36,(eTq (rNq (j+1)) (by rfl)),h1,(eTq h14 (by (rw [nN d2]; done))),(eTq h21 (by (rw [nN d2]; done))),?_,?_,?_⟩
   · omega
   · omega
   · rw [kO (by omega),← hq]
   · exact hrq.step r2.1 r2.2
  have e9:Q=gS m P k:=by rw [hq]; unfold gS; rw [List.take_of_length_le (by omega)]
  refine aN (p37 _ _ _ (x6 _ _ (n5 _ _ (.done (W_t (aA t5 (aU rfl (rNq 1) (by omega) ?_)))))))
  refine aA rfl (R_e ?_)
  refine p13 _ _ _ ?_ ⟨(k+1),w2,(gS m P k),rfl,t1,t3,(eTq t4 (by (rw [← e9]; done))),(eTq (rNq (k+1)) (by rfl)),h1,(eTq h14 (by (rw [← e9]; done))),(eTq h21 (by (rw [← e9]; done))),?_,?_,?_⟩
  · omega
  · obtain ⟨x,hx⟩:=gN (nth m.nx (nth P.1 k).toNat) P
    have hg:(gS m P k).1=P.1++x:=hx
    rw [hg,List.length_append]; omega
  · exact hr.row hm (by omega)
  · rw [hc,aBa (by omega) (by omega)]
 refine aN (p33 _ _ _ (x2 _ _ (.done (W_r (aA t4 (aA rfl (R_e ?_)))))))
 refine bN ?_
 refine bS (rVq (V.ms 21 w 0 P.1.length)) (gD h21 (by simp) (l:=P.1) rfl (by rfl) (fun _=>by simp) ?_)
 · rw [rch,if_neg (by omega),hc,uK (by omega)]
end Go.Proofs.YtmnnhjhkaepbaaaGreat
