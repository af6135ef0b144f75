/- Contracts of the functions that the law MT reaches, and the law itself, for every input; no condition. -/
import Derived.KernelRfl
import Derived.Test.YteehaobohaecmaaDoorRows
import Derived.LaidSub
import Derived.LaidMore
import Derived.Lib.LaidTab
import Derived.Test.YteehaobohaecmaaDoorTie
import Derived.Test.YteehaobohaecmaaDoorCards
import Derived.OpenShut
import Derived.Stop.Joined
import Derived.SevenTiedAt
import Derived.Test.YteehaobohaecmaaDoorMT3
set_option linter.unusedSimpArgs false
set_option linter.unusedVariables false
namespace Go.Proofs.YteehaobohaecmaaDoor
open Go
def kR (t:Tr) (f:Fm) (q:Nat):Nat→Bool:=fun j=>nth (nth (f.kids.map (rst t)) q) j
theorem kR_sat {t:Tr} {f:Fm} {q j:Nat} (hq:q < f.kids.length) (hj:j≤t.ni.length):kR t f q j=nth (f.kids.map (sat t)) q j:=by
  unfold kR; rw [nthM hq,nthM hq,rst_nth hj]
theorem untB_congr {g h g' h':Nat→Bool} {n:Nat}: ∀ {m i:Nat},i+m≤n→(∀ j,j≤n→g j=g' j)→(∀ j,j≤n→h j=h' j)→untB g h m i=untB g' h' m i
  |0,i,hi,_,h2=>h2 i (by omega)
  |m+1,i,hi,h1,h2=>by rw [untB,untB,h2 i (by omega),h1 i (by omega),untB_congr (m:=m) (by omega) h1 h2]
theorem relB_congr {g h g' h':Nat→Bool} {n:Nat}: ∀ {m i:Nat},i+m≤n→(∀ j,j≤n→g j=g' j)→(∀ j,j≤n→h j=h' j)→relB g h m i=relB g' h' m i
  |0,i,hi,_,h2=>h2 i (by omega)
  |m+1,i,hi,h1,h2=>by rw [relB,relB,h2 i (by omega),h1 i (by omega),relB_congr (m:=m) (by omega) h1 h2]
section
variable {t:Tr} {f:Fm} {j:Nat}
theorem sv1 (h:f.op=1):sat t f j=true:=by rw [sat_eq,satO,if_pos h]
theorem sv2 (h:f.op=2):sat t f j=(decide (j < t.ni.length)&&decide (nth t.ni j=f.arg)):=by rw [sat_eq,satO,if_neg (by omega),if_pos h]
theorem sv3 (h:f.op=3):sat t f j=(decide (j < t.ni.length)&&decide (nth t.no j=f.arg)):=by rw [sat_eq,satO,if_neg (by omega),if_neg (by omega),if_pos h]
theorem sv4 (hj:j≤t.ni.length) (hk:0 < f.kids.length) (h:f.op=4):sat t f j= !(kR t f 0 j):=by rw [sat_eq,satO,if_neg (by omega),if_neg (by omega),if_neg (by omega),if_pos h,kR_sat hk hj]
theorem sv7 (hk:0 < f.kids.length) (h:f.op=7):sat t f j=(decide (j < t.ni.length)&&kR t f 0 (j+1)):=by
  rw [sat_eq,satO,if_neg (by omega),if_neg (by omega),if_neg (by omega),if_neg (by omega),if_pos h]
  by_cases q:j < t.ni.length
  · rw [kR_sat hk q]
  · rw [decide_eq_false q,Bool.false_and,Bool.false_and]
theorem sv9 (hk:0 < f.kids.length) (h:f.op=9):sat t f j=(decide (¬j < t.ni.length)||kR t f 0 (j+1)):=by
  rw [sat_eq,satO,if_neg (by omega),if_neg (by omega),if_neg (by omega),if_neg (by omega),if_neg (by omega),if_pos h]
  by_cases q:j < t.ni.length
  · rw [kR_sat hk q]
  · rw [decide_eq_true q,Bool.true_or,Bool.true_or]
theorem sv8 (hj:j≤t.ni.length) (hk:1 < f.kids.length) (h:f.op=8):sat t f j=untB (kR t f 0) (kR t f 1) (t.ni.length - j) j:=by
  rw [sat_eq,satO,if_neg (by omega),if_neg (by omega),if_neg (by omega),if_neg (by omega),if_neg (by omega),if_neg (by omega),if_pos h]
  exact untB_congr (n:=t.ni.length) (by omega) (fun q hq=>(kR_sat (by omega) hq).symm) fun q hq=>(kR_sat hk hq).symm
theorem sv10 (hj:j≤t.ni.length) (hk:1 < f.kids.length) (h:f.op=10):sat t f j=relB (kR t f 0) (kR t f 1) (t.ni.length - j) j:=by
  rw [sat_eq,satO,if_neg (by omega),if_neg (by omega),if_neg (by omega),if_neg (by omega),if_neg (by omega),if_neg (by omega),if_neg (by omega),if_pos h]
  exact relB_congr (n:=t.ni.length) (by omega) (fun q hq=>(kR_sat (by omega) hq).symm) fun q hq=>(kR_sat hk hq).symm
theorem sv5 (hj:j≤t.ni.length) (h:f.op=5):sat t f j=(f.kids.map (rst t)).all fun r=>nth r j:=by
  rw [sat_eq,satO,if_neg (by omega),if_neg (by omega),if_neg (by omega),if_neg (by omega),if_neg (by omega),if_neg (by omega),if_neg (by omega),if_neg (by omega),if_pos h,List.all_map,List.all_map]
  congr 1; funext g; exact (rst_nth hj).symm
theorem sv6 (hj:j≤t.ni.length) (h:f.op=6):sat t f j=(f.kids.map (rst t)).any fun r=>nth r j:=by
  rw [sat_eq,satO,if_neg (by omega),if_neg (by omega),if_neg (by omega),if_neg (by omega),if_neg (by omega),if_neg (by omega),if_neg (by omega),if_neg (by omega),if_neg (by omega),List.any_map,List.any_map]
  congr 1; funext g; exact (rst_nth hj).symm
end
theorem outL_set2 {t:Tr} {f:Fm} {i:Int} {b:Bool} (h0:0≤i) (hi:i≤t.ni.length) (hb:b=sat t f i.toNat):(outL t f i).set i.toNat b=outL t f (i - 1):=by
  obtain ⟨j,rfl⟩: ∃ j:Nat,i=j:=⟨i.toNat,by omega⟩
  exact outL_set (by omega) hb
theorem outL_z {t:Tr} {f:Fm} {i:Int} (h0:0≤i) (hi:i≤t.ni.length):(outL t f i).set i.toNat false=outL t f i:=by
  apply List.ext_getElem
  · simp
  · intro q h1 h2
    rw [List.getElem_set]
    split
    · rename_i e
      subst e
      simp only [outL,List.getElem_map,List.getElem_range]
      rw [decide_eq_false (by omega),Bool.false_and]
    · rfl
theorem nth_set_at {α:Type} [Inhabited α] {l:List α} {i:Nat} {x:α} (h:i < l.length):nth (l.set i x) i=x:=by
  rw [← nth_getElem (by simpa using h),List.getElem_set_self]
def unI (t:Tr) (f:Fm) (i k:Int) (al x:Bool):Prop:=(x||(al&&decide (k≤t.ni.length)&&untB (kR t f 0) (kR t f 1) (t.ni.length - k.toNat) k.toNat))=sat t f i.toNat
theorem unI_start {t:Tr} {f:Fm} {i:Int} (h0:0≤i) (hi:i≤t.ni.length) (hk:1 < f.kids.length) (h:f.op=8):unI t f i i true false:=by
  unfold unI; rw [sv8 (by omega) hk h,decide_eq_true hi]; rfl
theorem unI_next {t:Tr} {f:Fm} {i k:Int} {al x:Bool} (h:unI t f i k al x) (h0:0≤k) (hk:k≤t.ni.length) (ha:al=true):unI t f i (k+1) (kR t f 0 k.toNat) (x||kR t f 1 k.toNat):=by
  unfold unI at h ⊢
  rw [← h,ha,decide_eq_true hk,untB_at (show k.toNat≤t.ni.length by omega),show (k+1).toNat=k.toNat+1 by omega]
  have e:decide (k+1≤(t.ni.length:Int))=decide (k.toNat < t.ni.length):=decide_eq_decide.2 (by omega)
  rw [e]
  cases x <;> cases kR t f 1 k.toNat <;> cases kR t f 0 k.toNat <;> cases decide (k.toNat < t.ni.length) <;> rfl
theorem unI_end {t:Tr} {f:Fm} {i k:Int} {al x:Bool} (h:unI t f i k al x) (he:(decide (k≤(t.ni.length:Int))&&al)=false):x=sat t f i.toNat:=by
  unfold unI at h
  rw [← h,Bool.and_comm al,he,Bool.false_and,Bool.or_false]
def reI (t:Tr) (f:Fm) (i k:Int) (al x:Bool):Prop:=(x&&(!(al&&decide (k≤t.ni.length))||relB (kR t f 0) (kR t f 1) (t.ni.length - k.toNat) k.toNat))=sat t f i.toNat
theorem reI_start {t:Tr} {f:Fm} {i:Int} (h0:0≤i) (hi:i≤t.ni.length) (hk:1 < f.kids.length) (h:f.op=10):reI t f i i true true:=by
  unfold reI; rw [sv10 (by omega) hk h,decide_eq_true hi]; simp
theorem reI_next {t:Tr} {f:Fm} {i k:Int} {al x:Bool} (h:reI t f i k al x) (h0:0≤k) (hk:k≤t.ni.length) (ha:al=true):reI t f i (k+1) (!(kR t f 0 k.toNat)) (x&&kR t f 1 k.toNat):=by
  unfold reI at h ⊢
  rw [← h,ha,decide_eq_true hk,relB_at (show k.toNat≤t.ni.length by omega),show (k+1).toNat=k.toNat+1 by omega]
  have e:decide (k+1≤(t.ni.length:Int))= !decide (¬k.toNat < t.ni.length):=by rw [decide_not,Bool.not_not]; exact decide_eq_decide.2 (by omega)
  rw [e]
  cases x <;> cases kR t f 1 k.toNat <;> cases kR t f 0 k.toNat <;> cases decide (¬k.toNat < t.ni.length) <;> rfl
theorem reI_end {t:Tr} {f:Fm} {i k:Int} {al x:Bool} (h:reI t f i k al x) (he:(decide (k≤(t.ni.length:Int))&&al)=false):x=sat t f i.toNat:=by
  unfold reI at h
  rw [← h,Bool.and_comm al,he]; simp
def aoI (t:Tr) (f:Fm) (i:Int) (q:Nat) (x:Bool):Prop:=
  (if f.op=5 then x&&((f.kids.map (rst t)).drop q).all fun r=>nth r i.toNat else x||((f.kids.map (rst t)).drop q).any fun r=>nth r i.toNat)=sat t f i.toNat
theorem aoI_start {t:Tr} {f:Fm} {i:Int} (h0:0≤i) (hi:i≤t.ni.length) (h:f.op=5∨f.op=6):aoI t f i 0 (decide (f.op=5)):=by
  unfold aoI
  by_cases e:f.op=5
  · rw [if_pos e,sv5 (by omega) e,decide_eq_true e]; rfl
  · rw [if_neg e,sv6 (by omega) (by omega),decide_eq_false e]; rfl
theorem aoI_and {t:Tr} {f:Fm} {i:Int} {q:Nat} {x:Bool} (h:aoI t f i q x) (hq:q < f.kids.length) (e:f.op=5):aoI t f i (q+1) (x&&nth (nth (f.kids.map (rst t)) q) i.toNat):=by
  unfold aoI at h ⊢
  rw [if_pos e] at h ⊢
  rw [← h,nth_drop (l:=f.kids.map (rst t)) (k:=q) (by simpa using hq),List.all_cons,Bool.and_assoc]
theorem aoI_or {t:Tr} {f:Fm} {i:Int} {q:Nat} {x:Bool} (h:aoI t f i q x) (hq:q < f.kids.length) (e: ¬f.op=5):aoI t f i (q+1) (x||nth (nth (f.kids.map (rst t)) q) i.toNat):=by
  unfold aoI at h ⊢
  rw [if_neg e] at h ⊢
  rw [← h,nth_drop (l:=f.kids.map (rst t)) (k:=q) (by simpa using hq),List.any_cons,Bool.or_assoc]
theorem aoI_end {t:Tr} {f:Fm} {i:Int} {q:Nat} {x:Bool} (h:aoI t f i q x) (hq:f.kids.length≤q):x=sat t f i.toNat:=by
  unfold aoI at h
  rw [List.drop_eq_nil_of_le (by simpa using hq)] at h
  split at h
  · rw [← h]; simp
  · rw [← h]; simp
end Go.Proofs.YteehaobohaecmaaDoor
namespace Go.Proofs.YteehaobohaecmaaDoor
open Go Go.Proofs
attribute [local irreducible] mksV
set_option maxHeartbeats 4000000 in
theorem rrests_pure_step (f:Fm) (t:Tr) (hf:okF f=true) (hz:f.sz≤4096) (ht:t.no.length=t.ni.length) (hn:t.ni.length≤1024) (ih: ∀ (g:Fm) (t:Tr),g.sz < f.sz→okF g=true→g.sz≤4096→t.no.length=t.ni.length→t.ni.length≤1024→PureC Tryd.prog 20 [(V.agg [(iV (g.op)),(iV (g.arg)),(V.sl (List.map cF (g.kids)))]),(V.agg [(ints t.ni),(ints t.no)])] (V.sl (List.map cB ((rst t g))))):PureC Tryd.prog 20 [(V.agg [(iV (f.op)),(iV (f.arg)),(V.sl (List.map cF (f.kids)))]),(V.agg [(ints t.ni),(ints t.no)])] (V.sl (List.map cB ((rst t f)))):=by
 refine pW Tryd.func20 s20_ok fun hB=>?_
 unfold s20
 dsimp only
 have hp:=okF_parts hf
 have hr:=rgt_ok hp.1
 have hln:=f.sz_len
 have hr0:0 < f.kids.length→(nth (f.kids.map (rst t)) 0).length=t.ni.length+1:=fun h=>by rw [nthM h,rst_len]
 have hr1:1 < f.kids.length→(nth (f.kids.map (rst t)) 1).length=t.ni.length+1:=fun h=>by rw [nthM h,rst_len]
 refine W_r (R_box (i:=2) (n:=0) (m:=3) (cs:=[(iV (f.op)),(iV (f.arg)),(V.sl (List.map cF (f.kids)))]) rfl (congrArg Blk.ver rfl) rfl rfl rfl (R_box (i:=3) (n:=0) (m:=2) (cs:=[(ints t.ni),(ints t.no)]) rfl (congrArg Blk.ver rfl) rfl rfl rfl (R_mv rfl (R_e (W_r (R_fk rfl rfl (R_lk rfl rfl rfl rfl ?_)))))))
 refine R_len rfl (R_mv rfl (R_e (W_r (R_mv rfl (R_addN rfl (@rfl V (iV ((1:Nat):Int))) (by omega) (R_mksm (i:=21) (n:=0) (m:=(t.ni.length+1)) (q:=(t.ni.length+1)) (f:=cB) (x:=false) rfl (congrArg Blk.ver rfl) (@rfl V (iV ((t.ni.length+1:Nat):Int))) (@rfl V (iV ((t.ni.length+1:Nat):Int))) rfl (by omega) (by omega) (by omega) (R_mv rfl ?_)))))))
 refine R_e (W_r (R_lazy (i:=7) (n:=0) rfl (congrArg Blk.ver rfl) (R_e (W_seq_seq (W_r (R_mv rfl (R_e ?_)))))))
 refine W_seq_blockg fun Q1 n1 x1 y1 z1=>?_
 refine W_loop (fun mm T H=> ∃ (k:Nat) (v:Nat),mm=f.kids.length - k∧T 2=(V.mp 2 1 0 0)∧T 3=(V.mp 3 1 0 0)∧T 5=(iV ((t.ni.length:Nat):Int))∧T 6=(V.ms 21 1 0 (t.ni.length+1))∧T 7=(V.ms 7 v 0 (k))∧T 8=(iV ((k:Nat):Int))∧H 2=(bk 1 24 3 [[(iV (f.op)),(iV (f.arg)),(V.sl (List.map cF (f.kids)))]])∧H 3=(bk 1 27 2 [[(ints t.ni),(ints t.no)]])∧H 7=(bz v 43 1 (List.map cBL ((f.kids.take k).map (rst t))))∧H 21=(bk 1 4 1 (List.map cB (List.replicate (t.ni.length+1) false)))∧(k≤f.kids.length)) ?_ ?_
 ·
  refine ⟨_,0,1,rfl,rfl,rfl,rfl,rfl,rfl,(Eq.trans (@rfl V (iV (0:Int))) rfl),rfl,rfl,(Eq.trans (@rfl Blk (bz 1 43 1 [])) (by rfl)),rfl,?_⟩
  · omega
 intro mm T H ⟨k,v,hmm,t2,t3,t5,t6,t7,t8,h2,h3,h7,h21,hk⟩ Q2 p12 p22 p32
 unfold b20_0
 refine W_seq_seq (W_r (R_mv t8 (R_fk t2 h2 (R_lk rfl h2 rfl rfl (R_len rfl (R_lss rfl rfl (R_e ?_)))))))
 refine W_seq_if rfl (fun c3=>?_) fun c3=>?_
 ·
  refine W_seq_skip (W_seq_blockg fun Q4 n4 x4 y4 z4=>(W_t (R_mv t7 (R_fk t2 h2 (R_lk rfl h2 rfl rfl (R_mv t8 (R_idxu (i:=k) (@rfl V (V.sl (List.map cF (f.kids)))) (@rfl V (iV ((k:Nat):Int))) (by omega) (cF_eq _) rfl ?_)))))))
  refine R_load_pp rfl rfl (R_lk t3 h3 rfl rfl (R_callk (ih (((nth (f.kids) (k)))) t (Fm.sz_kid (by omega)) (hp.2 _ (by omega)) (Nat.le_trans (Nat.le_of_lt (Fm.sz_kid (by omega))) hz) (by omega) (by omega)) rfl (R_bslice rfl rfl (R_append1 (l:=((f.kids.take k).map (rst t))) (f:=cBL) (x:=((rst t (((nth (f.kids) (k))))))) (@rfl V (V.ms 7 v 0 (k))) h7 (by (simp; omega)) (@rfl V (V.sl [[(V.sl (List.map cB ((rst t (((nth (f.kids) (k))))))))]])) rfl rfl (by omega) (by omega) (R_mv rfl (R_e (n4 _ _ ?_)))))))
  refine .done (W_t (R_mv t8 (R_addN rfl (@rfl V (iV ((1:Nat):Int))) (by omega) (R_mv rfl (R_e ?_)))))
  refine p12 _ _ _ ?_ ⟨(k+1),(v+1),rfl,t2,t3,t5,t6,(Eq.trans (@rfl V (V.ms 7 (v+1) 0 (k+1))) (by rfl)),(Eq.trans (@rfl V (iV ((k+1:Nat):Int))) (by rfl)),h2,h3,(Eq.trans (@rfl Blk (bz (v+1) 43 1 (List.map cBL ((f.kids.take k).map (rst t)++[(rst t (((nth (f.kids) (k)))))])))) (by (rw [mapTake (by omega)]; done))),h21,?_⟩
  · omega
  · omega
 refine W_seq_exit (p32 _ _ _ (x1 _ _ (.done (W_seq_seq (W_r (R_mv t5 (R_mv rfl ?_)))))))
 refine R_e (W_seq_blockg fun Q5 n5 x5 y5 z5=>?_)
 refine W_loop (fun mm T H=> ∃ (i:Int) (v:Nat),mm=(i+1).toNat∧T 2=(V.mp 2 1 0 0)∧T 3=(V.mp 3 1 0 0)∧T 5=(iV ((t.ni.length:Nat):Int))∧T 6=(V.ms 21 1 0 (t.ni.length+1))∧T 7=(V.ms 7 v 0 (f.kids.length))∧T 9=(iV (i))∧H 2=(bk 1 24 3 [[(iV (f.op)),(iV (f.arg)),(V.sl (List.map cF (f.kids)))]])∧H 3=(bk 1 27 2 [[(ints t.ni),(ints t.no)]])∧H 7=(bz v 43 1 (List.map cBL (f.kids.map (rst t))))∧H 21=(bk 1 4 1 (List.map cB (outL t f i)))∧(-1≤i∧i≤t.ni.length)) ?_ ?_
 ·
  refine ⟨_,((t.ni.length:Nat):Int),v,rfl,t2,t3,t5,t6,(Eq.trans t7 (by (rw [show k=f.kids.length by omega]; done))),(Eq.trans (@rfl V (iV ((t.ni.length:Nat):Int))) (by rfl)),h2,h3,(Eq.trans h7 (by (rw [show k=f.kids.length by omega,List.take_length]; done))),(Eq.trans h21 (by (rw [outL_start]; done))),?_⟩
  · omega
 intro mm T H ⟨i,v,hmm,t2,t3,t5,t6,t7,t9,h2,h3,h7,h21,hi⟩ Q6 p16 p26 p36
 unfold b20_1
 have hol:=outL_len t f i
 refine W_seq_seq (W_r (R_mv t9 (R_geq rfl rfl (R_e ?_))))
 refine W_seq_if rfl (fun c7=>?_) fun c7=>?_
 ·
  refine W_seq_skip (W_seq_blockg fun Q8 n8 x8 y8 z8=>(W_r (R_mv t9 (R_mv t5 (R_lss rfl rfl (R_mv rfl (R_e ?_)))))))
  refine W_r (R_fk t2 h2 (R_lk rfl h2 rfl rfl (R_e (W_block fun Q9 n9 x9 y9 z9=>(W_r (R_eql rfl rfl (R_mv rfl ?_)))))))
  refine R_e ?_
  refine W_if rfl (fun c10=>?_) fun c10=>?_
  ·
   refine W_t (R_mv t6 (R_mv t9 (R_idxI_ms0 (i:=(i)) (@rfl V (V.ms 21 1 0 (t.ni.length+1))) (@rfl V (iV (i))) h21 oB rfl (by omega) (by omega) (R_store (vs:=[(V.bool true)]) (B':=(bk 1 4 1 (List.map cB ((outL t f i).set (((i)).toNat) true)))) rfl rfl rfl h21 (stB_map (x:=true) (i:=(((i)).toNat)) (by omega) rfl rfl rfl rfl) (R_e (n9 _ _ (n8 _ _ ?_)))))))
   refine .done (W_t (R_mv t9 (R_sub rfl rfl (by omega) (by omega) (R_mv rfl (R_e ?_)))))
   refine p16 _ _ _ ?_ ⟨(i - 1),v,rfl,t2,t3,t5,t6,t7,(Eq.trans (@rfl V (iV ((i) - (1:Int)))) (by rfl)),h2,h3,h7,(Eq.trans (@rfl Blk (bk 1 4 1 (List.map cB ((outL t f i).set (((i)).toNat) true)))) (by (rw [outL_set2 (by omega) (by omega) (by rw [sv1 (by omega)])]; done))),?_⟩
   · omega
   · omega
  refine W_r (R_eql rfl rfl (R_mv rfl (R_e ?_)))
  refine W_if rfl (fun c11=>?_) fun c11=>?_
  ·
   refine W_t (R_mv t6 (R_mv t9 (R_mv rfl (R_mv rfl ?_))))
   refine Ops_seg 9 (fun T H=>T 2=(V.mp 2 1 0 0)∧T 3=(V.mp 3 1 0 0)∧T 5=(iV ((t.ni.length:Nat):Int))∧T 6=(V.ms 21 1 0 (t.ni.length+1))∧T 7=(V.ms 7 v 0 (f.kids.length))∧T 9=(iV (i))∧T 103=(V.ms 21 1 0 (t.ni.length+1))∧T 104=(iV (i))∧T 115=(V.bool (decide (((i) < ((t.ni.length:Nat):Int))∧(((nth (t.ni) (i).toNat))=(f.arg)))))∧H 2=(bk 1 24 3 [[(iV (f.op)),(iV (f.arg)),(V.sl (List.map cF (f.kids)))]])∧H 3=(bk 1 27 2 [[(ints t.ni),(ints t.no)]])∧H 7=(bz v 43 1 (List.map cBL (f.kids.map (rst t))))∧H 21=(bk 1 4 1 (List.map cB (outL t f i)))∧True) ?_ ?_
   ·
    by_cases g12:(i) < ((t.ni.length:Nat):Int)
    ·
     refine G_yes (edT g12 rfl) (R_fk t3 h3 (G_yes (edT g12 rfl) (R_lk rfl h3 rfl rfl (G_yes (edT g12 rfl) (R_mv t9 (G_yes (edT g12 rfl) (R_idxI (i:=(i)) (@rfl V (ints t.ni)) (@rfl V (iV (i))) (by omega) (by omega) rfl ?_)))))))
     refine G_yes (edT g12 rfl) (R_load_pp rfl rfl (G_yes (edT g12 rfl) (R_fk t2 h2 (G_yes (edT g12 rfl) (R_lk rfl h2 rfl rfl (G_yes (edT g12 rfl) (R_eql rfl rfl ?_)))))))
     refine R_pickT (edT g12 rfl) rfl ?_
     exact ⟨t2,t3,t5,t6,t7,t9,rfl,rfl,(dec_andT g12),h2,h3,h7,h21,trivial⟩
    ·
     refine G_n (edF g12 rfl) (G_n (edF g12 rfl) (G_n (edF g12 rfl) (G_n (edF g12 rfl) (G_n (edF g12 rfl) (G_n (edF g12 rfl) (G_n (edF g12 rfl) (G_n (edF g12 rfl) ?_)))))))
     refine R_pickF (edF g12 rfl) rfl ?_
     exact ⟨t2,t3,t5,t6,t7,t9,rfl,rfl,(dec_andF g12),h2,h3,h7,h21,trivial⟩
   intro T H ⟨t2,t3,t5,t6,t7,t9,t103,t104,t115,h2,h3,h7,h21,_⟩
   refine R_idxI_ms0 (i:=(i)) t103 t104 h21 oB rfl (by omega) (by omega) (R_store (vs:=[(V.bool (decide (((i) < ((t.ni.length:Nat):Int))∧(((nth (t.ni) (i).toNat))=(f.arg)))))]) (B':=(bk 1 4 1 (List.map cB ((outL t f i).set (((i)).toNat) (decide (((i) < ((t.ni.length:Nat):Int))∧(((nth (t.ni) (i).toNat))=(f.arg)))))))) rfl t115 rfl h21 (stB_map (x:=(decide (((i) < ((t.ni.length:Nat):Int))∧(((nth (t.ni) (i).toNat))=(f.arg))))) (i:=(((i)).toNat)) (by omega) rfl rfl rfl rfl) (R_e (n9 _ _ (n8 _ _ (.done (W_t (R_mv t9 ?_)))))))
   refine R_sub rfl rfl (by omega) (by omega) (R_mv rfl (R_e ?_))
   refine p16 _ _ _ ?_ ⟨(i - 1),v,rfl,t2,t3,t5,t6,t7,(Eq.trans (@rfl V (iV ((i) - (1:Int)))) (by rfl)),h2,h3,h7,(Eq.trans (@rfl Blk (bk 1 4 1 (List.map cB ((outL t f i).set (((i)).toNat) (decide (((i) < ((t.ni.length:Nat):Int))∧(((nth (t.ni) (i).toNat))=(f.arg)))))))) (by (rw [outL_set2 (by omega) (by omega) (by rw [sv2 (by omega),← Bool.decide_and]; exact decide_eq_decide.2 (by omega))]; done))),?_⟩
   · omega
   · omega
  refine W_r (R_eql rfl rfl (R_mv rfl (R_e ?_)))
  refine W_if rfl (fun c13=>?_) fun c13=>?_
  ·
   refine W_t (R_mv t6 (R_mv t9 (R_mv rfl (R_mv rfl ?_))))
   refine Ops_seg 9 (fun T H=>T 2=(V.mp 2 1 0 0)∧T 3=(V.mp 3 1 0 0)∧T 5=(iV ((t.ni.length:Nat):Int))∧T 6=(V.ms 21 1 0 (t.ni.length+1))∧T 7=(V.ms 7 v 0 (f.kids.length))∧T 9=(iV (i))∧T 119=(V.ms 21 1 0 (t.ni.length+1))∧T 120=(iV (i))∧T 131=(V.bool (decide (((i) < ((t.ni.length:Nat):Int))∧(((nth (t.no) (i).toNat))=(f.arg)))))∧H 2=(bk 1 24 3 [[(iV (f.op)),(iV (f.arg)),(V.sl (List.map cF (f.kids)))]])∧H 3=(bk 1 27 2 [[(ints t.ni),(ints t.no)]])∧H 7=(bz v 43 1 (List.map cBL (f.kids.map (rst t))))∧H 21=(bk 1 4 1 (List.map cB (outL t f i)))∧True) ?_ ?_
   ·
    by_cases g14:(i) < ((t.ni.length:Nat):Int)
    ·
     refine G_yes (edT g14 rfl) (R_fk t3 h3 (G_yes (edT g14 rfl) (R_lk rfl h3 rfl rfl (G_yes (edT g14 rfl) (R_mv t9 (G_yes (edT g14 rfl) (R_idxI (i:=(i)) (@rfl V (ints t.no)) (@rfl V (iV (i))) (by omega) (by omega) rfl ?_)))))))
     refine G_yes (edT g14 rfl) (R_load_pp rfl rfl (G_yes (edT g14 rfl) (R_fk t2 h2 (G_yes (edT g14 rfl) (R_lk rfl h2 rfl rfl (G_yes (edT g14 rfl) (R_eql rfl rfl ?_)))))))
     refine R_pickT (edT g14 rfl) rfl ?_
     exact ⟨t2,t3,t5,t6,t7,t9,rfl,rfl,(dec_andT g14),h2,h3,h7,h21,trivial⟩
    ·
     refine G_n (edF g14 rfl) (G_n (edF g14 rfl) (G_n (edF g14 rfl) (G_n (edF g14 rfl) (G_n (edF g14 rfl) (G_n (edF g14 rfl) (G_n (edF g14 rfl) (G_n (edF g14 rfl) ?_)))))))
     refine R_pickF (edF g14 rfl) rfl ?_
     exact ⟨t2,t3,t5,t6,t7,t9,rfl,rfl,(dec_andF g14),h2,h3,h7,h21,trivial⟩
   intro T H ⟨t2,t3,t5,t6,t7,t9,t119,t120,t131,h2,h3,h7,h21,_⟩
   refine R_idxI_ms0 (i:=(i)) t119 t120 h21 oB rfl (by omega) (by omega) (R_store (vs:=[(V.bool (decide (((i) < ((t.ni.length:Nat):Int))∧(((nth (t.no) (i).toNat))=(f.arg)))))]) (B':=(bk 1 4 1 (List.map cB ((outL t f i).set (((i)).toNat) (decide (((i) < ((t.ni.length:Nat):Int))∧(((nth (t.no) (i).toNat))=(f.arg)))))))) rfl t131 rfl h21 (stB_map (x:=(decide (((i) < ((t.ni.length:Nat):Int))∧(((nth (t.no) (i).toNat))=(f.arg))))) (i:=(((i)).toNat)) (by omega) rfl rfl rfl rfl) (R_e (n9 _ _ (n8 _ _ (.done (W_t (R_mv t9 ?_)))))))
   refine R_sub rfl rfl (by omega) (by omega) (R_mv rfl (R_e ?_))
   refine p16 _ _ _ ?_ ⟨(i - 1),v,rfl,t2,t3,t5,t6,t7,(Eq.trans (@rfl V (iV ((i) - (1:Int)))) (by rfl)),h2,h3,h7,(Eq.trans (@rfl Blk (bk 1 4 1 (List.map cB ((outL t f i).set (((i)).toNat) (decide (((i) < ((t.ni.length:Nat):Int))∧(((nth (t.no) (i).toNat))=(f.arg)))))))) (by (rw [outL_set2 (by omega) (by omega) (by rw [sv3 (by omega),← Bool.decide_and]; exact decide_eq_decide.2 (by omega))]; done))),?_⟩
   · omega
   · omega
  refine W_r (R_eql rfl rfl (R_mv rfl (R_e ?_)))
  refine W_if rfl (fun c15=>?_) fun c15=>?_
  ·
   refine W_t (R_mv t6 (R_mv t9 (R_mv t7 (R_idx_ms0 (i:=0) (@rfl V (V.ms 7 v 0 (f.kids.length))) (@rfl V (iV ((0:Nat):Int))) h7 (okB_map (by (simp only [List.length_map,List.length_set,outL_len]; omega))) rfl (by omega) (R_load_mp (v:=(V.sl (List.map cB ((nth (f.kids.map (rst t)) (0)))))) rfl h7 (ldB_map (by (simp only [List.length_map,List.length_set,outL_len]; omega)) (by rfl)) (R_mv t9 (R_idxI (i:=(i)) (@rfl V (V.sl (List.map cB ((nth (f.kids.map (rst t)) (0)))))) (@rfl V (iV (i))) (by omega) (by omega) rfl ?_)))))))
   refine R_load_pp rfl rfl (R_notb rfl (R_idxI_ms0 (i:=(i)) (@rfl V (V.ms 21 1 0 (t.ni.length+1))) (@rfl V (iV (i))) h21 oB rfl (by omega) (by omega) (R_store (vs:=[(V.bool ((!(nth ((nth (f.kids.map (rst t)) (0))) (i).toNat))))]) (B':=(bk 1 4 1 (List.map cB ((outL t f i).set (((i)).toNat) ((!(nth ((nth (f.kids.map (rst t)) (0))) (i).toNat))))))) rfl rfl rfl h21 (stB_map (x:=((!(nth ((nth (f.kids.map (rst t)) (0))) (i).toNat)))) (i:=(((i)).toNat)) (by omega) rfl rfl rfl rfl) (R_e (n9 _ _ (n8 _ _ (.done ?_)))))))
   refine W_t (R_mv t9 (R_sub rfl rfl (by omega) (by omega) (R_mv rfl (R_e ?_))))
   refine p16 _ _ _ ?_ ⟨(i - 1),v,rfl,t2,t3,t5,t6,t7,(Eq.trans (@rfl V (iV ((i) - (1:Int)))) (by rfl)),h2,h3,h7,(Eq.trans (@rfl Blk (bk 1 4 1 (List.map cB ((outL t f i).set (((i)).toNat) ((!(nth ((nth (f.kids.map (rst t)) (0))) (i).toNat))))))) (by (rw [outL_set2 (by omega) (by omega) (by rw [sv4 (by omega) (by omega) (by omega)]; rfl)]; done))),?_⟩
   · omega
   · omega
  refine W_r (R_eql rfl rfl (R_mv rfl (R_e ?_)))
  refine W_if rfl (fun c16=>?_) fun c16=>?_
  ·
   refine W_t (R_mv t6 (R_mv t9 (R_mv rfl (R_mv rfl ?_))))
   refine Ops_seg 8 (fun T H=>T 2=(V.mp 2 1 0 0)∧T 3=(V.mp 3 1 0 0)∧T 5=(iV ((t.ni.length:Nat):Int))∧T 6=(V.ms 21 1 0 (t.ni.length+1))∧T 7=(V.ms 7 v 0 (f.kids.length))∧T 9=(iV (i))∧T 147=(V.ms 21 1 0 (t.ni.length+1))∧T 148=(iV (i))∧T 158=(V.bool ((decide ((i) < ((t.ni.length:Nat):Int))&&((nth ((nth (f.kids.map (rst t)) (0))) ((i)+(1:Int)).toNat)))))∧H 2=(bk 1 24 3 [[(iV (f.op)),(iV (f.arg)),(V.sl (List.map cF (f.kids)))]])∧H 3=(bk 1 27 2 [[(ints t.ni),(ints t.no)]])∧H 7=(bz v 43 1 (List.map cBL (f.kids.map (rst t))))∧H 21=(bk 1 4 1 (List.map cB (outL t f i)))∧True) ?_ ?_
   ·
    by_cases g17:(i) < ((t.ni.length:Nat):Int)
    ·
     refine G_yes (edT g17 rfl) (R_mv t7 (G_yes (edT g17 rfl) (R_idx_ms0 (i:=0) (@rfl V (V.ms 7 v 0 (f.kids.length))) (@rfl V (iV ((0:Nat):Int))) h7 (okB_map (by (simp only [List.length_map,List.length_set,outL_len]; omega))) rfl (by omega) (G_yes (edT g17 rfl) (R_load_mp (v:=(V.sl (List.map cB ((nth (f.kids.map (rst t)) (0)))))) rfl h7 (ldB_map (by (simp only [List.length_map,List.length_set,outL_len]; omega)) (by rfl)) (G_yes (edT g17 rfl) (R_mv t9 ?_)))))))
     refine G_yes (edT g17 rfl) (R_add rfl rfl (by omega) (by omega) (G_yes (edT g17 rfl) (R_idxI (i:=((i)+(1:Int))) (@rfl V (V.sl (List.map cB ((nth (f.kids.map (rst t)) (0)))))) (@rfl V (iV ((i)+(1:Int)))) (by omega) (by omega) rfl (G_yes (edT g17 rfl) (R_load_pp rfl rfl (R_pickT (edT g17 rfl) rfl ?_))))))
     exact ⟨t2,t3,t5,t6,t7,t9,rfl,rfl,(dbandT g17),h2,h3,h7,h21,trivial⟩
    ·
     refine G_n (edF g17 rfl) (G_n (edF g17 rfl) (G_n (edF g17 rfl) (G_n (edF g17 rfl) (G_n (edF g17 rfl) (G_n (edF g17 rfl) (G_n (edF g17 rfl) (R_pickF (edF g17 rfl) rfl ?_)))))))
     exact ⟨t2,t3,t5,t6,t7,t9,rfl,rfl,(dbandF g17),h2,h3,h7,h21,trivial⟩
   intro T H ⟨t2,t3,t5,t6,t7,t9,t147,t148,t158,h2,h3,h7,h21,_⟩
   refine R_idxI_ms0 (i:=(i)) t147 t148 h21 oB rfl (by omega) (by omega) (R_store (vs:=[(V.bool ((decide ((i) < ((t.ni.length:Nat):Int))&&((nth ((nth (f.kids.map (rst t)) (0))) ((i)+(1:Int)).toNat)))))]) (B':=(bk 1 4 1 (List.map cB ((outL t f i).set (((i)).toNat) ((decide ((i) < ((t.ni.length:Nat):Int))&&((nth ((nth (f.kids.map (rst t)) (0))) ((i)+(1:Int)).toNat)))))))) rfl t158 rfl h21 (stB_map (x:=((decide ((i) < ((t.ni.length:Nat):Int))&&((nth ((nth (f.kids.map (rst t)) (0))) ((i)+(1:Int)).toNat))))) (i:=(((i)).toNat)) (by omega) rfl rfl rfl rfl) (R_e (n9 _ _ (n8 _ _ (.done (W_t (R_mv t9 ?_)))))))
   refine R_sub rfl rfl (by omega) (by omega) (R_mv rfl (R_e ?_))
   refine p16 _ _ _ ?_ ⟨(i - 1),v,rfl,t2,t3,t5,t6,t7,(Eq.trans (@rfl V (iV ((i) - (1:Int)))) (by rfl)),h2,h3,h7,(Eq.trans (@rfl Blk (bk 1 4 1 (List.map cB ((outL t f i).set (((i)).toNat) ((decide ((i) < ((t.ni.length:Nat):Int))&&((nth ((nth (f.kids.map (rst t)) (0))) ((i)+(1:Int)).toNat)))))))) (by (rw [outL_set2 (by omega) (by omega) (by rw [sv7 (by omega) (by omega),show (i+1).toNat=i.toNat+1 by omega]; congr 1; exact decide_eq_decide.2 (by omega))]; done))),?_⟩
   · omega
   · omega
  refine W_r (R_eql rfl rfl (R_mv rfl (R_e ?_)))
  refine W_if rfl (fun c18=>?_) fun c18=>?_
  ·
   refine W_t (R_mv t6 (R_mv t9 (R_mv rfl (R_not rfl (R_mv rfl ?_)))))
   refine Ops_seg 8 (fun T H=>T 2=(V.mp 2 1 0 0)∧T 3=(V.mp 3 1 0 0)∧T 5=(iV ((t.ni.length:Nat):Int))∧T 6=(V.ms 21 1 0 (t.ni.length+1))∧T 7=(V.ms 7 v 0 (f.kids.length))∧T 9=(iV (i))∧T 162=(V.ms 21 1 0 (t.ni.length+1))∧T 163=(iV (i))∧T 174=(V.bool ((decide (¬((i) < ((t.ni.length:Nat):Int)))||((nth ((nth (f.kids.map (rst t)) (0))) ((i)+(1:Int)).toNat)))))∧H 2=(bk 1 24 3 [[(iV (f.op)),(iV (f.arg)),(V.sl (List.map cF (f.kids)))]])∧H 3=(bk 1 27 2 [[(ints t.ni),(ints t.no)]])∧H 7=(bz v 43 1 (List.map cBL (f.kids.map (rst t))))∧H 21=(bk 1 4 1 (List.map cB (outL t f i)))∧True) ?_ ?_
   ·
    by_cases g19: ¬((i) < ((t.ni.length:Nat):Int))
    ·
     refine G_n (edT g19 rfl) (G_n (edT g19 rfl) (G_n (edT g19 rfl) (G_n (edT g19 rfl) (G_n (edT g19 rfl) (G_n (edT g19 rfl) (G_n (edT g19 rfl) (R_pickT (edT g19 rfl) rfl ?_)))))))
     exact ⟨t2,t3,t5,t6,t7,t9,rfl,rfl,(dborT g19),h2,h3,h7,h21,trivial⟩
    ·
     refine G_yes (edF g19 rfl) (R_mv t7 (G_yes (edF g19 rfl) (R_idx_ms0 (i:=0) (@rfl V (V.ms 7 v 0 (f.kids.length))) (@rfl V (iV ((0:Nat):Int))) h7 (okB_map (by (simp only [List.length_map,List.length_set,outL_len]; omega))) rfl (by omega) (G_yes (edF g19 rfl) (R_load_mp (v:=(V.sl (List.map cB ((nth (f.kids.map (rst t)) (0)))))) rfl h7 (ldB_map (by (simp only [List.length_map,List.length_set,outL_len]; omega)) (by rfl)) (G_yes (edF g19 rfl) (R_mv t9 ?_)))))))
     refine G_yes (edF g19 rfl) (R_add rfl rfl (by omega) (by omega) (G_yes (edF g19 rfl) (R_idxI (i:=((i)+(1:Int))) (@rfl V (V.sl (List.map cB ((nth (f.kids.map (rst t)) (0)))))) (@rfl V (iV ((i)+(1:Int)))) (by omega) (by omega) rfl (G_yes (edF g19 rfl) (R_load_pp rfl rfl (R_pickF (edF g19 rfl) rfl ?_))))))
     exact ⟨t2,t3,t5,t6,t7,t9,rfl,rfl,(dborF g19),h2,h3,h7,h21,trivial⟩
   intro T H ⟨t2,t3,t5,t6,t7,t9,t162,t163,t174,h2,h3,h7,h21,_⟩
   refine R_idxI_ms0 (i:=(i)) t162 t163 h21 oB rfl (by omega) (by omega) (R_store (vs:=[(V.bool ((decide (¬((i) < ((t.ni.length:Nat):Int)))||((nth ((nth (f.kids.map (rst t)) (0))) ((i)+(1:Int)).toNat)))))]) (B':=(bk 1 4 1 (List.map cB ((outL t f i).set (((i)).toNat) ((decide (¬((i) < ((t.ni.length:Nat):Int)))||((nth ((nth (f.kids.map (rst t)) (0))) ((i)+(1:Int)).toNat)))))))) rfl t174 rfl h21 (stB_map (x:=((decide (¬((i) < ((t.ni.length:Nat):Int)))||((nth ((nth (f.kids.map (rst t)) (0))) ((i)+(1:Int)).toNat))))) (i:=(((i)).toNat)) (by omega) rfl rfl rfl rfl) (R_e (n9 _ _ (n8 _ _ (.done (W_t (R_mv t9 ?_)))))))
   refine R_sub rfl rfl (by omega) (by omega) (R_mv rfl (R_e ?_))
   refine p16 _ _ _ ?_ ⟨(i - 1),v,rfl,t2,t3,t5,t6,t7,(Eq.trans (@rfl V (iV ((i) - (1:Int)))) (by rfl)),h2,h3,h7,(Eq.trans (@rfl Blk (bk 1 4 1 (List.map cB ((outL t f i).set (((i)).toNat) ((decide (¬((i) < ((t.ni.length:Nat):Int)))||((nth ((nth (f.kids.map (rst t)) (0))) ((i)+(1:Int)).toNat)))))))) (by (rw [outL_set2 (by omega) (by omega) (by rw [sv9 (by omega) (by omega),show (i+1).toNat=i.toNat+1 by omega]; congr 1; exact decide_eq_decide.2 (by omega))]; done))),?_⟩
   · omega
   · omega
  refine W_r (R_eql rfl rfl (R_mv rfl (R_e ?_)))
  refine W_if rfl (fun c20=>?_) fun c20=>?_
  ·
   refine W_r (R_mv t9 (R_mv rfl (R_mv rfl (R_e (W_block fun Q21 n21 x21 y21 z21=>?_)))))
   refine W_loop (fun mm T H=> ∃ (k:Int) (al:Bool) (x:Bool),mm=t.ni.length+1 - k.toNat∧T 2=(V.mp 2 1 0 0)∧T 3=(V.mp 3 1 0 0)∧T 5=(iV ((t.ni.length:Nat):Int))∧T 6=(V.ms 21 1 0 (t.ni.length+1))∧T 7=(V.ms 7 v 0 (f.kids.length))∧T 9=(iV (i))∧T 11=(iV (k))∧T 12=(V.bool al)∧H 2=(bk 1 24 3 [[(iV (f.op)),(iV (f.arg)),(V.sl (List.map cF (f.kids)))]])∧H 3=(bk 1 27 2 [[(ints t.ni),(ints t.no)]])∧H 7=(bz v 43 1 (List.map cBL (f.kids.map (rst t))))∧H 21=(bk 1 4 1 (List.map cB ((outL t f i).set i.toNat x)))∧(i≤k∧k≤t.ni.length+1)∧(unI t f i k al x)) ?_ ?_
   ·
    refine ⟨_,i,true,false,rfl,t2,t3,t5,t6,t7,t9,rfl,rfl,h2,h3,h7,(Eq.trans h21 (by (rw [outL_z (by omega) (by omega)]; done))),?_,?_⟩
    · omega
    · exact unI_start (by omega) (by omega) (by omega) (by omega)
   intro mm T H ⟨k,al,x,hmm,t2,t3,t5,t6,t7,t9,t11,t12,h2,h3,h7,h21,hk,hu⟩ Q22 p122 p222 p322
   unfold b20_2
   refine W_seq_seq (W_r (R_mv t11 (R_mv t5 (R_leq rfl rfl (R_mv rfl ?_)))))
   refine Ops_seg 2 (fun T H=>T 2=(V.mp 2 1 0 0)∧T 3=(V.mp 3 1 0 0)∧T 5=(iV ((t.ni.length:Nat):Int))∧T 6=(V.ms 21 1 0 (t.ni.length+1))∧T 7=(V.ms 7 v 0 (f.kids.length))∧T 9=(iV (i))∧T 11=(iV (k))∧T 184=(V.bool ((decide ((k)≤((t.ni.length:Nat):Int))&&al)))∧H 2=(bk 1 24 3 [[(iV (f.op)),(iV (f.arg)),(V.sl (List.map cF (f.kids)))]])∧H 3=(bk 1 27 2 [[(ints t.ni),(ints t.no)]])∧H 7=(bz v 43 1 (List.map cBL (f.kids.map (rst t))))∧H 21=(bk 1 4 1 (List.map cB ((outL t f i).set i.toNat x)))∧True) ?_ ?_
   ·
    by_cases g23:(k)≤((t.ni.length:Nat):Int)
    ·
     refine G_yes (edT g23 rfl) (R_mv t12 (R_pickT (edT g23 rfl) rfl ?_))
     exact ⟨t2,t3,t5,t6,t7,t9,t11,(dbandT g23),h2,h3,h7,h21,trivial⟩
    ·
     refine G_n (edF g23 rfl) (R_pickF (edF g23 rfl) rfl ?_)
     exact ⟨t2,t3,t5,t6,t7,t9,t11,(dbandF g23),h2,h3,h7,h21,trivial⟩
   intro T H ⟨t2,t3,t5,t6,t7,t9,t11,t184,h2,h3,h7,h21,_⟩
   refine R_e ?_
   refine W_seq_ifb t184 (fun c24=>?_) (fun c24=>?_)
   ·
    have q0:=c24
    rw [Bool.and_eq_true,decide_eq_true_eq] at q0
    obtain ⟨hk1,hal⟩:=q0
    refine W_seq_skip (W_seq_blockg fun Q25 n25 x25 y25 z25=>(W_r (R_mv t6 (R_mv t9 (R_mv t6 (R_mv t9 (R_idxI_ms0 (i:=(i)) (@rfl V (V.ms 21 1 0 (t.ni.length+1))) (@rfl V (iV (i))) h21 oB rfl (by omega) (by omega) ?_)))))))
    refine R_load_mp (v:=(V.bool ((nth ((outL t f i).set i.toNat x) (((i)).toNat))))) rfl h21 (ldB_map (by (simp only [List.length_map,List.length_set,outL_len]; omega)) (by rfl)) (R_mv rfl ?_)
    refine Ops_seg 7 (fun T H=>T 2=(V.mp 2 1 0 0)∧T 3=(V.mp 3 1 0 0)∧T 5=(iV ((t.ni.length:Nat):Int))∧T 6=(V.ms 21 1 0 (t.ni.length+1))∧T 7=(V.ms 7 v 0 (f.kids.length))∧T 9=(iV (i))∧T 11=(iV (k))∧T 187=(V.ms 21 1 0 (t.ni.length+1))∧T 188=(iV (i))∧T 200=(V.bool ((((nth ((outL t f i).set i.toNat x) (((i)).toNat)))||((nth ((nth (f.kids.map (rst t)) (1))) (k).toNat)))))∧H 2=(bk 1 24 3 [[(iV (f.op)),(iV (f.arg)),(V.sl (List.map cF (f.kids)))]])∧H 3=(bk 1 27 2 [[(ints t.ni),(ints t.no)]])∧H 7=(bz v 43 1 (List.map cBL (f.kids.map (rst t))))∧H 21=(bk 1 4 1 (List.map cB ((outL t f i).set i.toNat x)))∧True) ?_ ?_
    ·
     by_cases g26:((nth ((outL t f i).set i.toNat x) (((i)).toNat)))=true
     ·
      refine G_n (ebT g26 rfl) (G_n (ebT g26 rfl) (G_n (ebT g26 rfl) (G_n (ebT g26 rfl) (G_n (ebT g26 rfl) (G_n (ebT g26 rfl) (R_pickT (ebT g26 rfl) rfl ?_))))))
      exact ⟨t2,t3,t5,t6,t7,t9,t11,rfl,rfl,(borT g26),h2,h3,h7,h21,trivial⟩
     ·
      refine G_yes (ebF g26 rfl) (R_mv t7 (G_yes (ebF g26 rfl) (R_idx_ms0 (i:=1) (@rfl V (V.ms 7 v 0 (f.kids.length))) (@rfl V (iV ((1:Nat):Int))) h7 (okB_map (by (simp only [List.length_map,List.length_set,outL_len]; omega))) rfl (by omega) (G_yes (ebF g26 rfl) (R_load_mp (v:=(V.sl (List.map cB ((nth (f.kids.map (rst t)) (1)))))) rfl h7 (ldB_map (by (simp only [List.length_map,List.length_set,outL_len]; omega)) (by rfl)) (G_yes (ebF g26 rfl) (R_mv t11 ?_)))))))
      refine G_yes (ebF g26 rfl) (R_idxI (i:=(k)) (@rfl V (V.sl (List.map cB ((nth (f.kids.map (rst t)) (1)))))) (@rfl V (iV (k))) (by omega) (by omega) rfl (G_yes (ebF g26 rfl) (R_load_pp rfl rfl (R_pickF (ebF g26 rfl) rfl ?_))))
      exact ⟨t2,t3,t5,t6,t7,t9,t11,rfl,rfl,(borF g26),h2,h3,h7,h21,trivial⟩
    intro T H ⟨t2,t3,t5,t6,t7,t9,t11,t187,t188,t200,h2,h3,h7,h21,_⟩
    refine R_idxI_ms0 (i:=(i)) t187 t188 h21 oB rfl (by omega) (by omega) (R_store (vs:=[(V.bool ((((nth ((outL t f i).set i.toNat x) (((i)).toNat)))||((nth ((nth (f.kids.map (rst t)) (1))) (k).toNat)))))]) (B':=(bk 1 4 1 (List.map cB (((outL t f i).set i.toNat x).set (((i)).toNat) ((((nth ((outL t f i).set i.toNat x) (((i)).toNat)))||((nth ((nth (f.kids.map (rst t)) (1))) (k).toNat)))))))) rfl t200 rfl h21 (stB_map (x:=((((nth ((outL t f i).set i.toNat x) (((i)).toNat)))||((nth ((nth (f.kids.map (rst t)) (1))) (k).toNat))))) (i:=(((i)).toNat)) (by (simp only [List.length_map,List.length_set,outL_len]; omega)) rfl rfl rfl rfl) (R_e (W_t (R_mv t7 (R_idx_ms0 (i:=0) (@rfl V (V.ms 7 v 0 (f.kids.length))) (@rfl V (iV ((0:Nat):Int))) h7 (okB_map (by (simp only [List.length_map,List.length_set,outL_len]; omega))) rfl (by omega) (R_load_mp (v:=(V.sl (List.map cB ((nth (f.kids.map (rst t)) (0)))))) rfl h7 (ldB_map (by (simp only [List.length_map,List.length_set,outL_len]; omega)) (by rfl)) (R_mv t11 ?_)))))))
    refine R_idxI (i:=(k)) (@rfl V (V.sl (List.map cB ((nth (f.kids.map (rst t)) (0)))))) (@rfl V (iV (k))) (by omega) (by omega) rfl (R_load_pp rfl rfl (R_mv rfl (R_e (n25 _ _ (.done (W_t (R_mv t11 ?_)))))))
    refine R_add rfl rfl (by omega) (by omega) (R_mv rfl (R_e ?_))
    refine p122 _ _ _ ?_ ⟨(k+1),(kR t f 0 k.toNat),(x||kR t f 1 k.toNat),rfl,t2,t3,t5,t6,t7,t9,(Eq.trans (@rfl V (iV ((k)+(1:Int)))) (by rfl)),(Eq.trans (@rfl V (V.bool ((nth ((nth (f.kids.map (rst t)) (0))) (k).toNat)))) (by rfl)),h2,h3,h7,(Eq.trans (@rfl Blk (bk 1 4 1 (List.map cB (((outL t f i).set i.toNat x).set (((i)).toNat) ((((nth ((outL t f i).set i.toNat x) (((i)).toNat)))||((nth ((nth (f.kids.map (rst t)) (1))) (k).toNat)))))))) (by (rw [List.set_set,nth_set_at (by rw [outL_len]; omega)]; rfl))),?_,?_⟩
    · omega
    · omega
    · exact unI_next hu (by omega) (by omega) hal
   have hx:=unI_end hu c24
   refine W_seq_exit (p322 _ _ _ (x21 _ _ (n9 _ _ (n8 _ _ (.done (W_t (R_mv t9 ?_)))))))
   refine R_sub rfl rfl (by omega) (by omega) (R_mv rfl (R_e ?_))
   refine p16 _ _ _ ?_ ⟨(i - 1),v,rfl,t2,t3,t5,t6,t7,(Eq.trans (@rfl V (iV ((i) - (1:Int)))) (by rfl)),h2,h3,h7,(Eq.trans h21 (by (rw [outL_set2 (by omega) (by omega) hx]; done))),?_⟩
   · omega
   · omega
  refine W_r (R_eql rfl rfl (R_mv rfl (R_e ?_)))
  refine W_if rfl (fun c27=>?_) fun c27=>?_
  ·
   refine W_r (R_mv t6 (R_mv t9 (R_idxI_ms0 (i:=(i)) (@rfl V (V.ms 21 1 0 (t.ni.length+1))) (@rfl V (iV (i))) h21 oB rfl (by omega) (by omega) (R_store (vs:=[(V.bool true)]) (B':=(bk 1 4 1 (List.map cB ((outL t f i).set (((i)).toNat) true)))) rfl rfl rfl h21 (stB_map (x:=true) (i:=(((i)).toNat)) (by omega) rfl rfl rfl rfl) (R_e (W_r (R_mv t9 ?_)))))))
   refine R_mv rfl (R_mv rfl (R_e (W_block fun Q28 n28 x28 y28 z28=>?_)))
   refine W_loop (fun mm T H=> ∃ (k:Int) (al:Bool) (x:Bool),mm=t.ni.length+1 - k.toNat∧T 2=(V.mp 2 1 0 0)∧T 3=(V.mp 3 1 0 0)∧T 5=(iV ((t.ni.length:Nat):Int))∧T 6=(V.ms 21 1 0 (t.ni.length+1))∧T 7=(V.ms 7 v 0 (f.kids.length))∧T 9=(iV (i))∧T 13=(iV (k))∧T 14=(V.bool al)∧H 2=(bk 1 24 3 [[(iV (f.op)),(iV (f.arg)),(V.sl (List.map cF (f.kids)))]])∧H 3=(bk 1 27 2 [[(ints t.ni),(ints t.no)]])∧H 7=(bz v 43 1 (List.map cBL (f.kids.map (rst t))))∧H 21=(bk 1 4 1 (List.map cB ((outL t f i).set i.toNat x)))∧(i≤k∧k≤t.ni.length+1)∧(reI t f i k al x)) ?_ ?_
   ·
    refine ⟨_,i,true,true,rfl,t2,t3,t5,t6,t7,t9,rfl,rfl,h2,h3,h7,(Eq.trans (@rfl Blk (bk 1 4 1 (List.map cB ((outL t f i).set (((i)).toNat) true)))) (by rfl)),?_,?_⟩
    · omega
    · exact reI_start (by omega) (by omega) (by omega) (by omega)
   intro mm T H ⟨k,al,x,hmm,t2,t3,t5,t6,t7,t9,t13,t14,h2,h3,h7,h21,hk,hu⟩ Q29 p129 p229 p329
   unfold b20_3
   refine W_seq_seq (W_r (R_mv t13 (R_mv t5 (R_leq rfl rfl (R_mv rfl ?_)))))
   refine Ops_seg 2 (fun T H=>T 2=(V.mp 2 1 0 0)∧T 3=(V.mp 3 1 0 0)∧T 5=(iV ((t.ni.length:Nat):Int))∧T 6=(V.ms 21 1 0 (t.ni.length+1))∧T 7=(V.ms 7 v 0 (f.kids.length))∧T 9=(iV (i))∧T 13=(iV (k))∧T 219=(V.bool ((decide ((k)≤((t.ni.length:Nat):Int))&&al)))∧H 2=(bk 1 24 3 [[(iV (f.op)),(iV (f.arg)),(V.sl (List.map cF (f.kids)))]])∧H 3=(bk 1 27 2 [[(ints t.ni),(ints t.no)]])∧H 7=(bz v 43 1 (List.map cBL (f.kids.map (rst t))))∧H 21=(bk 1 4 1 (List.map cB ((outL t f i).set i.toNat x)))∧True) ?_ ?_
   ·
    by_cases g30:(k)≤((t.ni.length:Nat):Int)
    ·
     refine G_yes (edT g30 rfl) (R_mv t14 (R_pickT (edT g30 rfl) rfl ?_))
     exact ⟨t2,t3,t5,t6,t7,t9,t13,(dbandT g30),h2,h3,h7,h21,trivial⟩
    ·
     refine G_n (edF g30 rfl) (R_pickF (edF g30 rfl) rfl ?_)
     exact ⟨t2,t3,t5,t6,t7,t9,t13,(dbandF g30),h2,h3,h7,h21,trivial⟩
   intro T H ⟨t2,t3,t5,t6,t7,t9,t13,t219,h2,h3,h7,h21,_⟩
   refine R_e ?_
   refine W_seq_ifb t219 (fun c31=>?_) (fun c31=>?_)
   ·
    have q0:=c31
    rw [Bool.and_eq_true,decide_eq_true_eq] at q0
    obtain ⟨hk1,hal⟩:=q0
    refine W_seq_skip (W_seq_blockg fun Q32 n32 x32 y32 z32=>(W_r (R_mv t6 (R_mv t9 (R_mv t6 (R_mv t9 (R_idxI_ms0 (i:=(i)) (@rfl V (V.ms 21 1 0 (t.ni.length+1))) (@rfl V (iV (i))) h21 oB rfl (by omega) (by omega) ?_)))))))
    refine R_load_mp (v:=(V.bool ((nth ((outL t f i).set i.toNat x) (((i)).toNat))))) rfl h21 (ldB_map (by (simp only [List.length_map,List.length_set,outL_len]; omega)) (by rfl)) (R_mv rfl ?_)
    refine Ops_seg 7 (fun T H=>T 2=(V.mp 2 1 0 0)∧T 3=(V.mp 3 1 0 0)∧T 5=(iV ((t.ni.length:Nat):Int))∧T 6=(V.ms 21 1 0 (t.ni.length+1))∧T 7=(V.ms 7 v 0 (f.kids.length))∧T 9=(iV (i))∧T 13=(iV (k))∧T 222=(V.ms 21 1 0 (t.ni.length+1))∧T 223=(iV (i))∧T 235=(V.bool ((((nth ((outL t f i).set i.toNat x) (((i)).toNat)))&&((nth ((nth (f.kids.map (rst t)) (1))) (k).toNat)))))∧H 2=(bk 1 24 3 [[(iV (f.op)),(iV (f.arg)),(V.sl (List.map cF (f.kids)))]])∧H 3=(bk 1 27 2 [[(ints t.ni),(ints t.no)]])∧H 7=(bz v 43 1 (List.map cBL (f.kids.map (rst t))))∧H 21=(bk 1 4 1 (List.map cB ((outL t f i).set i.toNat x)))∧True) ?_ ?_
    ·
     by_cases g33:((nth ((outL t f i).set i.toNat x) (((i)).toNat)))=true
     ·
      refine G_yes (ebT g33 rfl) (R_mv t7 (G_yes (ebT g33 rfl) (R_idx_ms0 (i:=1) (@rfl V (V.ms 7 v 0 (f.kids.length))) (@rfl V (iV ((1:Nat):Int))) h7 (okB_map (by (simp only [List.length_map,List.length_set,outL_len]; omega))) rfl (by omega) (G_yes (ebT g33 rfl) (R_load_mp (v:=(V.sl (List.map cB ((nth (f.kids.map (rst t)) (1)))))) rfl h7 (ldB_map (by (simp only [List.length_map,List.length_set,outL_len]; omega)) (by rfl)) (G_yes (ebT g33 rfl) (R_mv t13 ?_)))))))
      refine G_yes (ebT g33 rfl) (R_idxI (i:=(k)) (@rfl V (V.sl (List.map cB ((nth (f.kids.map (rst t)) (1)))))) (@rfl V (iV (k))) (by omega) (by omega) rfl (G_yes (ebT g33 rfl) (R_load_pp rfl rfl (R_pickT (ebT g33 rfl) rfl ?_))))
      exact ⟨t2,t3,t5,t6,t7,t9,t13,rfl,rfl,(bandT g33),h2,h3,h7,h21,trivial⟩
     ·
      refine G_n (ebF g33 rfl) (G_n (ebF g33 rfl) (G_n (ebF g33 rfl) (G_n (ebF g33 rfl) (G_n (ebF g33 rfl) (G_n (ebF g33 rfl) (R_pickF (ebF g33 rfl) rfl ?_))))))
      exact ⟨t2,t3,t5,t6,t7,t9,t13,rfl,rfl,(bandF g33),h2,h3,h7,h21,trivial⟩
    intro T H ⟨t2,t3,t5,t6,t7,t9,t13,t222,t223,t235,h2,h3,h7,h21,_⟩
    refine R_idxI_ms0 (i:=(i)) t222 t223 h21 oB rfl (by omega) (by omega) (R_store (vs:=[(V.bool ((((nth ((outL t f i).set i.toNat x) (((i)).toNat)))&&((nth ((nth (f.kids.map (rst t)) (1))) (k).toNat)))))]) (B':=(bk 1 4 1 (List.map cB (((outL t f i).set i.toNat x).set (((i)).toNat) ((((nth ((outL t f i).set i.toNat x) (((i)).toNat)))&&((nth ((nth (f.kids.map (rst t)) (1))) (k).toNat)))))))) rfl t235 rfl h21 (stB_map (x:=((((nth ((outL t f i).set i.toNat x) (((i)).toNat)))&&((nth ((nth (f.kids.map (rst t)) (1))) (k).toNat))))) (i:=(((i)).toNat)) (by (simp only [List.length_map,List.length_set,outL_len]; omega)) rfl rfl rfl rfl) (R_e (W_t (R_mv t7 (R_idx_ms0 (i:=0) (@rfl V (V.ms 7 v 0 (f.kids.length))) (@rfl V (iV ((0:Nat):Int))) h7 (okB_map (by (simp only [List.length_map,List.length_set,outL_len]; omega))) rfl (by omega) (R_load_mp (v:=(V.sl (List.map cB ((nth (f.kids.map (rst t)) (0)))))) rfl h7 (ldB_map (by (simp only [List.length_map,List.length_set,outL_len]; omega)) (by rfl)) (R_mv t13 ?_)))))))
    refine R_idxI (i:=(k)) (@rfl V (V.sl (List.map cB ((nth (f.kids.map (rst t)) (0)))))) (@rfl V (iV (k))) (by omega) (by omega) rfl (R_load_pp rfl rfl (R_notb rfl (R_mv rfl (R_e (n32 _ _ (.done (W_t ?_)))))))
    refine R_mv t13 (R_add rfl rfl (by omega) (by omega) (R_mv rfl (R_e ?_)))
    refine p129 _ _ _ ?_ ⟨(k+1),(!(kR t f 0 k.toNat)),(x&&kR t f 1 k.toNat),rfl,t2,t3,t5,t6,t7,t9,(Eq.trans (@rfl V (iV ((k)+(1:Int)))) (by rfl)),(Eq.trans (@rfl V (V.bool ((!(nth ((nth (f.kids.map (rst t)) (0))) (k).toNat))))) (by rfl)),h2,h3,h7,(Eq.trans (@rfl Blk (bk 1 4 1 (List.map cB (((outL t f i).set i.toNat x).set (((i)).toNat) ((((nth ((outL t f i).set i.toNat x) (((i)).toNat)))&&((nth ((nth (f.kids.map (rst t)) (1))) (k).toNat)))))))) (by (rw [List.set_set,nth_set_at (by rw [outL_len]; omega)]; rfl))),?_,?_⟩
    · omega
    · omega
    · exact reI_next hu (by omega) (by omega) hal
   have hx:=reI_end hu c31
   refine W_seq_exit (p329 _ _ _ (x28 _ _ (n9 _ _ (n8 _ _ (.done (W_t (R_mv t9 ?_)))))))
   refine R_sub rfl rfl (by omega) (by omega) (R_mv rfl (R_e ?_))
   refine p16 _ _ _ ?_ ⟨(i - 1),v,rfl,t2,t3,t5,t6,t7,(Eq.trans (@rfl V (iV ((i) - (1:Int)))) (by rfl)),h2,h3,h7,(Eq.trans h21 (by (rw [outL_set2 (by omega) (by omega) hx]; done))),?_⟩
   · omega
   · omega
  refine W_r (R_mv t6 (R_mv t9 (R_fk t2 h2 (R_lk rfl h2 rfl rfl (R_eql rfl rfl (R_idxI_ms0 (i:=(i)) (@rfl V (V.ms 21 1 0 (t.ni.length+1))) (@rfl V (iV (i))) h21 oB rfl (by omega) (by omega) (R_store (vs:=[(V.bool (decide ((f.op)=(5:Int))))]) (B':=(bk 1 4 1 (List.map cB ((outL t f i).set (((i)).toNat) (decide ((f.op)=(5:Int))))))) rfl rfl rfl h21 (stB_map (x:=(decide ((f.op)=(5:Int)))) (i:=(((i)).toNat)) (by omega) rfl rfl rfl rfl) ?_)))))))
  refine R_e (W_r (R_mv rfl (R_e (W_block fun Q34 n34 x34 y34 z34=>?_))))
  refine W_loop (fun mm T H=> ∃ (q:Nat) (x:Bool),mm=f.kids.length - q∧T 2=(V.mp 2 1 0 0)∧T 3=(V.mp 3 1 0 0)∧T 5=(iV ((t.ni.length:Nat):Int))∧T 6=(V.ms 21 1 0 (t.ni.length+1))∧T 7=(V.ms 7 v 0 (f.kids.length))∧T 9=(iV (i))∧T 15=(iV ((q:Nat):Int))∧H 2=(bk 1 24 3 [[(iV (f.op)),(iV (f.arg)),(V.sl (List.map cF (f.kids)))]])∧H 3=(bk 1 27 2 [[(ints t.ni),(ints t.no)]])∧H 7=(bz v 43 1 (List.map cBL (f.kids.map (rst t))))∧H 21=(bk 1 4 1 (List.map cB ((outL t f i).set i.toNat x)))∧(q≤f.kids.length)∧(aoI t f i q x)) ?_ ?_
  ·
   refine ⟨_,0,(decide (f.op=5)),rfl,t2,t3,t5,t6,t7,t9,(Eq.trans (@rfl V (iV (0:Int))) rfl),h2,h3,h7,(Eq.trans (@rfl Blk (bk 1 4 1 (List.map cB ((outL t f i).set (((i)).toNat) (decide ((f.op)=(5:Int))))))) (by rfl)),?_,?_⟩
   · omega
   · exact aoI_start (by omega) (by omega) (by omega)
  intro mm T H ⟨q,x,hmm,t2,t3,t5,t6,t7,t9,t15,h2,h3,h7,h21,hq,ha⟩ Q35 p135 p235 p335
  unfold b20_4
  have hrq:q < f.kids.length→(nth (f.kids.map (rst t)) q).length=t.ni.length+1:=fun h=>by rw [nthM h,rst_len]
  refine W_seq_seq (W_r (R_mv t15 (R_mv t7 (R_len_ms rfl h7 (by simp) (R_lss rfl rfl (R_e ?_))))))
  refine W_seq_if rfl (fun c36=>?_) fun c36=>?_
  ·
   refine W_seq_skip (W_seq_blockg fun Q37 n37 x37 y37 z37=>(W_r (R_fk t2 h2 (R_lk rfl h2 rfl rfl (R_eql rfl rfl (R_e ?_))))))
   refine W_if rfl (fun c38=>?_) fun c38=>?_
   ·
    refine W_t (R_mv t6 (R_mv t9 (R_mv t6 (R_mv t9 (R_idxI_ms0 (i:=(i)) (@rfl V (V.ms 21 1 0 (t.ni.length+1))) (@rfl V (iV (i))) h21 oB rfl (by omega) (by omega) (R_load_mp (v:=(V.bool ((nth ((outL t f i).set i.toNat x) (((i)).toNat))))) rfl h21 (ldB_map (by (simp only [List.length_map,List.length_set,outL_len]; omega)) (by rfl)) (R_mv rfl ?_)))))))
    refine Ops_seg 8 (fun T H=>T 2=(V.mp 2 1 0 0)∧T 3=(V.mp 3 1 0 0)∧T 5=(iV ((t.ni.length:Nat):Int))∧T 6=(V.ms 21 1 0 (t.ni.length+1))∧T 7=(V.ms 7 v 0 (f.kids.length))∧T 9=(iV (i))∧T 15=(iV ((q:Nat):Int))∧T 64=(V.ms 21 1 0 (t.ni.length+1))∧T 65=(iV (i))∧T 78=(V.bool ((((nth ((outL t f i).set i.toNat x) (((i)).toNat)))&&((nth ((nth (f.kids.map (rst t)) (q))) (i).toNat)))))∧H 2=(bk 1 24 3 [[(iV (f.op)),(iV (f.arg)),(V.sl (List.map cF (f.kids)))]])∧H 3=(bk 1 27 2 [[(ints t.ni),(ints t.no)]])∧H 7=(bz v 43 1 (List.map cBL (f.kids.map (rst t))))∧H 21=(bk 1 4 1 (List.map cB ((outL t f i).set i.toNat x)))∧True) ?_ ?_
    ·
     by_cases g39:((nth ((outL t f i).set i.toNat x) (((i)).toNat)))=true
     ·
      refine G_yes (ebT g39 rfl) (R_mv t7 (G_yes (ebT g39 rfl) (R_mv t15 (G_yes (ebT g39 rfl) (R_idx_ms0 (i:=q) (@rfl V (V.ms 7 v 0 (f.kids.length))) (@rfl V (iV ((q:Nat):Int))) h7 (okB_map (by (simp only [List.length_map,List.length_set,outL_len]; omega))) rfl (by omega) (G_yes (ebT g39 rfl) (R_load_mp (v:=(V.sl (List.map cB ((nth (f.kids.map (rst t)) (q)))))) rfl h7 (ldB_map (by (simp only [List.length_map,List.length_set,outL_len]; omega)) (by rfl)) ?_)))))))
      refine G_yes (ebT g39 rfl) (R_mv t9 (G_yes (ebT g39 rfl) (R_idxI (i:=(i)) (@rfl V (V.sl (List.map cB ((nth (f.kids.map (rst t)) (q)))))) (@rfl V (iV (i))) (by omega) (by omega) rfl (G_yes (ebT g39 rfl) (R_load_pp rfl rfl (R_pickT (ebT g39 rfl) rfl ?_))))))
      exact ⟨t2,t3,t5,t6,t7,t9,t15,rfl,rfl,(bandT g39),h2,h3,h7,h21,trivial⟩
     ·
      refine G_n (ebF g39 rfl) (G_n (ebF g39 rfl) (G_n (ebF g39 rfl) (G_n (ebF g39 rfl) (G_n (ebF g39 rfl) (G_n (ebF g39 rfl) (G_n (ebF g39 rfl) (R_pickF (ebF g39 rfl) rfl ?_)))))))
      exact ⟨t2,t3,t5,t6,t7,t9,t15,rfl,rfl,(bandF g39),h2,h3,h7,h21,trivial⟩
    intro T H ⟨t2,t3,t5,t6,t7,t9,t15,t64,t65,t78,h2,h3,h7,h21,_⟩
    refine R_idxI_ms0 (i:=(i)) t64 t65 h21 oB rfl (by omega) (by omega) (R_store (vs:=[(V.bool ((((nth ((outL t f i).set i.toNat x) (((i)).toNat)))&&((nth ((nth (f.kids.map (rst t)) (q))) (i).toNat)))))]) (B':=(bk 1 4 1 (List.map cB (((outL t f i).set i.toNat x).set (((i)).toNat) ((((nth ((outL t f i).set i.toNat x) (((i)).toNat)))&&((nth ((nth (f.kids.map (rst t)) (q))) (i).toNat)))))))) rfl t78 rfl h21 (stB_map (x:=((((nth ((outL t f i).set i.toNat x) (((i)).toNat)))&&((nth ((nth (f.kids.map (rst t)) (q))) (i).toNat))))) (i:=(((i)).toNat)) (by (simp only [List.length_map,List.length_set,outL_len]; omega)) rfl rfl rfl rfl) (R_e (n37 _ _ (.done (W_t (R_mv t15 (R_addN rfl (@rfl V (iV ((1:Nat):Int))) (by omega) ?_)))))))
    refine R_mv rfl (R_e ?_)
    refine p135 _ _ _ ?_ ⟨(q+1),(x&&nth (nth (f.kids.map (rst t)) q) i.toNat),rfl,t2,t3,t5,t6,t7,t9,(Eq.trans (@rfl V (iV ((q+1:Nat):Int))) (by rfl)),h2,h3,h7,(Eq.trans (@rfl Blk (bk 1 4 1 (List.map cB (((outL t f i).set i.toNat x).set (((i)).toNat) ((((nth ((outL t f i).set i.toNat x) (((i)).toNat)))&&((nth ((nth (f.kids.map (rst t)) (q))) (i).toNat)))))))) (by (rw [List.set_set,nth_set_at (by rw [outL_len]; omega)]; done))),?_,?_⟩
    · omega
    · omega
    · first|exact aoI_and ha (by omega) (by omega)|exact aoI_or ha (by omega) (by omega)
   refine W_t (R_mv t6 (R_mv t9 (R_mv t6 (R_mv t9 (R_idxI_ms0 (i:=(i)) (@rfl V (V.ms 21 1 0 (t.ni.length+1))) (@rfl V (iV (i))) h21 oB rfl (by omega) (by omega) (R_load_mp (v:=(V.bool ((nth ((outL t f i).set i.toNat x) (((i)).toNat))))) rfl h21 (ldB_map (by (simp only [List.length_map,List.length_set,outL_len]; omega)) (by rfl)) (R_mv rfl ?_)))))))
   refine Ops_seg 8 (fun T H=>T 2=(V.mp 2 1 0 0)∧T 3=(V.mp 3 1 0 0)∧T 5=(iV ((t.ni.length:Nat):Int))∧T 6=(V.ms 21 1 0 (t.ni.length+1))∧T 7=(V.ms 7 v 0 (f.kids.length))∧T 9=(iV (i))∧T 15=(iV ((q:Nat):Int))∧T 80=(V.ms 21 1 0 (t.ni.length+1))∧T 81=(iV (i))∧T 94=(V.bool ((((nth ((outL t f i).set i.toNat x) (((i)).toNat)))||((nth ((nth (f.kids.map (rst t)) (q))) (i).toNat)))))∧H 2=(bk 1 24 3 [[(iV (f.op)),(iV (f.arg)),(V.sl (List.map cF (f.kids)))]])∧H 3=(bk 1 27 2 [[(ints t.ni),(ints t.no)]])∧H 7=(bz v 43 1 (List.map cBL (f.kids.map (rst t))))∧H 21=(bk 1 4 1 (List.map cB ((outL t f i).set i.toNat x)))∧True) ?_ ?_
   ·
    by_cases g40:((nth ((outL t f i).set i.toNat x) (((i)).toNat)))=true
    ·
     refine G_n (ebT g40 rfl) (G_n (ebT g40 rfl) (G_n (ebT g40 rfl) (G_n (ebT g40 rfl) (G_n (ebT g40 rfl) (G_n (ebT g40 rfl) (G_n (ebT g40 rfl) (R_pickT (ebT g40 rfl) rfl ?_)))))))
     exact ⟨t2,t3,t5,t6,t7,t9,t15,rfl,rfl,(borT g40),h2,h3,h7,h21,trivial⟩
    ·
     refine G_yes (ebF g40 rfl) (R_mv t7 (G_yes (ebF g40 rfl) (R_mv t15 (G_yes (ebF g40 rfl) (R_idx_ms0 (i:=q) (@rfl V (V.ms 7 v 0 (f.kids.length))) (@rfl V (iV ((q:Nat):Int))) h7 (okB_map (by (simp only [List.length_map,List.length_set,outL_len]; omega))) rfl (by omega) (G_yes (ebF g40 rfl) (R_load_mp (v:=(V.sl (List.map cB ((nth (f.kids.map (rst t)) (q)))))) rfl h7 (ldB_map (by (simp only [List.length_map,List.length_set,outL_len]; omega)) (by rfl)) ?_)))))))
     refine G_yes (ebF g40 rfl) (R_mv t9 (G_yes (ebF g40 rfl) (R_idxI (i:=(i)) (@rfl V (V.sl (List.map cB ((nth (f.kids.map (rst t)) (q)))))) (@rfl V (iV (i))) (by omega) (by omega) rfl (G_yes (ebF g40 rfl) (R_load_pp rfl rfl (R_pickF (ebF g40 rfl) rfl ?_))))))
     exact ⟨t2,t3,t5,t6,t7,t9,t15,rfl,rfl,(borF g40),h2,h3,h7,h21,trivial⟩
   intro T H ⟨t2,t3,t5,t6,t7,t9,t15,t80,t81,t94,h2,h3,h7,h21,_⟩
   refine R_idxI_ms0 (i:=(i)) t80 t81 h21 oB rfl (by omega) (by omega) (R_store (vs:=[(V.bool ((((nth ((outL t f i).set i.toNat x) (((i)).toNat)))||((nth ((nth (f.kids.map (rst t)) (q))) (i).toNat)))))]) (B':=(bk 1 4 1 (List.map cB (((outL t f i).set i.toNat x).set (((i)).toNat) ((((nth ((outL t f i).set i.toNat x) (((i)).toNat)))||((nth ((nth (f.kids.map (rst t)) (q))) (i).toNat)))))))) rfl t94 rfl h21 (stB_map (x:=((((nth ((outL t f i).set i.toNat x) (((i)).toNat)))||((nth ((nth (f.kids.map (rst t)) (q))) (i).toNat))))) (i:=(((i)).toNat)) (by (simp only [List.length_map,List.length_set,outL_len]; omega)) rfl rfl rfl rfl) (R_e (n37 _ _ (.done (W_t (R_mv t15 (R_addN rfl (@rfl V (iV ((1:Nat):Int))) (by omega) ?_)))))))
   refine R_mv rfl (R_e ?_)
   refine p135 _ _ _ ?_ ⟨(q+1),(x||nth (nth (f.kids.map (rst t)) q) i.toNat),rfl,t2,t3,t5,t6,t7,t9,(Eq.trans (@rfl V (iV ((q+1:Nat):Int))) (by rfl)),h2,h3,h7,(Eq.trans (@rfl Blk (bk 1 4 1 (List.map cB (((outL t f i).set i.toNat x).set (((i)).toNat) ((((nth ((outL t f i).set i.toNat x) (((i)).toNat)))||((nth ((nth (f.kids.map (rst t)) (q))) (i).toNat)))))))) (by (rw [List.set_set,nth_set_at (by rw [outL_len]; omega)]; done))),?_,?_⟩
   · omega
   · omega
   · first|exact aoI_and ha (by omega) (by omega)|exact aoI_or ha (by omega) (by omega)
  have hx:=aoI_end ha (by omega)
  refine W_seq_exit (p335 _ _ _ (x34 _ _ (n9 _ _ (n8 _ _ (.done (W_t (R_mv t9 ?_)))))))
  refine R_sub rfl rfl (by omega) (by omega) (R_mv rfl (R_e ?_))
  refine p16 _ _ _ ?_ ⟨(i - 1),v,rfl,t2,t3,t5,t6,t7,(Eq.trans (@rfl V (iV ((i) - (1:Int)))) (by rfl)),h2,h3,h7,(Eq.trans h21 (by (rw [outL_set2 (by omega) (by omega) hx]; done))),?_⟩
  · omega
  · omega
 refine W_seq_exit (p36 _ _ _ (x5 _ _ (.done (W_r (R_mv t6 (R_mv rfl (R_e ?_)))))))
 refine W_ret ?_
 refine Ret_1 (@rfl V (V.ms 21 1 0 (t.ni.length+1))) (fz_ms h21 (by rfl) (l:=(outL t f i)) rfl (by exact (outL_len _ _ _).symm) (fun _=>by simp) ?_)
 · rw [show i= -1 by omega,outL_end]
theorem rrests_pure (f:Fm) (t:Tr) (hf:okF f=true) (hz:f.sz≤4096) (ht:t.no.length=t.ni.length) (hn:t.ni.length≤1024):PureC Tryd.prog 20 [(V.agg [(iV (f.op)),(iV (f.arg)),(V.sl (List.map cF (f.kids)))]),(V.agg [(ints t.ni),(ints t.no)])] (V.sl (List.map cB ((rst t f)))):=by
  have key: ∀ (mm:Nat) (f:Fm) (t:Tr),f.sz < mm→okF f=true→f.sz≤4096→t.no.length=t.ni.length→t.ni.length≤1024→PureC Tryd.prog 20 [(V.agg [(iV (f.op)),(iV (f.arg)),(V.sl (List.map cF (f.kids)))]),(V.agg [(ints t.ni),(ints t.no)])] (V.sl (List.map cB ((rst t f)))):=by
    intro mm
    induction mm with
    |zero=>intro f t hlt; exact absurd hlt (Nat.not_lt_zero _)
    | succ mm ih =>
      intro f t hlt hf hz ht hn
      exact rrests_pure_step f t hf hz ht hn fun f2 t2 hlt2=>ih f2 t2 (by omega)
  exact key (f.sz+1) f t (Nat.lt_succ_self _) hf hz ht hn
end Go.Proofs.YteehaobohaecmaaDoor
namespace Go.Proofs.YteehaobohaecmaaDoor
open Go Go.Proofs
theorem rholds_pure (f:Fm) (t:Tr):PureC Tryd.prog 8 [(V.agg [(iV (f.op)),(iV (f.arg)),(V.sl (List.map cF (f.kids)))]),(V.agg [(ints t.ni),(ints t.no)])] (V.tup [(V.bool (hoB t f)),(iV (hoE t f))]):=by
 refine pW Tryd.func8 s8_ok fun hB=>?_
 unfold s8
 dsimp only
 refine W_r (R_box (i:=2) (n:=0) (m:=3) (cs:=[(iV (f.op)),(iV (f.arg)),(V.sl (List.map cF (f.kids)))]) rfl (congrArg Blk.ver rfl) rfl rfl rfl (R_box (i:=3) (n:=0) (m:=2) (cs:=[(ints t.ni),(ints t.no)]) rfl (congrArg Blk.ver rfl) rfl rfl rfl (R_mv rfl (R_mv rfl (R_e (W_seq_blockg fun Q1 n1 x1 y1 z1=>(W_r ?_)))))))
 refine R_lk rfl rfl rfl rfl (R_callk (rfvalid_pure f) rfl (R_neq rfl rfl (R_mv rfl (R_e ?_))))
 refine W_if rfl (fun c2=>?_) fun c2=>?_
 ·
  have h0:hoE t f=fval f:=if_pos c2
  have hb0:hoB t f=false:=by unfold hoB; rw [h0,decide_eq_false (by omega)]; rfl
  refine W_r (R_lk rfl rfl rfl rfl (R_callk (rfvalid_pure f) rfl (R_mv rfl (R_mv rfl (R_e (W_ret (y1 _ _ ?_)))))))
  refine Ret_2 (@rfl V (V.bool false)) (@rfl V (iV (fval f))) (fz_bool ?_) (fz_int ?_)
  · rw [hb0]
  · omega
 have h1:fval f=0:=by omega
 refine W_r (R_fk rfl rfl (R_lk rfl rfl rfl rfl (R_len rfl (R_gtr rfl rfl (R_mv rfl (R_e ?_))))))
 refine W_if rfl (fun c3=>?_) fun c3=>?_
 ·
  have h0:hoE t f=3:=by unfold hoE; rw [if_neg (by omega),if_pos (by omega)]
  have hb0:hoB t f=false:=by unfold hoB; rw [h0]; rfl
  refine W_r (R_mv rfl (R_mv rfl (R_e (W_ret (y1 _ _ ?_)))))
  refine Ret_2 (@rfl V (V.bool false)) (@rfl V (iV (3:Int))) (fz_bool ?_) (fz_int ?_)
  · rw [hb0]
  · omega
 refine W_r (R_fk rfl rfl (R_lk rfl rfl rfl rfl (R_len rfl (R_fk rfl rfl (R_lk rfl rfl rfl rfl (R_len rfl (R_neq rfl rfl ?_)))))))
 refine R_mv rfl (R_e ?_)
 refine W_if rfl (fun c4=>?_) fun c4=>?_
 ·
  have h0:hoE t f=1:=by unfold hoE; rw [if_neg (by omega),if_neg (by omega),if_pos (by omega)]
  have hb0:hoB t f=false:=by unfold hoB; rw [h0]; rfl
  refine W_r (R_mv rfl (R_mv rfl (R_e (W_ret (y1 _ _ ?_)))))
  refine Ret_2 (@rfl V (V.bool false)) (@rfl V (iV (1:Int))) (fz_bool ?_) (fz_int ?_)
  · rw [hb0]
  · omega
 have h0:hoE t f=0:=by unfold hoE; rw [if_neg (by omega),if_neg (by omega),if_neg (by omega)]
 have hb0:hoB t f=nth (rst t f) 0:=by unfold hoB; rw [h0,rst_nth (Nat.zero_le _)]; rfl
 have hrl:=rst_len t f
 refine W_skip (n1 _ _ (.done (W_r (R_lk rfl rfl rfl rfl (R_lk rfl rfl rfl rfl (R_callk (rrests_pure f t (fval_ok h1) (fval_sz h1) (by omega) (by omega)) rfl (R_idx (i:=0) (@rfl V (V.sl (List.map cB ((rst t f))))) (@rfl V (iV ((0:Nat):Int))) (by omega) rfl ?_)))))))
 refine R_load_pp rfl rfl (R_mv rfl (R_mv rfl (R_e (W_ret ?_))))
 refine Ret_2 (@rfl V (V.bool ((nth ((rst t f)) (0))))) (@rfl V (iV (0:Int))) (fz_bool ?_) (fz_int ?_)
 · rw [hb0]
 · omega
theorem law3_pure (f:Fm) (t:Tr):PureC Tryd.prog 3 [(V.agg [(iV (f.op)),(iV (f.arg)),(V.sl (List.map cF (f.kids)))]),(V.agg [(ints t.ni),(ints t.no)])] (V.bool true):=by
 refine pW Tryd.func3 s3_ok fun hB=>?_
 unfold s3
 dsimp only
 refine W_r (R_box (i:=2) (n:=0) (m:=3) (cs:=[(iV (f.op)),(iV (f.arg)),(V.sl (List.map cF (f.kids)))]) rfl (congrArg Blk.ver rfl) rfl rfl rfl (R_box (i:=3) (n:=0) (m:=2) (cs:=[(ints t.ni),(ints t.no)]) rfl (congrArg Blk.ver rfl) rfl rfl rfl (R_mv rfl (R_e (W_seq_seq (W_r (R_lk rfl rfl rfl rfl ?_)))))))
 refine R_lk rfl rfl rfl rfl (R_callk (proper46_pure f t) rfl (R_notb rfl (R_e ?_)))
 refine W_seq_ifb rfl (fun c1=>?_) (fun c1=>?_)
 ·
  refine W_seq_seq (W_r (R_callk (aw46_pure) rfl (R_mv rfl (R_e (W_seq_ret ?_)))))
  refine Ret_1 (@rfl V (V.bool true)) (fz_canon (by simp) rfl)
 have hp:=prp_facts (f:=f) (t:=t) (by simpa using c1)
 have hle:=hp.e
 refine W_seq_skip (W_r (R_lk rfl rfl rfl rfl (R_lk rfl rfl rfl rfl (R_callk (rholds_pure f t) rfl (R_mv rfl (R_ext rfl rfl (R_ext rfl rfl ?_)))))))
 refine R_mv rfl (R_mv rfl (R_e (W_r (R_lk rfl rfl rfl rfl (R_callk (simplify_pure f) rfl (R_mv rfl (R_ext rfl rfl ?_)))))))
 refine R_ext rfl rfl (R_alloc (i:=7) (n:=0) (m:=3) rfl (congrArg Blk.ver rfl) rfl (R_sk rfl rfl rfl rfl rfl rfl rfl rfl rfl (R_mv rfl (R_e (W_seq_seq (W_r (R_mv rfl ?_)))))))
 refine R_neq rfl rfl (R_e ?_)
 refine W_seq_if rfl (fun c2=>?_) fun c2=>?_
 ·
  have s1:=rt_bad hp c2
  refine W_seq_seq (W_r (R_mv rfl (R_eql rfl rfl (R_mv rfl ?_))))
  refine Ops_seg 4 (fun T H=>T 42=(V.bool ((decide (((simp_ f).2)=(11:Int))&&(sameF ((simp_ f).1) (⟨((0:Int)),((0:Int)),([])⟩:Fm)))))∧H 2=(bk 1 24 3 [[(iV (f.op)),(iV (f.arg)),(V.sl (List.map cF (f.kids)))]])∧H 3=(bk 1 27 2 [[(ints t.ni),(ints t.no)]])∧H 7=(bk 1 24 3 [[(iV ((simp_ f).1.op)),(iV ((simp_ f).1.arg)),(V.sl (List.map cF ((simp_ f).1.kids)))]])∧H 9=(⟨0,false,false,0,0,[]⟩:Blk)∧H 14=(⟨0,false,false,0,0,[]⟩:Blk)∧True) ?_ ?_
  ·
   by_cases g3:((simp_ f).2)=(11:Int)
   ·
    refine G_yes (edT g3 rfl) (R_lk rfl rfl rfl rfl (G_yes (edT g3 rfl) (R_build rfl rfl (G_yes (edT g3 rfl) (R_call (evcons (@rfl V (V.agg [(iV ((simp_ f).1.op)),(iV ((simp_ f).1.arg)),(V.sl (List.map cF ((simp_ f).1.kids)))])) (evcons (@rfl V (V.agg [(iV (0:Int)),(iV (0:Int)),V.nilsl])) evnil)) (rsame_pure ((simp_ f).1) (⟨((0:Int)),((0:Int)),([])⟩:Fm)) (mcons (fzv_canon 6 _ (by simp [-List.map_take,-List.map_drop,-List.map_append,-List.map_reverse])) (mcons (by rfl) rfl)) (by simp [-List.map_take,-List.map_drop,-List.map_append,-List.map_reverse]) (Or.inl (by simp [-List.map_take,-List.map_drop,-List.map_append,-List.map_reverse])) (R_pickT (edT g3 rfl) rfl ?_))))))
    exact ⟨(dbandT g3),rfl,rfl,rfl,rfl,rfl,trivial⟩
   ·
    refine G_n (edF g3 rfl) (G_n (edF g3 rfl) (G_n (edF g3 rfl) (R_pickF (edF g3 rfl) rfl ?_)))
    exact ⟨(dbandF g3),rfl,rfl,rfl,rfl,rfl,trivial⟩
  intro T H ⟨t42,h2,h3,h7,h9,h14,_⟩
  refine R_mv t42 ?_
  refine Ops_seg 2 (fun T H=>T 45=(V.bool ((((decide (((simp_ f).2)=(11:Int))&&(sameF ((simp_ f).1) (⟨((0:Int)),((0:Int)),([])⟩:Fm))))||false)))∧H 2=(bk 1 24 3 [[(iV (f.op)),(iV (f.arg)),(V.sl (List.map cF (f.kids)))]])∧H 3=(bk 1 27 2 [[(ints t.ni),(ints t.no)]])∧H 7=(bk 1 24 3 [[(iV ((simp_ f).1.op)),(iV ((simp_ f).1.arg)),(V.sl (List.map cF ((simp_ f).1.kids)))]])∧H 9=(⟨0,false,false,0,0,[]⟩:Blk)∧H 14=(⟨0,false,false,0,0,[]⟩:Blk)∧True) ?_ ?_
  ·
   by_cases g4:((decide (((simp_ f).2)=(11:Int))&&(sameF ((simp_ f).1) (⟨((0:Int)),((0:Int)),([])⟩:Fm))))=true
   ·
    have g4x:=g4
    simp only [Bool.and_eq_true,Bool.or_eq_true,Bool.not_eq_true',decide_eq_true_eq] at g4x
    refine G_yes (ebT g4 rfl) (R_callk (aw46_pure) rfl (R_pickT (ebT g4 rfl) rfl ?_))
    exact ⟨(borT g4),h2,h3,h7,h9,h14,trivial⟩
   ·
    have g4x:=g4
    simp only [Bool.and_eq_true,Bool.or_eq_true,Bool.not_eq_true',decide_eq_true_eq] at g4x
    refine G_n (ebF g4 rfl) (R_pickF (ebF g4 rfl) rfl ?_)
    exact ⟨(borF g4),h2,h3,h7,h9,h14,trivial⟩
  intro T H ⟨t45,h2,h3,h7,h9,h14,_⟩
  refine R_mv t45 (R_e (W_seq_ret ?_))
  refine Ret_1 (@rfl V (V.bool ((((decide (((simp_ f).2)=(11:Int))&&(sameF ((simp_ f).1) (⟨((0:Int)),((0:Int)),([])⟩:Fm))))||false)))) (fz_bool ?_)
  · simp [s1]; exact sameF_self _
 have s1:=rt_good hp c2
 refine W_seq_skip (W_r (R_lk rfl rfl rfl rfl (R_callk (simplify_pure ((simp_ f).1)) rfl (R_mv rfl (R_ext rfl rfl (R_ext rfl rfl (R_alloc (i:=9) (n:=0) (m:=3) rfl (congrArg Blk.ver rfl) rfl ?_)))))))
 refine R_sk rfl rfl rfl rfl rfl rfl rfl rfl rfl (R_mv rfl (R_e ?_))
 refine W_seq_regc (fun T H=>T 3=(V.mp 3 1 0 0)∧T 5=(V.bool (hoB t f))∧T 7=(V.mp 7 1 0 0)∧T 9=(V.mp 9 1 0 0)∧T 10=(iV ((simp_ ((simp_ f).1)).2))∧T 11=(V.bool (hoB t ((simp_ f).1)))∧T 12=(iV (hoE t ((simp_ f).1)))∧H 2=(bk 1 24 3 [[(iV (f.op)),(iV (f.arg)),(V.sl (List.map cF (f.kids)))]])∧H 3=(bk 1 27 2 [[(ints t.ni),(ints t.no)]])∧H 7=(bk 1 24 3 [[(iV ((simp_ f).1.op)),(iV ((simp_ f).1.arg)),(V.sl (List.map cF ((simp_ f).1.kids)))]])∧H 9=(bk 1 24 3 [[(iV ((simp_ ((simp_ f).1)).1.op)),(iV ((simp_ ((simp_ f).1)).1.arg)),(V.sl (List.map cF ((simp_ ((simp_ f).1)).1.kids)))]])∧H 14=(⟨0,false,false,0,0,[]⟩:Blk)∧True) ?_ ?_
 ·
  refine R_lk rfl rfl rfl rfl (R_lk rfl rfl rfl rfl (R_callk (rholds_pure ((simp_ f).1) t) rfl (R_mv rfl (R_ext rfl rfl (R_ext rfl rfl (R_mv rfl (R_mv rfl ?_)))))))
  exact R_nil ⟨rfl,rfl,rfl,rfl,rfl,rfl,rfl,rfl,rfl,rfl,rfl,rfl,trivial⟩
 intro T H ⟨t3,t5,t7,t9,t10,t11,t12,h2,h3,h7,h9,h14,_⟩
 refine W_seq_seq (W_r (R_lk t9 h9 rfl rfl (R_lk t7 h7 rfl rfl (R_callk (rsame_pure ((simp_ ((simp_ f).1)).1) ((simp_ f).1)) rfl (R_notb rfl (R_mv rfl ?_))))))
 refine Ops_seg 3 (fun T H=>T 3=(V.mp 3 1 0 0)∧T 5=(V.bool (hoB t f))∧T 7=(V.mp 7 1 0 0)∧T 11=(V.bool (hoB t ((simp_ f).1)))∧T 12=(iV (hoE t ((simp_ f).1)))∧T 64=(V.bool ((((!sameF ((simp_ ((simp_ f).1)).1) ((simp_ f).1)))||decide (((simp_ ((simp_ f).1)).2)≠(0:Int)))))∧H 2=(bk 1 24 3 [[(iV (f.op)),(iV (f.arg)),(V.sl (List.map cF (f.kids)))]])∧H 3=(bk 1 27 2 [[(ints t.ni),(ints t.no)]])∧H 7=(bk 1 24 3 [[(iV ((simp_ f).1.op)),(iV ((simp_ f).1.arg)),(V.sl (List.map cF ((simp_ f).1.kids)))]])∧H 9=(bk 1 24 3 [[(iV ((simp_ ((simp_ f).1)).1.op)),(iV ((simp_ ((simp_ f).1)).1.arg)),(V.sl (List.map cF ((simp_ ((simp_ f).1)).1.kids)))]])∧H 14=(⟨0,false,false,0,0,[]⟩:Blk)∧True) ?_ ?_
 ·
  by_cases g5:((!sameF ((simp_ ((simp_ f).1)).1) ((simp_ f).1)))=true
  ·
   refine G_n (ebT g5 rfl) (G_n (ebT g5 rfl) (R_pickT (ebT g5 rfl) rfl ?_))
   exact ⟨t3,t5,t7,t11,t12,(borT g5),h2,h3,h7,h9,h14,trivial⟩
  ·
   refine G_yes (ebF g5 rfl) (R_mv t10 (G_yes (ebF g5 rfl) (R_neq rfl rfl (R_pickF (ebF g5 rfl) rfl ?_))))
   exact ⟨t3,t5,t7,t11,t12,(borF g5),h2,h3,h7,h9,h14,trivial⟩
 intro T H ⟨t3,t5,t7,t11,t12,t64,h2,h3,h7,h9,h14,_⟩
 refine R_mv t64 ?_
 refine Ops_seg 4 (fun T H=>T 3=(V.mp 3 1 0 0)∧T 5=(V.bool (hoB t f))∧T 7=(V.mp 7 1 0 0)∧T 12=(iV (hoE t ((simp_ f).1)))∧T 69=(V.bool ((((((!sameF ((simp_ ((simp_ f).1)).1) ((simp_ f).1)))||decide (((simp_ ((simp_ f).1)).2)≠(0:Int))))||(((hoB t ((simp_ f).1)) != (hoB t f))))))∧H 2=(bk 1 24 3 [[(iV (f.op)),(iV (f.arg)),(V.sl (List.map cF (f.kids)))]])∧H 3=(bk 1 27 2 [[(ints t.ni),(ints t.no)]])∧H 7=(bk 1 24 3 [[(iV ((simp_ f).1.op)),(iV ((simp_ f).1.arg)),(V.sl (List.map cF ((simp_ f).1.kids)))]])∧H 9=(bk 1 24 3 [[(iV ((simp_ ((simp_ f).1)).1.op)),(iV ((simp_ ((simp_ f).1)).1.arg)),(V.sl (List.map cF ((simp_ ((simp_ f).1)).1.kids)))]])∧H 14=(⟨0,false,false,0,0,[]⟩:Blk)∧True) ?_ ?_
 ·
  by_cases g6:((((!sameF ((simp_ ((simp_ f).1)).1) ((simp_ f).1)))||decide (((simp_ ((simp_ f).1)).2)≠(0:Int))))=true
  ·
   have g6x:=g6
   simp only [Bool.and_eq_true,Bool.or_eq_true,Bool.not_eq_true',decide_eq_true_eq] at g6x
   refine G_n (ebT g6 rfl) (G_n (ebT g6 rfl) (G_n (ebT g6 rfl) (R_pickT (ebT g6 rfl) rfl ?_)))
   exact ⟨t3,t5,t7,t12,(borT g6),h2,h3,h7,h9,h14,trivial⟩
  ·
   have g6x:=g6
   simp only [Bool.and_eq_true,Bool.or_eq_true,Bool.not_eq_true',decide_eq_true_eq] at g6x
   refine G_yes (ebF g6 rfl) (R_mv t11 (G_yes (ebF g6 rfl) (R_mv t5 (G_yes (ebF g6 rfl) (R_bneq (x:=(hoB t ((simp_ f).1))) (y:=(hoB t f)) rfl rfl (R_pickF (ebF g6 rfl) rfl ?_))))))
   exact ⟨t3,t5,t7,t12,(borF g6),h2,h3,h7,h9,h14,trivial⟩
 intro T H ⟨t3,t5,t7,t12,t69,h2,h3,h7,h9,h14,_⟩
 refine R_mv t69 ?_
 refine Ops_seg 3 (fun T H=>T 3=(V.mp 3 1 0 0)∧T 5=(V.bool (hoB t f))∧T 7=(V.mp 7 1 0 0)∧T 73=(V.bool ((((((((!sameF ((simp_ ((simp_ f).1)).1) ((simp_ f).1)))||decide (((simp_ ((simp_ f).1)).2)≠(0:Int))))||(((hoB t ((simp_ f).1)) != (hoB t f)))))||decide ((hoE t ((simp_ f).1))≠(0:Int)))))∧H 2=(bk 1 24 3 [[(iV (f.op)),(iV (f.arg)),(V.sl (List.map cF (f.kids)))]])∧H 3=(bk 1 27 2 [[(ints t.ni),(ints t.no)]])∧H 7=(bk 1 24 3 [[(iV ((simp_ f).1.op)),(iV ((simp_ f).1.arg)),(V.sl (List.map cF ((simp_ f).1.kids)))]])∧H 9=(bk 1 24 3 [[(iV ((simp_ ((simp_ f).1)).1.op)),(iV ((simp_ ((simp_ f).1)).1.arg)),(V.sl (List.map cF ((simp_ ((simp_ f).1)).1.kids)))]])∧H 14=(⟨0,false,false,0,0,[]⟩:Blk)∧True) ?_ ?_
 ·
  by_cases g7:((((((!sameF ((simp_ ((simp_ f).1)).1) ((simp_ f).1)))||decide (((simp_ ((simp_ f).1)).2)≠(0:Int))))||(((hoB t ((simp_ f).1)) != (hoB t f)))))=true
  ·
   have g7x:=g7
   simp only [Bool.and_eq_true,Bool.or_eq_true,Bool.not_eq_true',decide_eq_true_eq] at g7x
   refine G_n (ebT g7 rfl) (G_n (ebT g7 rfl) (R_pickT (ebT g7 rfl) rfl ?_))
   exact ⟨t3,t5,t7,(borT g7),h2,h3,h7,h9,h14,trivial⟩
  ·
   have g7x:=g7
   simp only [Bool.and_eq_true,Bool.or_eq_true,Bool.not_eq_true',decide_eq_true_eq] at g7x
   refine G_yes (ebF g7 rfl) (R_mv t12 (G_yes (ebF g7 rfl) (R_neq rfl rfl (R_pickF (ebF g7 rfl) rfl ?_))))
   exact ⟨t3,t5,t7,(borF g7),h2,h3,h7,h9,h14,trivial⟩
 intro T H ⟨t3,t5,t7,t73,h2,h3,h7,h9,h14,_⟩
 refine R_e ?_
 refine W_seq_ifb t73 (fun c8=>?_) (fun c8=>?_)
 · exfalso; have q:=c8; simp [s1.a,s1.hb,s1.he,sameF_self] at q
 refine W_seq_skip (W_seq_seq (W_r (R_mv rfl (R_e (W_seq_blockg fun Q9 n9 x9 y9 z9=>?_)))))
 refine W_loop (fun mm T H=> ∃ (k:Nat) (g:Fm) (v14:Nat),mm=t.ni.length - k∧T 3=(V.mp 3 1 0 0)∧T 5=(V.bool (hoB t f))∧T 7=(V.mp 7 1 0 0)∧T 13=(iV ((k:Nat):Int))∧H 2=(bk 1 24 3 [[(iV (f.op)),(iV (f.arg)),(V.sl (List.map cF (f.kids)))]])∧H 3=(bk 1 27 2 [[(ints t.ni),(ints t.no)]])∧H 7=(bk 1 24 3 [[(iV (g.op)),(iV (g.arg)),(V.sl (List.map cF (g.kids)))]])∧H 9=(bk 1 24 3 [[(iV ((simp_ ((simp_ f).1)).1.op)),(iV ((simp_ ((simp_ f).1)).1.arg)),(V.sl (List.map cF ((simp_ ((simp_ f).1)).1.kids)))]])∧((H 14).ver=v14∧(H 14).live=false)∧(k≤t.ni.length)∧(Run 31 g)∧(sat t g k=sat t f 0)) ?_ ?_
 ·
  refine ⟨_,0,(simp_ f).1,0,rfl,t3,t5,t7,(Eq.trans (@rfl V (iV (0:Int))) rfl),h2,h3,(Eq.trans h7 (by rfl)),h9,⟨(congrArg Blk.ver h14),congrArg Blk.live h14⟩,?_,?_,?_⟩
  · omega
  · exact s1.r
  · exact s1.s 0
 intro mm T H ⟨k,g,v14,hmm,t3,t5,t7,t13,h2,h3,h7,h9,h14,hk,hr,hs⟩ Q10 p110 p210 p310
 unfold b3_0
 refine W_seq_seq (W_r (R_mv t13 (R_fk t3 h3 (R_lk rfl h3 rfl rfl (R_len rfl (R_lss rfl rfl (R_e ?_)))))))
 refine W_seq_if rfl (fun c11=>?_) fun c11=>?_
 ·
  refine W_seq_skip (W_seq_blockg fun Q12 n12 x12 y12 z12=>(W_d (by exact (lateC (h14).2 lateN)) (R_lk t7 h7 rfl rfl (R_fk t3 h3 (R_lk rfl h3 rfl rfl (R_mv t13 (R_idx (i:=k) (@rfl V (ints t.ni)) (@rfl V (iV ((k:Nat):Int))) (by omega) rfl ?_)))))))
  refine R_load_pp rfl rfl (R_fk t3 h3 (R_lk rfl h3 rfl rfl (R_mv t13 (R_idx (i:=k) (@rfl V (ints t.no)) (@rfl V (iV ((k:Nat):Int))) (by omega) rfl (R_load_pp rfl rfl (R_callk (mstep_pure g (((nth (t.ni) (k)))) (((nth (t.no) (k))))) rfl (R_mv rfl ?_)))))))
  refine R_ext rfl rfl (R_ext rfl rfl (R_alloc (i:=14) (n:=v14) (m:=3) rfl (h14).1 rfl (R_sk rfl rfl rfl rfl rfl rfl rfl rfl rfl (R_mv rfl (R_e (W_seq_seq (W_r ?_)))))))
  refine R_mv rfl (R_neq rfl rfl (R_e ?_))
  refine W_seq_if rfl (fun c13=>?_) fun c13=>?_
  ·
   have s2:=rt_stop hp hr (by omega) c13
   refine W_seq_seq (W_r (R_mv rfl (R_eql rfl rfl (R_mv rfl ?_))))
   refine Ops_seg 2 (fun T H=>T 102=(V.bool (decide (((stM g (((nth (t.ni) (k)))) (((nth (t.no) (k))))).2)=(11:Int))))∧H 2=(bk 1 24 3 [[(iV (f.op)),(iV (f.arg)),(V.sl (List.map cF (f.kids)))]])∧H 3=(bk 1 27 2 [[(ints t.ni),(ints t.no)]])∧H 7=(bk 1 24 3 [[(iV (g.op)),(iV (g.arg)),(V.sl (List.map cF (g.kids)))]])∧H 9=(bk 1 24 3 [[(iV ((simp_ ((simp_ f).1)).1.op)),(iV ((simp_ ((simp_ f).1)).1.arg)),(V.sl (List.map cF ((simp_ ((simp_ f).1)).1.kids)))]])∧H 14=(bk (v14+1) 24 3 [[(iV ((stM g (((nth (t.ni) (k)))) (((nth (t.no) (k))))).1.op)),(iV ((stM g (((nth (t.ni) (k)))) (((nth (t.no) (k))))).1.arg)),(V.sl (List.map cF ((stM g (((nth (t.ni) (k)))) (((nth (t.no) (k))))).1.kids)))]])∧True) ?_ ?_
   ·
    by_cases g14:((stM g (((nth (t.ni) (k)))) (((nth (t.no) (k))))).2)=(11:Int)
    ·
     refine G_yes (edT g14 rfl) (R_callk (aw46_pure) rfl (R_pickT (edT g14 rfl) rfl ?_))
     exact ⟨(dec_T g14),h2,h3,h7,h9,rfl,trivial⟩
    ·
     refine G_n (edF g14 rfl) (R_pickF (edF g14 rfl) rfl ?_)
     exact ⟨(dec_F g14),h2,h3,h7,h9,rfl,trivial⟩
   intro T H ⟨t102,h2,h3,h7,h9,h14,_⟩
   refine R_mv t102 (R_e (W_seq_ret (y12 _ _ (p210 _ _ (y9 _ _ ?_)))))
   refine Ret_1 (@rfl V (V.bool (decide (((stM g (((nth (t.ni) (k)))) (((nth (t.no) (k))))).2)=(11:Int))))) (fz_bool ?_)
   · simp [s2]
  have s2:=rt_go hp hr hs (by omega) c13
  refine W_seq_skip (W_t (R_lk rfl rfl rfl rfl (R_sk t7 rfl rfl h7 rfl rfl rfl rfl rfl (R_e (n12 _ _ (fork_ (R:=fun T H=>T 3=(V.mp 3 1 0 0)∧T 5=(V.bool (hoB t f))∧T 7=(V.mp 7 1 0 0)∧T 13=(iV ((k:Nat):Int))∧H 2=(bk 1 24 3 [[(iV (f.op)),(iV (f.arg)),(V.sl (List.map cF (f.kids)))]])∧H 3=(bk 1 27 2 [[(ints t.ni),(ints t.no)]])∧H 7=(bk 1 24 3 [[(iV ((stM g (((nth (t.ni) (k)))) (((nth (t.no) (k))))).1.op)),(iV ((stM g (((nth (t.ni) (k)))) (((nth (t.no) (k))))).1.arg)),(V.sl (List.map cF ((stM g (((nth (t.ni) (k)))) (((nth (t.no) (k))))).1.kids)))]])∧H 9=(bk 1 24 3 [[(iV ((simp_ ((simp_ f).1)).1.op)),(iV ((simp_ ((simp_ f).1)).1.arg)),(V.sl (List.map cF ((simp_ ((simp_ f).1)).1.kids)))]])∧H 14=(bk (v14+1) 24 3 [[(iV ((stM g (((nth (t.ni) (k)))) (((nth (t.no) (k))))).1.op)),(iV ((stM g (((nth (t.ni) (k)))) (((nth (t.no) (k))))).1.arg)),(V.sl (List.map cF ((stM g (((nth (t.ni) (k)))) (((nth (t.no) (k))))).1.kids)))]])∧True) ⟨t3,t5,t7,t13,h2,h3,rfl,h9,rfl,trivial⟩ ?_))))))
  intro T H ⟨t3,t5,t7,t13,h2,h3,h7,h9,h14,_⟩
  refine .freeze 14 (.done ?_)
  refine fork_ (R:=fun T H=>T 3=(V.mp 3 1 0 0)∧T 5=(V.bool (hoB t f))∧T 7=(V.mp 7 1 0 0)∧T 13=(iV ((k:Nat):Int))∧H 2=(bk 1 24 3 [[(iV (f.op)),(iV (f.arg)),(V.sl (List.map cF (f.kids)))]])∧H 3=(bk 1 27 2 [[(ints t.ni),(ints t.no)]])∧H 7=(bk 1 24 3 [[(iV ((stM g (((nth (t.ni) (k)))) (((nth (t.no) (k))))).1.op)),(iV ((stM g (((nth (t.ni) (k)))) (((nth (t.no) (k))))).1.arg)),(V.sl (List.map cF ((stM g (((nth (t.ni) (k)))) (((nth (t.no) (k))))).1.kids)))]])∧H 9=(bk 1 24 3 [[(iV ((simp_ ((simp_ f).1)).1.op)),(iV ((simp_ ((simp_ f).1)).1.arg)),(V.sl (List.map cF ((simp_ ((simp_ f).1)).1.kids)))]])∧((H 14).ver=v14+1∧(H 14).live=false)∧True) ⟨(fzT_q t3 rfl),(fzT_q t5 rfl),(fzT_q t7 rfl),(fzT_q t13 rfl),(kill_ne h2 (by decide)),(kill_ne h3 (by decide)),(kill_ne h7 (by decide)),(kill_ne h9 (by decide)),(kill_self (congrArg Blk.ver h14)),trivial⟩ ?_
  intro T H ⟨t3,t5,t7,t13,h2,h3,h7,h9,h14,_⟩
  refine W_t (R_mv t13 (R_addN rfl (@rfl V (iV ((1:Nat):Int))) (by omega) (R_mv rfl (R_e ?_))))
  refine p110 _ _ _ ?_ ⟨(k+1),(stM g (nth t.ni k) (nth t.no k)).1,(v14+1),rfl,t3,t5,t7,(Eq.trans (@rfl V (iV ((k+1:Nat):Int))) (by rfl)),h2,h3,(Eq.trans h7 (by rfl)),h9,h14,?_,?_,?_⟩
  · omega
  · omega
  · exact s2.1
  · exact s2.2
 refine W_seq_exit (p310 _ _ _ (x9 _ _ (.done (W_r (R_lk t7 h7 rfl rfl (R_callk (mends_pure g) rfl (R_mv rfl ?_)))))))
 refine R_ext rfl rfl (R_ext rfl rfl (R_mv rfl (R_mv rfl (R_e (W_r (R_mv rfl (R_mv t5 ?_)))))))
 refine R_beql (x:=(hoB t0 g)) (y:=(hoB t f)) rfl rfl (R_mv rfl ?_)
 refine Ops_seg 3 (fun T H=>T 115=(V.bool (((((hoB t0 g)==(hoB t f)))&&decide ((hoE t0 g)=(0:Int)))))∧H 2=(bk 1 24 3 [[(iV (f.op)),(iV (f.arg)),(V.sl (List.map cF (f.kids)))]])∧H 3=(bk 1 27 2 [[(ints t.ni),(ints t.no)]])∧H 7=(bk 1 24 3 [[(iV (g.op)),(iV (g.arg)),(V.sl (List.map cF (g.kids)))]])∧H 9=(bk 1 24 3 [[(iV ((simp_ ((simp_ f).1)).1.op)),(iV ((simp_ ((simp_ f).1)).1.arg)),(V.sl (List.map cF ((simp_ ((simp_ f).1)).1.kids)))]])∧((H 14).ver=v14∧(H 14).live=false)∧True) ?_ ?_
 ·
  by_cases g15:(((hoB t0 g)==(hoB t f)))=true
  ·
   refine G_yes (ebT g15 rfl) (R_mv rfl (G_yes (ebT g15 rfl) (R_eql rfl rfl (R_pickT (ebT g15 rfl) rfl ?_))))
   exact ⟨(bandT g15),h2,h3,h7,h9,h14,trivial⟩
  ·
   refine G_n (ebF g15 rfl) (G_n (ebF g15 rfl) (R_pickF (ebF g15 rfl) rfl ?_))
   exact ⟨(bandF g15),h2,h3,h7,h9,h14,trivial⟩
 intro T H ⟨t115,h2,h3,h7,h9,h14,_⟩
 refine R_mv t115 ?_
 refine Ops_seg 2 (fun T H=>T 118=(V.bool (((((((hoB t0 g)==(hoB t f)))&&decide ((hoE t0 g)=(0:Int))))||false)))∧H 2=(bk 1 24 3 [[(iV (f.op)),(iV (f.arg)),(V.sl (List.map cF (f.kids)))]])∧H 3=(bk 1 27 2 [[(ints t.ni),(ints t.no)]])∧H 7=(bk 1 24 3 [[(iV (g.op)),(iV (g.arg)),(V.sl (List.map cF (g.kids)))]])∧H 9=(bk 1 24 3 [[(iV ((simp_ ((simp_ f).1)).1.op)),(iV ((simp_ ((simp_ f).1)).1.arg)),(V.sl (List.map cF ((simp_ ((simp_ f).1)).1.kids)))]])∧((H 14).ver=v14∧(H 14).live=false)∧True) ?_ ?_
 ·
  by_cases g16:(((((hoB t0 g)==(hoB t f)))&&decide ((hoE t0 g)=(0:Int))))=true
  ·
   have g16x:=g16
   simp only [Bool.and_eq_true,Bool.or_eq_true,Bool.not_eq_true',decide_eq_true_eq] at g16x
   refine G_yes (ebT g16 rfl) (R_callk (aw46_pure) rfl (R_pickT (ebT g16 rfl) rfl ?_))
   exact ⟨(borT g16),h2,h3,h7,h9,h14,trivial⟩
  ·
   have g16x:=g16
   simp only [Bool.and_eq_true,Bool.or_eq_true,Bool.not_eq_true',decide_eq_true_eq] at g16x
   refine G_n (ebF g16 rfl) (R_pickF (ebF g16 rfl) rfl ?_)
   exact ⟨(borF g16),h2,h3,h7,h9,h14,trivial⟩
 intro T H ⟨t118,h2,h3,h7,h9,h14,_⟩
 refine R_mv t118 (R_e (W_ret ?_))
 refine Ret_1 (@rfl V (V.bool (((((((hoB t0 g)==(hoB t f)))&&decide ((hoE t0 g)=(0:Int))))||false)))) (fz_bool ?_)
 · obtain ⟨e1,e2⟩:=rt_end hp hr (by rw [show k=t.ni.length by omega] at hs; exact hs)
   rw [e1,e2]; simp
end Go.Proofs.YteehaobohaecmaaDoor
namespace Go.Proofs.YteehaobohaecmaaDoor
open Go Go.ChangeShapes Go.WideShapes Go.ChangeAt Go.RowKit
def okS (P:Program) (S:List TypeId) (t:TypeId):Bool:=match P.underlying t with
  |some .bool=>true
  |some (.int _)=>true
  |some .string=>true
  |some (.slice e)=>decide (e∈S)&&decide (P.cellsOf e≠0)
  |some (.struct fs)=>fs.toList.all (fun f=>decide (f.type∈S))&&tile P (P.cellsOf t) 0 fs.toList
  |some (.array m e)=>decide (e∈S)&&decide (m*P.cellsOf e=P.cellsOf t)
  |_=>false
section
variable {H:Type} {enc:TypeId×Value→H} {P:Program} {base:Nat} {spare:Nat→Bool} {held:Bool}
theorem trod_RS {x : Cx} (hZ : ∀ b, b < x.w.heap.size → x.Z b) {S : List TypeId} (hS : ∀ t ∈ S, okS P S t = true) : ∀ (fuel : Nat) (t : TypeId), t ∈ S → ∀ (cs : List Value) (y : DataW H × List MemPlace), DataW.trod enc P x.w base spare held fuel t cs = some y →
    ∃ vs,Shp P fuel t vs∧RC x vs cs:=by
  intro n
  induction n with
  |zero=>intro t _ cs y hy; simp [DataW.trod] at hy
  | succ n ih =>
    intro t hm cs y hy
    have hok:=hS t hm
    have one: ∀ {v:V} {c:Value},R x v c→RC x [v] [c]:=fun {v c} h=>⟨rfl,fun j u hj=>by
      cases j with
      |zero=>simp at hj; subst hj; exact h
      |succ j=>simp at hj⟩
    simp only [okS] at hok
    split at hok
    · rename_i ht
      simp only [Shp,ht]
      obtain ⟨b,rfl,_⟩:=DataW.trod_bool ht hy
      exact ⟨[.bool b],⟨b,rfl⟩,one (.bool b)⟩
    · rename_i k ht
      simp only [Shp,ht]
      obtain ⟨m,rfl,_⟩:=DataW.trod_int ht hy
      exact ⟨[.int k m],⟨m,rfl⟩,one (.int k m)⟩
    · rename_i ht
      simp only [Shp,ht]
      obtain ⟨s,rfl,_⟩:=DataW.trod_string ht hy
      exact ⟨[.str s.data.toList],⟨_,rfl⟩,one (R.str s.data.toList)⟩
    · rename_i e ht
      simp only [Shp,ht]
      simp only [Bool.and_eq_true,decide_eq_true_eq] at hok
      obtain ⟨hok,hnz⟩:=hok
      rcases DataW.trod_slice ht hy with ⟨rfl,_⟩|⟨a,len,cap,elems,rest,m,em,rfl,_,hb,hl,hc,hlen,hel,_,_⟩
      · exact ⟨[.sl []],⟨[],rfl,fun r hr=>by cases hr⟩,one .slnil⟩
      · obtain rfl:n=m:=by omega
        have hall: ∀ i,i < len→ ∃ r:List V,Shp P n e r∧ ∃ ci:List Value,x.w.cells? base (a.add (i*P.cellsOf e)) (P.cellsOf e)=some ci∧RC x r ci:=by
          intro i hi
          have h1:=hel i hi
          rw [List.getElem?_eq_getElem (by omega)] at h1
          cases h2:x.w.cells? base (a.add (i*P.cellsOf e)) (P.cellsOf e) with
          |none=>rw [h2] at h1; cases h1
          | some ci =>
            rw [h2] at h1
            obtain ⟨vs,h3,h4⟩:=ih e hok ci _ h1
            exact ⟨vs,h3,ci,rfl,h4⟩
        obtain ⟨rows,hrl,hrows⟩:=choiceL hall
        have hcell: ∀ (r:Nat) (row:List V) (j:Nat) (v:V),rows[r]?=some row→row[j]?=some v→
            ∃ c,x.w.cell? (a.add (r*P.cellsOf e+j))=some c∧R x v c:=by
          intro r row j v hr hj
          obtain ⟨_,ci,g1,g2⟩:=hrows r row hr
          obtain ⟨_,g4,g5⟩:=World.cells?_some g1
          have hjlt:j < ci.length:=by have:=(List.getElem?_eq_some_iff.1 hj).1; rw [← g2.1]; exact this
          have g6:=g5 j (by omega)
          rw [List.getElem?_eq_getElem hjlt,Addr.add_add] at g6
          refine ⟨_,g6,?_⟩
          have:=g2.2 j v hj
          rw [List.getD_eq_getElem?_getD,List.getElem?_eq_getElem hjlt] at this
          exact this
        have key:=R.sl (x:=x) rows a cap (P.cellsOf e) (fun k=>(x.w.cell? (a.add k)).getD undef) (by omega) hc ?_ ?_ ?_ ?_
        · rw [hrl] at key
          exact ⟨[.sl rows],⟨rows,rfl,fun r hr=>by obtain ⟨i,hi⟩:=List.getElem?_of_mem hr; exact (hrows i r hi).1⟩,one key⟩
        · intro hne
          cases hrr:rows with
          |nil=>exact (hne hrr).elim
          | cons r0 rs =>
            obtain ⟨_,ci,g1,g2⟩:=hrows 0 r0 (by rw [hrr]; rfl)
            · obtain ⟨_,g4,g5⟩:=World.cells?_some g1
              have g6:=g5 0 (by omega)
              rw [List.getElem?_eq_getElem (by omega),Addr.add_add] at g6
              have hlt:(a.add (0*P.cellsOf e+0)).block < x.w.heap.size:=by
                unfold World.cell? at g6
                split at g6
                · rename_i hh
                  exact (Array.getElem?_eq_some_iff.1 hh).1
                · cases g6
              exact hZ _ (by simpa [Addr.add] using hlt)
        · intro r hr
          obtain ⟨i,hi⟩:=List.getElem?_of_mem hr
          obtain ⟨_,ci,g1,g2⟩:=hrows i r hi
          rw [g2.1]
          exact (World.cells?_some g1).2.1
        · intro r row j v hr hj
          obtain ⟨c,g1,_⟩:=hcell r row j v hr hj
          rw [g1]; rfl
        · intro r row j v hr hj
          obtain ⟨c,g1,g2⟩:=hcell r row j v hr hj
          simp only [g1,Option.getD_some]
          exact g2
    · rename_i fs ht
      simp only [Shp,ht]
      simp only [Bool.and_eq_true] at hok
      obtain ⟨xs,m,em,_,hl,hxl,hf⟩:=DataW.trod_struct ht hy
      obtain rfl:n=m:=by omega
      have hfs: ∀ f∈fs.toList,∃ z,DataW.trod enc P x.w base spare held n f.type ((cs.drop f.offset).take (P.cellsOf f.type))=some z:=by
        intro f hm
        obtain ⟨i,hi⟩:=List.getElem?_of_mem hm
        have hi':fs[i]?=some f:=by simpa using hi
        have hlt:i < xs.length:=by
          have:=(Array.getElem?_eq_some_iff.1 hi').1
          omega
        exact ⟨xs[i],by rw [hf i f hi',List.getElem?_eq_getElem hlt]⟩
      have hok':=List.all_eq_true.1 hok.1
      have main: ∀ (l:List Field) (off:Nat),(∀ f∈l,f∈fs.toList)→tile P (P.cellsOf t) off l=true→off≤cs.length→ ∃ vs,ShpL (Shp P n) l vs∧RC x vs (cs.drop off):=by
        intro l
        induction l with
        | nil =>
          intro off _ htl hle
          simp only [tile,decide_eq_true_eq] at htl
          refine ⟨[],rfl,?_⟩
          rw [List.drop_of_length_le (by omega)]
          exact ⟨rfl,fun j v hj=>by simp at hj⟩
        | cons f r ihr =>
          intro off hsub htl hle
          simp only [tile,Bool.and_eq_true,decide_eq_true_eq] at htl
          obtain ⟨z,hz⟩:=hfs f (hsub f (List.mem_cons_self ..))
          obtain ⟨va,g1,g2⟩:=ih f.type (of_decide_eq_true (hok' f (hsub f (List.mem_cons_self ..)))) _ _ hz
          have hoff:off+P.cellsOf f.type≤cs.length:=by
            rw [hl]
            have: ∀ (l:List Field) (o:Nat),tile P (P.cellsOf t) o l=true→o≤P.cellsOf t:=by
              intro l
              induction l with
              |nil=>intro o h; simp only [tile,decide_eq_true_eq] at h; omega
              |cons f r ih=>intro o h; simp only [tile,Bool.and_eq_true,decide_eq_true_eq] at h; have:=ih _ h.2; omega
            exact this _ _ htl.2
          obtain ⟨vb,g3,g4⟩:=ihr (off+P.cellsOf f.type) (fun q hq=>hsub q (List.mem_cons_of_mem _ hq)) htl.2 hoff
          refine ⟨va++vb,⟨va,vb,rfl,g1,g3⟩,?_⟩
          have hsplit:cs.drop off=(cs.drop off).take (P.cellsOf f.type)++cs.drop (off+P.cellsOf f.type):=by
            rw [← List.drop_drop,List.take_append_drop]
          rw [hsplit]
          rw [htl.1] at g2
          exact RC_append g2 g4
      obtain ⟨vs,g1,g2⟩:=main fs.toList 0 (fun _ h=>h) hok.2 (Nat.zero_le _)
      exact ⟨vs,g1,by simpa using g2⟩
    · rename_i m e ht
      simp only [Shp,ht]
      simp only [Bool.and_eq_true,decide_eq_true_eq] at hok
      obtain ⟨xs,f,em,_,hl,hxl,hf⟩:=DataW.trod_array ht hy
      obtain rfl:n=f:=by omega
      have main: ∀ (k i:Nat),i+k=m→ ∃ vs,ShpR (Shp P n e) k vs∧RC x vs (cs.drop (i*P.cellsOf e)):=by
        intro k
        induction k with
        | zero =>
          intro i hi
          refine ⟨[],rfl,?_⟩
          rw [List.drop_of_length_le (by rw [hl,← hok.2,show i=m by omega]; exact Nat.le_refl _)]
          exact ⟨rfl,fun j v hj=>by simp at hj⟩
        | succ k ihk =>
          intro i hi
          have hlt:i < m:=by omega
          have hz:=hf i hlt
          rw [List.getElem?_eq_getElem (by omega)] at hz
          obtain ⟨va,g1,g2⟩:=ih e hok.1 _ _ hz
          obtain ⟨vb,g3,g4⟩:=ihk (i+1) (by omega)
          refine ⟨va++vb,⟨va,vb,rfl,g1,g3⟩,?_⟩
          have hsplit:cs.drop (i*P.cellsOf e)=(cs.drop (i*P.cellsOf e)).take (P.cellsOf e)++cs.drop ((i+1)*P.cellsOf e):=by
            rw [Nat.add_mul,Nat.one_mul,← List.drop_drop,List.take_append_drop]
          rw [hsplit]
          exact RC_append g2 g4
      obtain ⟨vs,g1,g2⟩:=main m 0 (by omega)
      exact ⟨vs,g1,by simpa using g2⟩
    · cases hok
theorem open_RS {x:Cx} (hZ: ∀ b,b < x.w.heap.size→x.Z b) {S:List TypeId} (hS: ∀ t∈S,okS P S t=true) {t:TypeId} (ht0:t∈S) {r:Reach} {b0 base:Nat} {spare:Nat→Bool} {held:Bool} {v:Value} {d:DataW H} {ps:List MemPlace}
    (hval:Value.okWide P x.w r b0 t v) (hd:DataW.Trod enc P x.w base spare held t v d ps): ∃ n vs,Shp P n t vs∧R x (packV P t vs) v:=by
  obtain ⟨fuel,hf⟩:=hd
  obtain ⟨vs,h1,h2⟩:=trod_RS hZ hS fuel t ht0 _ _ hf
  refine ⟨fuel,vs,h1,?_⟩
  have hok:=hS t ht0
  unfold packV
  simp only [okS] at hok
  split at hok
  · rename_i ht
    obtain ⟨b,rfl⟩:=okWide_bool ht hval
    rw [ht]; exact RC_one h2
  · rename_i k ht
    obtain ⟨m,rfl⟩:=okWide_int ht hval
    rw [ht]; exact RC_one h2
  · rename_i ht
    obtain ⟨s,rfl⟩:=okWide_string ht hval
    rw [ht]; exact RC_one h2
  · rename_i e ht
    obtain ⟨a,l,c,rfl⟩:=okWide_slice ht hval
    rw [ht]; exact RC_one h2
  · rename_i fs ht
    obtain ⟨cs,rfl,_⟩:=okWide_struct ht hval
    rw [ht]
    refine .agg vs cs (by have:=h2.1; simp [Value.cells] at this; omega) fun j u hj=>?_
    have:=h2.2 j u hj
    rw [List.getD_eq_getElem?_getD] at this
    rw [Array.getD_eq_getD_getElem?,← Array.getElem?_toList]
    exact this
  · rename_i m e ht
    have hval2:=hval
    simp only [Value.okWide,ht] at hval2
    obtain ⟨cs,rfl,_⟩:=hval2
    rw [ht]
    refine .agg vs cs (by have:=h2.1; simp [Value.cells] at this; omega) fun j u hj=>?_
    have:=h2.2 j u hj
    rw [List.getD_eq_getElem?_getD] at this
    rw [Array.getD_eq_getD_getElem?,← Array.getElem?_toList]
    exact this
  · cases hok
def ShpB (P:Program):List TypeId→List V→Prop
  |[],vs=>vs=[]
  |t::ts,vs=> ∃ n a b,vs=packV P t a::b∧Shp P n t a∧ShpB P ts b
theorem open_allS {x:Cx} (hZ: ∀ b,b < x.w.heap.size→x.Z b) {S:List TypeId} (hS: ∀ t∈S,okS P S t=true) {r:Reach} {b0 base:Nat} {spare:Nat→Bool} {held:Bool}: ∀ (ts:List TypeId) (vs:List Value) (ds:List (DataW H)) (ps:List MemPlace),
    (∀ t∈ts,t∈S)→(∀ (j:Nat) t v,ts[j]?=some t→vs[j]?=some v→Value.okWide P x.w r b0 t v)→DataW.TrodAll enc P x.w base spare held ts vs ds ps→
    ∃ us,ShpB P ts us∧RL x us vs
  | [], vs, ds, ps, _, _, h => by
    obtain ⟨rfl,rfl,rfl⟩:=trodAll_nil h
    exact ⟨[],rfl,rfl,fun j v hj=>by simp at hj⟩
  | t :: ts, vs, ds, ps, hok, hval, h => by
    obtain ⟨v,vs1,d,ds1,a,b,rfl,rfl,rfl,h1,h2⟩:=trodAll_cons h
    obtain ⟨n,ws,g1,g2⟩:=open_RS hZ hS (hok t (List.mem_cons_self ..)) (hval 0 t v rfl rfl) h1
    obtain ⟨us,g3,g4⟩:=open_allS hZ hS ts vs1 ds1 b (fun q hq=>hok q (List.mem_cons_of_mem _ hq)) (fun j q u hq hu=>hval (j+1) q u (by simpa using hq) (by simpa using hu)) h2
    refine ⟨packV P t ws::us,⟨n,ws,us,rfl,g1,g3⟩,by simp [g4.1],fun j u hj=>?_⟩
    cases j with
    |zero=>simp at hj; subst hj; exact g2
    |succ j=>exact g4.2 j u (by simpa using hj)
theorem law_postS {f:FuncId} {fn:Func} {s:ChangeSpec} {apart fresh handsOn again:Bool} {tb:Nat} {S:List TypeId} {W:World} {args:Array Value} {ds gs:List (DataW H)} {before:List MemPlace}
    (hl:laidOutB P=true) (hres:fn.resultTypes=#[tb]) (htb:P.underlying tb=some .bool) (hS: ∀ t∈S,okS P S t=true) (hts: ∀ t∈fn.params.toList,t∈S∧P.readableRec t=true∧t < P.types.size)
    (hvars:s.vars=[]) (hs:s.fn H (ds++gs)={results:=[.lit (.bool true)],args:=ds})
    (hlaw: ∀ us,ShpB P fn.params.toList us→PureC P f us (.bool true))
    (hval: ∀ (j:Nat) t v,fn.params[j]?=some t→args[j]?=some v→Value.okWide P W .any 0 t v)
    (hW:DataW.Whole enc P fn.params.toList s.vars apart W args.toList ds gs before) (htab:TabZ W (fun b=>b < W.heap.size):=by intro p hp; simp [tabs] at hp):
    Calls P f args W fun e W'=> ∃ v,e=.returned v∧s.post enc P fn apart fresh handsOn again W args v W':=by
  have hW':=hW
  obtain ⟨p,q,hA,hV,rfl,hfz,hnd⟩:=hW
  rw [hvars] at hV
  obtain ⟨rfl,rfl⟩:=trodVars_none hV
  have hlt:=hW'.lt
  let x:Cx:=start {w:=W,Z:=fun b=>b < W.heap.size,σ:=fun _=>0,H:=H0} (fun b=>b < W.heap.size)
  have hx:Inv x:=start_ok (fun b hb=>hb) htab
  obtain ⟨us,g1,g2⟩:=open_allS (x:=x) (fun b hb=>hb) hS fn.params.toList args.toList ds p (fun t ht=>(hts t ht).1) (fun j t v h1 h2=>hval j t v (by simpa using h1) (by simpa using h2)) hA
  have hc:=(hlaw us g1 H0).2 x args.toList rfl hx g2
  rw [Array.toArray_toList] at hc
  refine Calls.mono (show Calls P f args W _ from hc) fun e W' h=>?_
  obtain ⟨c,y,rfl,rfl,h3,h4,h5,h6⟩:=h
  cases h5
  have hb:Below W.heap.size W y.w:=below_of_frame h6 (fun _=>rfl) rfl
  refine ⟨_,rfl,post_of_below (pa:=p) (pv:=[]) hW' (fun b sp hd=>?_) (fun sp hsp=>?_) (fun sp _=>?_) (by simp) hb ?_⟩
  · rw [hs,hres]
    exact trodAll_mk1 (shut_bool htb true)
  · rw [hs]
    exact trodAll_stays hl hb _ _ _ _ (fun t ht=>(hts t ht).2) hA (fun z hz=>hlt z (by simpa using hz)) (fun z hz=>hsp z (by simpa using hz))
  · rw [hs,hvars]; rfl
  · exact ok_one hres rfl (okWide_bool_mk htb true)
end
section
variable {P:Program} {n t:Nat} {vs:List V}
theorem shq_int {k:IntKind} (ht:P.underlying t=some (.int k)) (h:Shp P n t vs): ∃ m:Int,vs=[.int k m]:=by
  cases n with
  |zero=>exact h.elim
  |succ n=>exact shp_int ht h
theorem shq_slice {e:Nat} {α:Type} {f:α→List V} (ht:P.underlying t=some (.slice e)) (he: ∀ m vs,Shp P m e vs→ ∃ a,vs=f a) (h:Shp P n t vs): ∃ l:List α,vs=[.sl (l.map f)]:=by
  cases n with
  |zero=>exact h.elim
  |succ n=>exact shp_slice ht (he n) h
theorem shq_step {fs:Array Field} (ht:P.underlying t=some (.struct fs)) (h:Shp P n t vs): ∃ m,n=m+1∧ShpL (Shp P m) fs.toList vs:=by
  cases n with
  |zero=>exact h.elim
  |succ n=>exact ⟨n,rfl,shp_step ht h⟩
theorem shq_kids {e:Nat} {α:Type} {f:α→List V} {N:Nat} (ht:P.underlying t=some (.slice e)) (he: ∀ m,m < N→ ∀ vs,Shp P m e vs→ ∃ a,vs=f a) (hn:n < N) (h:Shp P n t vs): ∃ l:List α,vs=[.sl (l.map f)]:=by
  cases n with
  |zero=>exact h.elim
  |succ n=>exact shp_slice ht (he n (by omega)) h
theorem shpB_cons {ts:List TypeId} {us:List V} (h:ShpB P (t::ts) us): ∃ n a b,us=packV P t a::b∧Shp P n t a∧ShpB P ts b:=h
theorem shpB_nil {us:List V} (h:ShpB P [] us):us=[]:=h
end
end Go.Proofs.YteehaobohaecmaaDoor
namespace Go.Proofs.YteehaobohaecmaaDoor
open Go
abbrev cFm (f:Fm):List V:=[iV f.op,iV f.arg,.sl (f.kids.map cF)]
structure Tri where
  ia:List (List UInt8)
  oa:List (List UInt8)
  f:Fm
  s:List UInt8
end Go.Proofs.YteehaobohaecmaaDoor
namespace Go.Proofs.YteehaobohaecmaaDoor
open Go Go.Proofs Go.Proofs.YteehaobohaecmaaDoor
theorem gPow : Tryd.prog.globalNamed "internal/strconv.uint64pow10" = some 0 := by kernel_rfl
theorem door_met (os:Os) (args:Array Value):laidMetH Tryd.prog Rows.monitorTracesRow.laid ((World.doorLaid Tryd.prog 400 os).forCall (fun _ _=>0) ⟨#[],args,[]⟩).memory:=
  laidMetH_of_parts3 (fuel:=8) (laidMet_of_run' 8 (by kernel_rfl) (by kernel_rfl)) (by kernel_rfl) (by kernel_rfl)
theorem tabZ_of_laid {W:World} (h:laidMetH Tryd.prog Rows.monitorTracesRow.laid W):TabZ W (fun b=>b < W.heap.size):=by
  have h2 := laidMetH.filter (fun x => x.1 == "internal/strconv.uint64pow10") h
  rw [show Rows.monitorTracesRow.laid.filter (fun x => x.1 == "internal/strconv.uint64pow10") = [("internal/strconv.uint64pow10", Lib.tabData .u64 Lib.pow10Tab)] from by kernel_rfl] at h2
  rw [MakeChecks.laidMetH_plain _ _ _ (by kernel_rfl)] at h2
  have h3 : Lib.TabIs Tryd.prog W "internal/strconv.uint64pow10" .u64 Lib.pow10Tab := Lib.tabIs_of_head (n := 20) gPow (show (Tryd.prog.globals[0]?).map (·.type) = some 126 from by kernel_rfl) Tryd.underlying126 Tryd.underlying111 (by kernel_rfl) (by kernel_rfl) h2
  unfold Lib.TabIs World.var? at h3
  rw [gPow] at h3
  simp only [Option.bind_some] at h3
  intro p hp
  rw [show p=(0,p10C) from by simpa [tabs] using hp]
  revert h3
  cases hq:W.heap[0]? with
  |none=>intro h3; cases h3
  | some o =>
    cases o with
    | cells cs ty m =>
      intro h3
      injection h3 with h3
      refine ⟨?_,ty,m,by rw [h3]; rfl⟩
      obtain ⟨hlt,_⟩:=Array.getElem?_eq_some_iff.1 hq
      exact hlt
    |_=>intro h3; cases h3
end Go.Proofs.YteehaobohaecmaaDoor
namespace Go.Proofs.YteehaobohaecmaaDoor
open Go Go.Proofs Go.Proofs.YteehaobohaecmaaDoor Go.ChangeShapes Go.WideShapes Go.ChangeAt Go.RowKit
structure UT (P:Program):Prop where
  u3:P.underlying 3=some (.int .i64)
  u22:P.underlying 22=some (.slice 24)
  u24: ∃ f0 f1 f2:Field,P.underlying 24=some (.struct #[f0,f1,f2])∧f0.type=3∧f1.type=3∧f2.type=22
  u25:P.underlying 25=some (.slice 3)
  u27: ∃ f0 f1:Field,P.underlying 27=some (.struct #[f0,f1])∧f0.type=25∧f1.type=25
theorem sh3 {P:Program} (U:UT P): ∀ (n:Nat) (vs:List V),Shp P n 3 vs→ ∃ a:Int,vs=cI a:=fun _ _ h=>shq_int U.u3 h
theorem sh24 {P:Program} (U:UT P): ∀ (n:Nat) (vs:List V),Shp P n 24 vs→ ∃ a:Fm,vs=cF a:=by
  intro n
  induction n using Nat.strongRecOn with
  | ind n ih =>
    intro vs h
    obtain ⟨f0,f1,f2,hu,k0,k1,k2⟩:=U.u24
    obtain ⟨m,hm,h0⟩:=shq_step hu h
    obtain ⟨x0,u0,e0,h1⟩:=shpL_cons (c:=cI) (fun vs h=>sh3 U m vs (by rw [k0] at h; exact h)) h0
    obtain ⟨x1,u1,e1,h2⟩:=shpL_cons (c:=cI) (fun vs h=>sh3 U m vs (by rw [k1] at h; exact h)) h1
    obtain ⟨x2,u2,e2,h3⟩:=shpL_cons (c:=fun l:List Fm=>[V.sl (List.map cF l)]) (fun vs h=>shq_kids (N:=n) (n:=m) U.u22 ih (by omega) (by rw [k2] at h; exact h)) h2
    have e3:=shpL_nil h3
    exact ⟨(Fm.nd x0 x1 x2),by rw [e0,e1,e2,e3,cF_eq]; rfl⟩
theorem sh25 {P:Program} (U:UT P): ∀ (n:Nat) (vs:List V),Shp P n 25 vs→ ∃ a:(List Int),vs=cL a:=fun _ _ h=>shq_slice (f:=cI) U.u25 (sh3 U) h
theorem sh27 {P:Program} (U:UT P): ∀ (n:Nat) (vs:List V),Shp P n 27 vs→ ∃ a:Tr,vs=cT a:=by
  intro n
  induction n using Nat.strongRecOn with
  | ind n ih =>
    intro vs h
    obtain ⟨f0,f1,hu,k0,k1⟩:=U.u27
    obtain ⟨m,hm,h0⟩:=shq_step hu h
    obtain ⟨x0,u0,e0,h1⟩:=shpL_cons (c:=cL) (fun vs h=>sh25 U m vs (by rw [k0] at h; exact h)) h0
    obtain ⟨x1,u1,e1,h2⟩:=shpL_cons (c:=cL) (fun vs h=>sh25 U m vs (by rw [k1] at h; exact h)) h1
    have e2:=shpL_nil h2
    exact ⟨⟨x0,x1⟩,by rw [e0,e1,e2]; rfl⟩
theorem ut:UT Tryd.prog:=⟨by kernel_rfl,by kernel_rfl,⟨_,_,_,Tryd.underlying24,rfl,rfl,rfl⟩,by kernel_rfl,⟨_,_,Tryd.underlying27,rfl,rfl⟩⟩
theorem args3 {P:Program} (U:UT P) {us:List V} (h:ShpB P [24,27] us): ∃ (d0:Fm) (d1:Tr),us=[V.agg (cFm d0),V.agg (cT d1)]:=by
  obtain ⟨n0,a0,b0,e0,h0,h⟩:=shpB_cons h
  obtain ⟨d0,g0⟩:=sh24 U n0 a0 h0
  have q0:packV P 24 a0=V.agg (cFm d0):=by obtain ⟨_,_,_,hu,_⟩:=U.u24; rw [g0,cF_eq]; exact pack_struct hu _
  obtain ⟨n1,a1,b1,e1,h1,h⟩:=shpB_cons h
  obtain ⟨d1,g1⟩:=sh27 U n1 a1 h1
  have q1:packV P 27 a1=V.agg (cT d1):=by obtain ⟨_,_,hu,_⟩:=U.u27; rw [g1]; exact pack_struct hu _
  have e2:=shpB_nil h
  exact ⟨d0,d1,by rw [e0,q0,e1,q1,e2]⟩
theorem own3:ownKnob Tryd.prog.godebug=none:=by kernel_rfl
theorem okS3: ∀ t∈[3,22,24,25,27],okS Tryd.prog [3,22,24,25,27] t=true:=by
  intro t ht
  simp only [List.mem_cons,List.not_mem_nil,or_false] at ht
  rcases ht with rfl|rfl|rfl|rfl|rfl
  · kernel_rfl
  · kernel_rfl
  · kernel_rfl
  · kernel_rfl
  · kernel_rfl
set_option maxRecDepth 100000 in
theorem lifted3 (os:Os) (started:os.Started) (H:Type) (enc:TypeId×Value→H):
    ReturnsInHanded {} Tryd.checked os 3 .any (fun w args=>(Rows.monitorTracesSpec.pre enc Tryd.prog Tryd.f3 [] false w args∧laidMetH Tryd.prog Rows.monitorTracesRow.laid w)∧sizedMet enc Tryd.prog Tryd.f3 (OpenSpec.ofChange Rows.monitorTracesSpec) false w args)
      (Rows.monitorTracesSpec.post enc Tryd.prog Tryd.f3 false true false false):=by
  refine returnsInHanded_of_change_and (C:=Tryd.checked) (X:=fun w _=>laidMetH Tryd.prog Rows.monitorTracesRow.laid w) (fun _ _ _ hh h=>h.of_heap hh) own3 started (by kernel_rfl) Tryd.func3
    (ChangeSpec.witness_shaped (enc:=enc) (C:=Tryd.checked) (os:=os) (X:=fun w _=>laidMetH Tryd.prog Rows.monitorTracesRow.laid w) false (World.doorLaid Tryd.prog 400 os) #[.agg #[.int .i64 0,.int .i64 0,.slice none 0 0],.agg #[.slice none 0 0,.slice none 0 0]] 8 rfl (World.shaped_of_RefB (by kernel_rfl) (by kernel_rfl)) (by kernel_rfl) (by kernel_rfl) (by kernel_rfl) (door_met os _)) ?_
  intro W base args ds gs before hval0 hW _ _ hL _
  refine law_postS (S:=[3,22,24,25,27]) (tb:=4) (by kernel_rfl) (by kernel_rfl) (by kernel_rfl) okS3 (fun t ht=>?_) rfl ?_ (fun us hu=>?_) hval0 hW (tabZ_of_laid hL)
  · have h:t∈[24,27]:=ht
    simp only [List.mem_cons,List.not_mem_nil,or_false] at h
    rcases h with rfl|rfl
    · exact ⟨of_decide_eq_true (by kernel_rfl),by kernel_rfl,of_decide_eq_true (by kernel_rfl)⟩
    · exact ⟨of_decide_eq_true (by kernel_rfl),by kernel_rfl,of_decide_eq_true (by kernel_rfl)⟩
  · obtain ⟨p,q,hA,hV,rfl,hfz,hnd⟩:=hW
    obtain ⟨rfl,rfl⟩:=trodVars_none hV
    change DataW.TrodAll enc Tryd.prog W 0 (fun _=>true) true [24,27] args.toList ds p at hA
    obtain ⟨v0,vs0,y0,ds0,pa0,pb0,hv0,rfl,rfl,_,hA⟩:=trodAll_cons hA
    obtain ⟨v1,vs1,y1,ds1,pa1,pb1,hv1,rfl,rfl,_,hA⟩:=trodAll_cons hA
    obtain ⟨_,rfl,rfl⟩:=trodAll_nil hA
    rfl
  · obtain ⟨d0,d1,rfl⟩:=args3 ut hu
    exact law3_pure d0 d1
theorem row3:Rows.MonitorTracesSaid:=
  OpenClaim.holds_of_wide 3 Tryd.f3 rfl rfl rfl rfl rfl rfl rfl ⟨rfl,rfl,rfl,rfl,rfl⟩ rfl rfl rfl rfl rfl (by kernel_rfl) Tryd.func3 (by kernel_rfl)
    (of_decide_eq_true (by kernel_rfl)) (by unfold Func.isWrapper; first|(rw [if_pos (by decide+kernel)]; kernel_rfl)|(rw [if_neg (by decide+kernel)]; exact ⟨rfl,rfl⟩))
    (fun os started H enc _=>lifted3 os started H enc)
theorem proved3 : Rows.MonitorTracesCardSaid :=
  Claim7.holds_tied_plain_at .later [] [.data, .data, .data] true (true, "9750cd835fc6be56c868f17598e48ee6da7fc37918f78c04b1a6e4f014a09322") false
    row3 (fun _ h=>by cases h) (by kernel_rfl) (fun _ h=>by cases h) monitorTraces_row_tie rfl ⟨rfl,rfl⟩ (by kernel_rfl) rfl
    (fun f fn hf hfn=>by
      obtain rfl : f = 3 := Option.some.inj ((show Tryd.prog.funcNamed "learner/learnerlaw46.MonitorTraces" = some 3 by kernel_rfl).symm.trans hf) |>.symm
      obtain rfl:fn=Tryd.f3:=(Option.some.inj (Tryd.func3.symm.trans hfn)).symm
      exact ⟨by kernel_rfl,fun j t ht=>by
        rw [Tryd.params3] at ht
        have hm:t∈[24,27]:=by simpa using Array.mem_of_getElem? ht
        have hall:([24,27].all fun u=> !Tryd.prog.wantsStandIn u)=true:=by kernel_rfl
        exact (show Tryd.prog.wantsStandIn t=false by simpa using List.all_eq_true.1 hall t hm)⟩)
    (by kernel_rfl)
end Go.Proofs.YteehaobohaecmaaDoor
