/- Contracts of the functions that the law TA reaches, and the law itself, for every input; no condition. -/
import Derived.KernelRfl
import Derived.Test.YtmnjchcoigbngabGreatProg
import Derived.Shelf.SlSortCmp.KitK
import Derived.Shelf.SlSortCmp.Kit1
import Derived.Shelf.SlSortCmp.NoneTotal
import Derived.Shelf.Spec.SlicesGrow
import Derived.Test.YtmnjchcoigbngabGreatTA1
set_option linter.unusedSimpArgs false
set_option linter.unusedVariables false
namespace Go.Proofs.YtmnjchcoigbngabGreat
open Go
structure Ts where
  i:Int
  t:Dt
  deriving Inhabited
structure Xt where
  w:List Int
  n:Int
  deriving Inhabited
structure Spl where
  p:List Int
  a:Int
  x:List Int
  deriving Inhabited
abbrev cTs (l:Ts):List V:=[iV l.i,.sl (l.t.nd.map cN)]
abbrev cXt (e:Xt):List V:=[ints e.w,iV e.n]
abbrev cSpl (s:Spl):List V:=[ints s.p,iV s.a,ints s.x]
theorem Ts.eq_iff {a b:Ts}:a=b↔a.i=b.i∧a.t=b.t:=by cases a; cases b; simp
instance:DecidableEq Ts:=fun _ _=>decidable_of_iff _ Ts.eq_iff.symm
@[simp] theorem pureLL_xts (l:List Xt):pureLL (l.map cXt)=true:=pureLL_map _ _ fun a=>by simp [cXt]
def grB (l:Ts) (o:Ob):Bool:=decide (4 < l.i∨bgT l.t=true∨400 < o.tr.length∨oval o≠0)
theorem gr_no {l:Ts} {o:Ob} (h:grB l o=false):l.i≤4∧bgT l.t=false∧o.tr.length≤400∧oval o=0:=by
  unfold grB at h
  simp only [decide_eq_false_iff_not,not_or,Decidable.not_not] at h
  obtain ⟨h1,h2,h3,h4⟩:=h
  exact ⟨by omega,by simpa using h2,by omega,h4⟩
def nwT (n:Int):Ts:=if n < 1∨64 < n then ⟨0,⟨[]⟩⟩ else ⟨n,⟨[lfN []]⟩⟩
def nwE (n:Int):Int:=if n < 1∨64 < n then 2 else 0
def wdE (l:Ts) (k:Nat):Int:=if wchk (nth l.t.nd k).ac l.i≠0 then wchk (nth l.t.nd k).ac l.i else wchk (nth l.t.nd k).sf l.i
def tvE (l:Ts):Int:=if l.i < 1∨64 < l.i then 2 else if dvE l.t≠0 then dvE l.t else if fe (wdE l) 0 l.t.nd.length≠0 then fe (wdE l) 0 l.t.nd.length else if []∉acL l.t.nd then 1 else if 128 < (acL l.t.nd).length then 11 else 0
def tsE (l:Ts) (o:Ob):Int:=if tvE l≠0 then tvE l else if l.i≠o.i then 15 else 0
theorem tvE_1 {l:Ts} (h1:l.i < 1∨64 < l.i):tvE l=2:=by
  unfold tvE; rw [if_pos h1]
theorem tvE_2 {l:Ts} (h1: ¬(l.i < 1∨64 < l.i)) (h2:dvE l.t≠0):tvE l=dvE l.t:=by
  unfold tvE; rw [if_neg h1,if_pos h2]
theorem tvE_3 {l:Ts} (h1: ¬(l.i < 1∨64 < l.i)) (h2: ¬(dvE l.t≠0)) (h3:fe (wdE l) 0 l.t.nd.length≠0):tvE l=fe (wdE l) 0 l.t.nd.length:=by
  unfold tvE; rw [if_neg h1,if_neg h2,if_pos h3]
theorem tvE_4 {l:Ts} (h1: ¬(l.i < 1∨64 < l.i)) (h2: ¬(dvE l.t≠0)) (h3: ¬(fe (wdE l) 0 l.t.nd.length≠0)) (h4:[]∉acL l.t.nd):tvE l=1:=by
  unfold tvE; rw [if_neg h1,if_neg h2,if_neg h3,if_pos h4]
theorem tvE_5 {l:Ts} (h1: ¬(l.i < 1∨64 < l.i)) (h2: ¬(dvE l.t≠0)) (h3: ¬(fe (wdE l) 0 l.t.nd.length≠0)) (h4: ¬([]∉acL l.t.nd)) (h5:128 < (acL l.t.nd).length):tvE l=11:=by
  unfold tvE; rw [if_neg h1,if_neg h2,if_neg h3,if_neg h4,if_pos h5]
theorem tvE_6 {l:Ts} (h1: ¬(l.i < 1∨64 < l.i)) (h2: ¬(dvE l.t≠0)) (h3: ¬(fe (wdE l) 0 l.t.nd.length≠0)) (h4: ¬([]∉acL l.t.nd)) (h5: ¬(128 < (acL l.t.nd).length)):tvE l=0:=by
  unfold tvE; rw [if_neg h1,if_neg h2,if_neg h3,if_neg h4,if_neg h5]
theorem tv_ok {l:Ts} (h:tvE l=0):1≤l.i∧l.i≤64∧dvE l.t=0∧(∀ k,k < l.t.nd.length→wchk (nth l.t.nd k).ac l.i=0∧wchk (nth l.t.nd k).sf l.i=0)∧[]∈acL l.t.nd∧(acL l.t.nd).length≤128:=by
  unfold tvE at h
  split at h
  · omega
  · split at h
    · rename_i q; exact (q h).elim
    · split at h
      · rename_i q; exact (q h).elim
      · rename_i q
        split at h
        · omega
        · rename_i q2
          split at h
          · omega
          · refine ⟨by omega,by omega,by omega,fun k hk=>?_,Decidable.not_not.1 q2,by omega⟩
            have:=fe_zero_iff.1 (Decidable.not_not.1 q) k (Nat.zero_le _) (by omega)
            unfold wdE at this
            split at this
            · rename_i q3; exact (q3 this).elim
            · rename_i q3; exact ⟨Decidable.not_not.1 q3,this⟩
theorem ts_ok {l:Ts} {o:Ob} (h:tsE l o=0):tvE l=0∧l.i=o.i:=by
  unfold tsE at h
  split at h
  · rename_i q; exact (q h).elim
  · rename_i q
    split at h
    · omega
    · rename_i q2; exact ⟨Decidable.not_not.1 q,Decidable.not_not.1 q2⟩
def emB (t:Dt) (k:Nat):Bool:=decide ([]∈acL (t.nd.take k))
theorem emB_yes {t:Dt} {k:Nat} (hk:k < t.nd.length) (h:(nth t.nd k).lf=true):emB t (k+1)=(emB t k||decide (((nth t.nd k).ac.length:Int)=0)):=by
  unfold emB
  rw [acL_take hk,if_pos h,Bool.eq_iff_iff]
  simp only [decide_eq_true_eq,Bool.or_eq_true,List.mem_append,List.mem_singleton]
  refine or_congr Iff.rfl ⟨fun e=>by rw [← e]; rfl,fun e=>?_⟩
  have:(nth t.nd k).ac.length=0:=by omega
  exact (List.length_eq_zero_iff.1 this).symm
theorem emB_no {t:Dt} {k:Nat} (hk:k < t.nd.length) (h:(nth t.nd k).lf=false):emB t (k+1)=emB t k:=by
  unfold emB
  rw [acL_take hk,if_neg (by simp [h]),List.append_nil]
theorem emB_end {t:Dt} {k:Nat} (hk:t.nd.length≤k):emB t k=decide ([]∈acL t.nd):=by
  unfold emB; rw [List.take_of_length_le hk]
def lvs (t:Dt):List (List Int):=if dvE t=0 then sdW (acL t.nd) else []
theorem lvs_eq {t:Dt} (h:dvE t=0):lvs t=sdW (acL t.nd):=if_pos h
theorem lvs_len {t:Dt} (h:dvE t=0):(lvs t).length=(acL t.nd).length:=by rw [lvs_eq h]; exact (dv_ok h).2.2.2.2
def ex1 (i:Int) (p:List Int):List (List Int):=(List.range i.toNat).map fun (a:Nat)=>cat [p,[(a:Int)]]
def exs (l:Ts):List (List Int):=(lvs l.t).flatMap (ex1 l.i)
theorem ex1_len (i:Int) (p:List Int):(ex1 i p).length=i.toNat:=by simp [ex1]
theorem flat_len {α β:Type} {f:α→List β} {n:Nat} (h: ∀ a,(f a).length=n): ∀ l:List α,(l.flatMap f).length=l.length*n
  |[]=>by simp
  |a::l=>by rw [List.flatMap_cons,List.length_append,h,flat_len h l,List.length_cons,Nat.succ_mul]; omega
theorem flat_nth {α β:Type} [Inhabited α] [Inhabited β] {f:α→List β} {n:Nat} (h: ∀ a,(f a).length=n): ∀ {l:List α} {k j:Nat},k < l.length→j < n→nth (l.flatMap f) (k*n+j)=nth (f (nth l k)) j
  |[],k,j,hk,_=>by simp at hk
  |a::l,0,j,_,hj=>by
    rw [List.flatMap_cons,Nat.zero_mul,Nat.zero_add,nth_app_l (by rw [h]; exact hj)]; rfl
  |a::l,k+1,j,hk,hj=>by
    rw [List.flatMap_cons,show (k+1)*n+j=(f a).length+(k*n+j) by rw [h,Nat.succ_mul]; omega,nth_app_r,nth_succ]
    exact flat_nth h (by simpa using hk) hj
theorem exs_len (l:Ts):(exs l).length=(lvs l.t).length*l.i.toNat:=flat_len (ex1_len l.i) _
theorem exs_nth {l:Ts} {k j:Nat} (hk:k < (lvs l.t).length) (hj:j < l.i.toNat):nth (exs l) (k*l.i.toNat+j)=cat [nth (lvs l.t) k,[(j:Int)]]:=by
  unfold exs
  rw [flat_nth (ex1_len l.i) hk hj]
  unfold ex1
  rw [nth_map (by simpa using hj)]
  have:nth (List.range l.i.toNat) j=j:=by rw [← nth_getElem (by simpa using hj)]; simp
  rw [this]
theorem acL_mem {l:List Nd} {w:List Int} (h:w∈acL l): ∃ k,k < l.length∧(nth l k).lf=true∧(nth l k).ac=w:=by
  unfold acL at h
  obtain ⟨x,hx,rfl⟩:=List.mem_map.1 h
  rw [List.mem_filter] at hx
  obtain ⟨k,hk,rfl⟩:=mem_nth hx.1
  exact ⟨k,hk,hx.2,rfl⟩
theorem lvs_word {l:Ts} (h:tvE l=0) {w:List Int} (hw:w∈lvs l.t):w.length≤1024∧wchk w l.i=0:=by
  obtain ⟨_,_,hv,hq,_,_⟩:=tv_ok h
  rw [lvs_eq hv] at hw
  obtain ⟨k,hk,_,rfl⟩:=acL_mem ((mem_sdW _ _).1 hw)
  exact ⟨(wchk_ok (hq k hk).1).1,(hq k hk).1⟩
theorem exs_mem {l:Ts} {w:List Int} (hw:w∈exs l): ∃ p a,p∈lvs l.t∧0≤a∧a < l.i∧w=p++[a]:=by
  unfold exs at hw
  obtain ⟨p,hp,hq⟩:=List.mem_flatMap.1 hw
  unfold ex1 at hq
  obtain ⟨a,ha,rfl⟩:=List.mem_map.1 hq
  rw [List.mem_range] at ha
  exact ⟨p,a,hp,by omega,by omega,by simp [cat]⟩
theorem exs_word {l:Ts} (h:tvE l=0) {w:List Int} (hw:w∈exs l):w.length≤1025∧0 < w.length∧ ∀ k,k < w.length→0≤nth w k∧nth w k < l.i:=by
  obtain ⟨p,a,hp,h0,h1,rfl⟩:=exs_mem hw
  obtain ⟨q1,q2⟩:=lvs_word h hp
  have q3:=wchk_ok q2
  rw [List.length_append]
  refine ⟨by simp only [List.length_singleton]; omega,by simp,fun k hk=>?_⟩
  rw [List.length_singleton] at hk
  by_cases e:k < p.length
  · rw [nth_app_l e]; exact q3.2 k e
  · have:nth (p++[a]) (p.length+(k - p.length))=nth [a] (k - p.length):=nth_app_r
    rw [show p.length+(k - p.length)=k by omega,show k - p.length=0 by omega,nth_zero] at this
    rw [this]; exact ⟨h0,h1⟩
def sqE (l:Ts) (o:Ob) (k:Nat):Int:=(sftR l.t o (nth (exs l) k)).2.2
def sfE (l:Ts) (o:Ob):Int:=fe (sqE l o) 0 (exs l).length
def qr1 (t:Dt) (o:Ob) (w:List Int):List (List Int):=(if (ans o w).isSome=true then [] else [w])++(if 0 < (sftR t o w).2.1.length then [(sftR t o w).2.1] else [])
def qrs (l:Ts) (o:Ob) (k:Nat):List (List Int):=((exs l).take k).flatMap (qr1 l.t o)
def qra (l:Ts) (o:Ob):List (List Int):=(exs l).flatMap (qr1 l.t o)
theorem qr1_le (t:Dt) (o:Ob) (w:List Int):(qr1 t o w).length≤2:=by
  unfold qr1; split <;> split <;> simp
theorem flat_le2 {α β:Type} {f:α→List β} {n:Nat} (h: ∀ a,(f a).length≤n): ∀ l:List α,(l.flatMap f).length≤l.length*n
  |[]=>by simp
  |a::l=>by
    have:=flat_le2 h l
    have:=h a
    rw [List.flatMap_cons,List.length_append,List.length_cons,Nat.succ_mul]; omega
theorem qrs_le (l:Ts) (o:Ob) (k:Nat):(qrs l o k).length≤2*(exs l).length:=by
  have:=flat_le2 (qr1_le l.t o) ((exs l).take k)
  have q:((exs l).take k).length≤(exs l).length:=by rw [List.length_take]; omega
  unfold qrs; omega
theorem qrs_step {l:Ts} {o:Ob} {k:Nat} (h:k < (exs l).length):qrs l o (k+1)=qrs l o k++qr1 l.t o (nth (exs l) k):=flat_take h
theorem qrs_end {l:Ts} {o:Ob} {k:Nat} (h:(exs l).length≤k):qrs l o k=qra l o:=by unfold qrs; rw [List.take_of_length_le h]; rfl
theorem qra_len {l:Ts} (o:Ob) (_:tvE l=0):(qra l o).length≤2*(exs l).length:=by
  have:=flat_le2 (qr1_le l.t o) (exs l)
  unfold qra; omega
theorem sftN_query {t:Dt} {o:Ob} {w:List Int}: ∀ (f n:Nat),(sftN t o w f n).2.1=[]∨wchk (sftN t o w f n).2.1 o.i=0
  |0,n=>.inl rfl
  |f+1,n=>by
    unfold sftN
    split
    · exact .inl rfl
    · split
      · exact .inl rfl
      · split
        · rename_i h _; exact .inr (Decidable.not_not.1 h)
        · split
          · exact sftN_query f _
          · exact .inl rfl
theorem sft_query {t:Dt} {o:Ob} {w:List Int}:(sftR t o w).2.1=[]∨wchk (sftR t o w).2.1 o.i=0:=by
  unfold sftR
  split
  · exact .inl rfl
  · split
    · exact .inl rfl
    · exact sftN_query _ _
theorem sft_qlen (t:Dt) (o:Ob) (w:List Int):(sftR t o w).2.1.length≤1024:=by
  rcases sft_query (t:=t) (o:=o) (w:=w) with h|h
  · rw [h]; simp
  · exact (wchk_ok h).1
theorem qra_word {l:Ts} {o:Ob} (h:tvE l=0) {w:List Int} (hw:w∈qra l o):w.length≤1048576:=by
  unfold qra at hw
  obtain ⟨x,hx,hq⟩:=List.mem_flatMap.1 hw
  have h1:=(exs_word h hx).1
  have h2:=sft_qlen l.t o x
  unfold qr1 at hq
  rw [List.mem_append] at hq
  rcases hq with hq|hq
  · split at hq
    · cases hq
    · rw [List.mem_singleton.1 hq]; omega
  · split at hq
    · rw [List.mem_singleton.1 hq]; omega
    · cases hq
def bho (o:Ob) (w x:List Int):List Int:=((ans o (cat [w,x])).getD []).drop w.length
theorem bho_none {o:Ob} {w x:List Int} (h:(ans o (cat [w,x])).isSome=false):bho o w x=[]:=by
  unfold bho
  cases hh:ans o (cat [w,x]) with
  |none=>simp
  |some a=>rw [hh] at h; cases h
theorem bho_le {o:Ob} (ho:oval o=0) (w x:List Int):(bho o w x).length≤x.length:=by
  cases hh:(ans o (cat [w,x])).isSome with
  |false=>rw [bho_none hh]; simp
  |true=>
    have:=ans_len (oval_ok ho) hh
    have e:(cat [w,x]).length=w.length+x.length:=by simp [cat]
    unfold bho; rw [List.length_drop]; omega
def inx (l:Ts) (o:Ob) (k:Nat):Bool:= !(nth l.t.nd (sftR l.t o (nth (exs l) k)).1.toNat).lf
def tsN (l:Ts) (o:Ob):Int:=fi (inx l o) 0 (exs l).length
def tsW (l:Ts) (o:Ob):List Int:=nth (exs l) (tsN l o).toNat
def tsM (l:Ts) (o:Ob):Int:=(sftR l.t o (tsW l o)).1
def tsO (l:Ts) (o:Ob):List Int:=bho o (tsW l o) (nth l.t.nd (tsM l o).toNat).sf
def tst (l:Ts) (o:Ob):Ts×List (List Int)×Bool×Int:=
  if tsE l o≠0 then (l,[],false,tsE l o) else if sfE l o≠0 then (l,[],false,sfE l o) else if 0 < (mxW (qra l o)).length then (l,mxW (qra l o),false,0)
  else if tsN l o < 0 then (l,[],true,0) else if 128≤(acL l.t.nd).length then (l,[],false,11)
  else if grE l.t (tsM l o) (tsO l o) (tsW l o)≠0 then (l,[],false,grE l.t (tsM l o) (tsO l o) (tsW l o))
  else (⟨l.i,grT l.t (tsM l o) (tsO l o) (tsW l o)⟩,[],false,0)
section
variable {l:Ts} {o:Ob}
theorem tst_e1 (h:tsE l o≠0):tst l o=(l,[],false,tsE l o):=if_pos h
theorem tst_e2 (h: ¬tsE l o≠0) (h2:sfE l o≠0):tst l o=(l,[],false,sfE l o):=by unfold tst; rw [if_neg h,if_pos h2]
theorem tst_ask (h: ¬tsE l o≠0) (h2: ¬sfE l o≠0) (h3:0 < (mxW (qra l o)).length):tst l o=(l,mxW (qra l o),false,0):=by unfold tst; rw [if_neg h,if_neg h2,if_pos h3]
theorem tst_done (h: ¬tsE l o≠0) (h2: ¬sfE l o≠0) (h3: ¬0 < (mxW (qra l o)).length) (h4:tsN l o < 0):tst l o=(l,[],true,0):=by unfold tst; rw [if_neg h,if_neg h2,if_neg h3,if_pos h4]
theorem tst_lim (h: ¬tsE l o≠0) (h2: ¬sfE l o≠0) (h3: ¬0 < (mxW (qra l o)).length) (h4:0≤tsN l o) (h5:128≤(acL l.t.nd).length):tst l o=(l,[],false,11):=by
  unfold tst; rw [if_neg h,if_neg h2,if_neg h3,if_neg (by omega),if_pos h5]
variable {k:Nat}
theorem tst_ge (h: ¬tsE l o≠0) (h2: ¬sfE l o≠0) (h3: ¬0 < (mxW (qra l o)).length) (h4:tsN l o=(k:Int)) (h5:(acL l.t.nd).length < 128)
    (h6:grE l.t (sftR l.t o (nth (exs l) k)).1 (bho o (nth (exs l) k) (nth l.t.nd (sftR l.t o (nth (exs l) k)).1.toNat).sf) (nth (exs l) k)≠0):
    tst l o=(l,[],false,grE l.t (sftR l.t o (nth (exs l) k)).1 (bho o (nth (exs l) k) (nth l.t.nd (sftR l.t o (nth (exs l) k)).1.toNat).sf) (nth (exs l) k)):=by
  unfold tst tsO tsM tsW; rw [if_neg h,if_neg h2,if_neg h3,if_neg (by omega),if_neg (by omega),h4,Int.toNat_natCast,if_pos h6]
theorem tst_gr (h: ¬tsE l o≠0) (h2: ¬sfE l o≠0) (h3: ¬0 < (mxW (qra l o)).length) (h4:tsN l o=(k:Int)) (h5:(acL l.t.nd).length < 128)
    (h6: ¬grE l.t (sftR l.t o (nth (exs l) k)).1 (bho o (nth (exs l) k) (nth l.t.nd (sftR l.t o (nth (exs l) k)).1.toNat).sf) (nth (exs l) k)≠0):
    tst l o=(⟨l.i,grT l.t (sftR l.t o (nth (exs l) k)).1 (bho o (nth (exs l) k) (nth l.t.nd (sftR l.t o (nth (exs l) k)).1.toNat).sf) (nth (exs l) k)⟩,[],false,0):=by
  unfold tst tsO tsM tsW; rw [if_neg h,if_neg h2,if_neg h3,if_neg (by omega),if_neg (by omega),h4,Int.toNat_natCast,if_neg h6]
end
theorem sftN_node {t:Dt} {o:Ob} {w:List Int} (hv:dvE t=0): ∀ (f n:Nat),Rk t f n→(sftN t o w f n).2.2=0→(sftN t o w f n).2.1=[]→
    0≤(sftN t o w f n).1∧(sftN t o w f n).1 < t.nd.length∧((nth t.nd (sftN t o w f n).1.toNat).lf=false→(ans o (cat [w,(nth t.nd (sftN t o w f n).1.toNat).sf])).isSome=true∧ ¬lxH (nth t.nd (sftN t o w f n).1.toNat).ou (((ans o (cat [w,(nth t.nd (sftN t o w f n).1.toNat).sf])).getD []).drop w.length))
  |0,n,hr,_,_=>absurd hr.pos (by omega)
  |f+1,n,hr,he,hq=>by
    have hlt:=hr.lt hv
    by_cases hl:(nth t.nd n).lf=true
    · rw [sft_leaf hr.pos hl]
      exact ⟨Int.natCast_nonneg _,by show (n:Int) < _; omega,fun h=>by simp only [Int.toNat_natCast] at h; rw [hl] at h; cases h⟩
    · have hl:(nth t.nd n).lf=false:=by simpa using hl
      by_cases h1:wchk (cat [w,(nth t.nd n).sf]) o.i≠0
      · rw [sft_err hr.pos hl h1] at he; exact (h1 he).elim
      · by_cases h2:(ans o (cat [w,(nth t.nd n).sf])).isSome=true
        · by_cases h3:lxH (nth t.nd n).ou (((ans o (cat [w,(nth t.nd n).sf])).getD []).drop w.length)
          · rw [sft_go hr.pos hl h1 h2 h3] at he hq ⊢
            have hin:=nd_in hv hlt hl
            have hm:nth (nth t.nd n).kd (lxN (nth t.nd n).ou (((ans o (cat [w,(nth t.nd n).sf])).getD []).drop w.length))∈(nth t.nd n).kd:=nth_mem (by have:=h3.1; have:=hin.len; omega)
            exact sftN_node hv f _ (hr.step hm (hin.kr _ hm).1) he hq
          · rw [sft_no hr.pos hl h1 h2 h3]
            exact ⟨Int.natCast_nonneg _,by show (n:Int) < _; omega,fun _=>⟨h2,h3⟩⟩
        · have h2:(ans o (cat [w,(nth t.nd n).sf])).isSome=false:=by simpa using h2
          rw [sft_ask hr.pos hl h1 h2] at hq
          have hin:=nd_in hv hlt hl
          have:(cat [w,(nth t.nd n).sf]).length=0:=by rw [show cat [w,(nth t.nd n).sf]=[] from hq]; rfl
          simp only [cat,List.append_nil,List.length_append] at this
          have:=hin.s0
          omega
theorem sft_node {t:Dt} {o:Ob} {w:List Int} (he:(sftR t o w).2.2=0) (hq:(sftR t o w).2.1=[]) (hv:dvE t=0):
    0≤(sftR t o w).1∧(sftR t o w).1 < t.nd.length∧((nth t.nd (sftR t o w).1.toNat).lf=false→(ans o (cat [w,(nth t.nd (sftR t o w).1.toNat).sf])).isSome=true∧ ¬lxH (nth t.nd (sftR t o w).1.toNat).ou (((ans o (cat [w,(nth t.nd (sftR t o w).1.toNat).sf])).getD []).drop w.length)):=by
  unfold sftR at he hq ⊢
  rw [if_neg (by omega)] at he hq ⊢
  by_cases h:wchk w o.i≠0
  · rw [if_pos h] at he; exact (h he).elim
  · rw [if_neg h] at he hq ⊢
    exact sftN_node hv _ _ (rk0 hv) he hq
theorem mx_empty {l:List (List Int)} (h:(mxW l).length=0):l=[]:=by
  cases l with
  |nil=>rfl
  |cons a m=>
    exfalso
    -- a longest word is maximal
    have: ∃ w,w∈(a::m)∧ ∀ u∈(a::m),u.length≤w.length:=by
      have key: ∀ (l:List (List Int)),l≠[]→ ∃ w,w∈l∧ ∀ u∈l,u.length≤w.length:=by
        intro l
        induction l with
        |nil=>intro h; exact (h rfl).elim
        |cons b r ih=>
          intro _
          by_cases hr:r=[]
          · subst hr; exact ⟨b,by simp,by simp⟩
          · obtain ⟨w,h1,h2⟩:=ih hr
            by_cases hb:w.length≤b.length
            · refine ⟨b,by simp,fun u hu=>?_⟩
              rcases List.mem_cons.1 hu with e|e
              · rw [e]; exact Nat.le_refl _
              · have:=h2 u e; omega
            · refine ⟨w,List.mem_cons_of_mem _ h1,fun u hu=>?_⟩
              rcases List.mem_cons.1 hu with e|e
              · rw [e]; omega
              · exact h2 u e
      exact key _ (by simp)
    obtain ⟨w,h1,h2⟩:=this
    have hm:w∈mxW (a::m):=mem_mxW.2 ⟨h1,fun u hu hh=>hp_eq hh (h2 u hu)⟩
    rw [List.length_eq_zero_iff.1 h] at hm
    cases hm
theorem st_node {l:Ts} {o:Ob} (h1: ¬tsE l o≠0) (h2: ¬sfE l o≠0) (h3: ¬0 < (mxW (qra l o)).length) {k:Nat} (hk:k < (exs l).length):
    (sftR l.t o (nth (exs l) k)).2.2=0∧0≤(sftR l.t o (nth (exs l) k)).1∧(sftR l.t o (nth (exs l) k)).1 < l.t.nd.length∧((nth l.t.nd (sftR l.t o (nth (exs l) k)).1.toNat).lf=false→
      (ans o (cat [nth (exs l) k,(nth l.t.nd (sftR l.t o (nth (exs l) k)).1.toNat).sf])).isSome=true∧ ¬lxH (nth l.t.nd (sftR l.t o (nth (exs l) k)).1.toNat).ou (((ans o (cat [nth (exs l) k,(nth l.t.nd (sftR l.t o (nth (exs l) k)).1.toNat).sf])).getD []).drop (nth (exs l) k).length)):=by
  have hv:=(tv_ok (ts_ok (Decidable.not_not.1 h1)).1).2.2.1
  have he:(sftR l.t o (nth (exs l) k)).2.2=0:=fe_zero_iff.1 (Decidable.not_not.1 h2) k (Nat.zero_le _) (by omega)
  have hq:=mx_empty (l:=qra l o) (by omega)
  have hq2:(sftR l.t o (nth (exs l) k)).2.1=[]:=by
    by_cases e:(sftR l.t o (nth (exs l) k)).2.1=[]
    · exact e
    · exfalso
      have hp:0 < (sftR l.t o (nth (exs l) k)).2.1.length:=List.length_pos_iff.2 e
      have:(sftR l.t o (nth (exs l) k)).2.1∈qra l o:=List.mem_flatMap.2 ⟨_,nth_mem hk,by unfold qr1; rw [if_pos hp]; simp⟩
      rw [hq] at this; cases this
  exact ⟨he,sft_node he hq2 hv⟩
theorem qra_known {l:Ts} {o:Ob} (h3: ¬0 < (mxW (qra l o)).length) {k:Nat} (hk:k < (exs l).length):(ans o (nth (exs l) k)).isSome=true:=by
  have hq:=mx_empty (l:=qra l o) (by omega)
  cases e:(ans o (nth (exs l) k)).isSome with
  |true=>rfl
  |false=>
    exfalso
    have:nth (exs l) k∈qra l o:=List.mem_flatMap.2 ⟨_,nth_mem hk,by unfold qr1; rw [if_neg (by rw [e]; decide)]; simp⟩
    rw [hq] at this; cases this
end Go.Proofs.YtmnjchcoigbngabGreat
namespace Go.Proofs.YtmnjchcoigbngabGreat
open Go Go.Proofs
theorem great27_pure (l:Ts) (o:Ob):PureC Tryz.prog 10 [(V.agg [(iV (l.i)),(V.sl (List.map cN (l.t.nd)))]),(V.agg [(iV (o.i)),(V.sl (List.map cT (o.tr)))])] (V.bool (grB l o)):=by
 refine pW Tryz.func10 s10_ok fun hB=>?_
 unfold s10
 dsimp only
 refine W_r (R_box (i:=2) (n:=0) (m:=2) (cs:=[(iV (l.i)),(V.sl (List.map cN (l.t.nd)))]) rfl (congrArg Blk.ver rfl) rfl rfl rfl (R_box (i:=3) (n:=0) (m:=2) (cs:=[(iV (o.i)),(V.sl (List.map cT (o.tr)))]) rfl (congrArg Blk.ver rfl) rfl rfl rfl (R_mv rfl (R_e (W_r (R_fk rfl rfl (R_lk rfl rfl rfl rfl ?_)))))))
 refine R_gtr rfl rfl (R_mv rfl ?_)
 refine Ops_seg 4 (fun T H=>T 3=(V.mp 3 1 0 0)∧T 12=(V.bool ((decide ((4:Int) < (l.i))||(bgT l.t))))∧H 2=(bk 1 26 2 [[(iV (l.i)),(V.sl (List.map cN (l.t.nd)))]])∧H 3=(bk 1 29 2 [[(iV (o.i)),(V.sl (List.map cT (o.tr)))]])∧True) ?_ ?_
 ·
  by_cases g1:(4:Int) < (l.i)
  ·
   refine G_n (edT g1 rfl) (G_n (edT g1 rfl) (G_n (edT g1 rfl) (R_pickT (edT g1 rfl) rfl ?_)))
   exact ⟨rfl,(dborT g1),rfl,rfl,trivial⟩
  ·
   refine G_yes (edF g1 rfl) (R_fk rfl rfl (G_yes (edF g1 rfl) (R_lk rfl rfl rfl rfl (G_yes (edF g1 rfl) (R_callk (great_pure l.t) rfl (R_pickF (edF g1 rfl) rfl ?_))))))
   exact ⟨rfl,(dborF g1),rfl,rfl,trivial⟩
 intro T H ⟨t3,t12,h2,h3,_⟩
 refine R_mv t12 ?_
 refine Ops_seg 5 (fun T H=>T 3=(V.mp 3 1 0 0)∧T 18=(V.bool ((((decide ((4:Int) < (l.i))||(bgT l.t)))||decide ((400:Int) < ((o.tr.length:Nat):Int)))))∧H 2=(bk 1 26 2 [[(iV (l.i)),(V.sl (List.map cN (l.t.nd)))]])∧H 3=(bk 1 29 2 [[(iV (o.i)),(V.sl (List.map cT (o.tr)))]])∧True) ?_ ?_
 ·
  by_cases g2:((decide ((4:Int) < (l.i))||(bgT l.t)))=true
  ·
   refine G_n (ebT g2 rfl) (G_n (ebT g2 rfl) (G_n (ebT g2 rfl) (G_n (ebT g2 rfl) (R_pickT (ebT g2 rfl) rfl ?_))))
   exact ⟨t3,(borT g2),h2,h3,trivial⟩
  ·
   refine G_yes (ebF g2 rfl) (R_fk t3 h3 (G_yes (ebF g2 rfl) (R_lk rfl h3 rfl rfl (G_yes (ebF g2 rfl) (R_len rfl (G_yes (ebF g2 rfl) (R_gtr rfl rfl ?_)))))))
   refine R_pickF (ebF g2 rfl) rfl ?_
   exact ⟨t3,(borF g2),h2,h3,trivial⟩
 intro T H ⟨t3,t18,h2,h3,_⟩
 refine R_mv t18 ?_
 refine Ops_seg 4 (fun T H=>T 23=(V.bool ((((((decide ((4:Int) < (l.i))||(bgT l.t)))||decide ((400:Int) < ((o.tr.length:Nat):Int))))||decide ((oval o)≠(0:Int)))))∧H 2=(bk 1 26 2 [[(iV (l.i)),(V.sl (List.map cN (l.t.nd)))]])∧H 3=(bk 1 29 2 [[(iV (o.i)),(V.sl (List.map cT (o.tr)))]])∧True) ?_ ?_
 ·
  by_cases g3:((((decide ((4:Int) < (l.i))||(bgT l.t)))||decide ((400:Int) < ((o.tr.length:Nat):Int))))=true
  ·
   refine G_n (ebT g3 rfl) (G_n (ebT g3 rfl) (G_n (ebT g3 rfl) (R_pickT (ebT g3 rfl) rfl ?_)))
   exact ⟨(borT g3),h2,h3,trivial⟩
  ·
   refine G_yes (ebF g3 rfl) (R_lk t3 h3 rfl rfl (G_yes (ebF g3 rfl) (R_callk (roval_pure o) rfl (G_yes (ebF g3 rfl) (R_neq rfl rfl (R_pickF (ebF g3 rfl) rfl ?_))))))
   exact ⟨(borF g3),h2,h3,trivial⟩
 intro T H ⟨t23,h2,h3,_⟩
 refine R_mv t23 (R_e (W_ret ?_))
 refine Ret_1 (@rfl V (V.bool ((((((decide ((4:Int) < (l.i))||(bgT l.t)))||decide ((400:Int) < ((o.tr.length:Nat):Int))))||decide ((oval o)≠(0:Int)))))) (fz_bool ?_)
 · unfold grB; simp [Bool.decide_or,Bool.or_assoc,show ((400:Int) < ((o.tr.length:Nat):Int))=(400 < o.tr.length) from propext (by omega)]
def r11_1:List SO:=[
 sO 22 (.call false 12 [.c (.int .i64 2)]),
 qM 21 22,
 qE 23 21 0,
 qE 24 21 1,
 sO 1 (.alloc 26 [.int .i64 0,.nilsl]),
 sN (.store 2 (.t 1) (.t 23)),
 qM 2 24]
def r11_2:List SO:=[
 qL 26 2 1,
 sO 27 (.build [.int .i64 0,.nilsl] [(0,1,.c (.int .i64 2))]),
 sO 28 (.call false 14 [.t 26,.t 27]),
 qM 25 28,
 qE 29 25 0,
 qE 30 25 1,
 qE 31 25 2,
 qE 32 25 3,
 sO 3 (.alloc 26 [.int .i64 0,.nilsl]),
 sN (.store 2 (.t 3) (.t 29)),
 qM 4 30,
 qM 5 31,
 qM 6 32]
def r11_3:List SO:=[
 sO 33 (.bslice 3 1 false [.int .i64 0] 1 [(0,.c (.int .i64 1))]),
 sO 34 (.bslice 3 1 false [.int .i64 0] 1 [(0,.c (.int .i64 0))]),
 sO 35 (.build [.nilsl,.nilsl] [(0,1,.t 33),(1,1,.t 34)]),
 sO 36 (.bslice 3 1 false [.int .i64 0] 2 [(0,.c (.int .i64 0)),(1,.c (.int .i64 1))]),
 sO 37 (.bslice 3 1 false [.int .i64 0] 2 [(0,.c (.int .i64 1)),(1,.c (.int .i64 2))]),
 sO 38 (.build [.nilsl,.nilsl] [(0,1,.t 36),(1,1,.t 37)]),
 sO 39 (.bslice 84 2 false [.nilsl,.nilsl] 2 [(0,.t 35),(1,.t 38)]),
 sO 40 (.build [.int .i64 0,.nilsl] [(0,1,.c (.int .i64 2)),(1,1,.t 39)]),
 sO 7 (.alloc 29 [.int .i64 0,.nilsl]),
 sN (.store 2 (.t 7) (.t 40))]
def r11_4:List SO:=[
 qL 42 2 1,
 qL 43 2 7,
 sO 44 (.call false 14 [.t 42,.t 43]),
 qM 41 44,
 qE 45 41 0,
 qE 46 41 1,
 qE 47 41 2,
 qE 48 41 3,
 sO 8 (.alloc 26 [.int .i64 0,.nilsl]),
 sN (.store 2 (.t 8) (.t 45)),
 qM 9 46,
 qM 10 47,
 qM 11 48]
def r11_5:List SO:=[
 qL 50 2 1,
 qL 51 2 7,
 sO 52 (.call false 18 [.t 50,.t 51]),
 qM 49 52,
 qE 53 49 0,
 qE 54 49 1,
 sO 12 (.alloc 48 [.int .i64 0,.int .i64 0,.nilsl,.nilsl,.nilsl]),
 sN (.store 5 (.t 12) (.t 53)),
 qM 13 54]
def r11_6:List SO:=[
 qL 56 2 1,
 qL 57 2 7,
 sO 58 (.bslice 3 1 false [.int .i64 0] 1 [(0,.c (.int .i64 1))]),
 sO 59 (.build [.nilsl,.int .i64 0,.nilsl] [(1,1,.c (.int .i64 0)),(2,1,.t 58)]),
 sO 60 (.call false 21 [.t 56,.t 57,.t 59]),
 qM 55 60,
 qE 61 55 0,
 qE 62 55 1,
 qE 63 55 2,
 sO 14 (.alloc 26 [.int .i64 0,.nilsl]),
 sN (.store 2 (.t 14) (.t 61)),
 qM 15 62,
 qM 16 63]
def r11_7:List SO:=[
 qL 65 2 14,
 qL 66 2 7,
 sO 67 (.call false 14 [.t 65,.t 66]),
 qM 64 67,
 qE 68 64 0,
 qE 69 64 1,
 qE 70 64 2,
 qE 71 64 3,
 sO 17 (.alloc 26 [.int .i64 0,.nilsl]),
 sN (.store 2 (.t 17) (.t 68)),
 qM 18 69,
 qM 19 70,
 qM 20 71]
def r11_8:List SO:=[
 qM 72 2,
 qC 73 .neq 72 0,
 qM 74 73,
 ⟨some (74,false),some 75,.mv (.t 6)⟩,
 ⟨some (74,false),some 76,.bin .neq (.t 75) (.c (.int .i64 0))⟩,
 sO 77 (.pick (.t 74) (.c (.bool true)) (.t 76)),
 qM 78 77,
 ⟨some (78,false),some 79,.mv (.t 5)⟩,
 sO 80 (.pick (.t 78) (.c (.bool true)) (.t 79)),
 qM 81 80,
 ⟨some (81,false),some 82,.mv (.t 11)⟩,
 ⟨some (81,false),some 83,.bin .neq (.t 82) (.c (.int .i64 0))⟩,
 sO 84 (.pick (.t 81) (.c (.bool true)) (.t 83)),
 qM 85 84,
 ⟨some (85,false),some 86,.mv (.t 10)⟩,
 ⟨some (85,false),some 87,.un .not (.t 86)⟩,
 sO 88 (.pick (.t 85) (.c (.bool true)) (.t 87)),
 qM 89 88,
 ⟨some (89,false),some 90,.mv (.t 9)⟩,
 ⟨some (89,false),some 91,.len (.t 90)⟩,
 ⟨some (89,false),some 92,.bin .neq (.t 91) (.c (.int .i64 0))⟩,
 sO 93 (.pick (.t 89) (.c (.bool true)) (.t 92)),
 qM 94 93,
 ⟨some (94,false),some 95,.mv (.t 13)⟩,
 ⟨some (94,false),some 96,.bin .neq (.t 95) (.c (.int .i64 0))⟩,
 sO 97 (.pick (.t 94) (.c (.bool true)) (.t 96)),
 qM 98 97,
 ⟨some (98,false),some 99,.mv (.t 15)⟩,
 ⟨some (98,false),some 100,.len (.t 99)⟩,
 ⟨some (98,false),some 101,.bin .neq (.t 100) (.c (.int .i64 0))⟩,
 sO 102 (.pick (.t 98) (.c (.bool true)) (.t 101)),
 qM 103 102,
 ⟨some (103,false),some 104,.mv (.t 16)⟩,
 ⟨some (103,false),some 105,.bin .neq (.t 104) (.c (.int .i64 0))⟩,
 sO 106 (.pick (.t 103) (.c (.bool true)) (.t 105)),
 qM 107 106,
 ⟨some (107,false),some 108,.mv (.t 20)⟩,
 ⟨some (107,false),some 109,.bin .neq (.t 108) (.c (.int .i64 0))⟩,
 sO 110 (.pick (.t 107) (.c (.bool true)) (.t 109))]
def r11_10:List SO:=[
 qM 111 4,
 sO 112 (.bslice 3 1 false [.int .i64 0] 1 [(0,.c (.int .i64 0))]),
 sO 113 (.bslice 3 1 false [.int .i64 0] 1 [(0,.c (.int .i64 1))]),
 sO 114 (.bslice 54 1 false [.nilsl] 2 [(0,.t 112),(1,.t 113)]),
 sO 115 (.call false 17 [.t 111,.t 114]),
 qM 116 115,
 ⟨some (116,true),some 117,.fld 0 (.t 12)⟩,
 ⟨some (116,true),some 118,.fld 2 (.t 117)⟩,
 ⟨some (116,true),some 119,.load false 1 (.t 118)⟩,
 ⟨some (116,true),some 120,.len (.t 119)⟩,
 ⟨some (116,true),some 121,.bin .eql (.t 120) (.c (.int .i64 1))⟩,
 sO 122 (.pick (.t 116) (.t 121) (.c (.bool false))),
 qM 123 122,
 ⟨some (123,true),some 124,.fld 1 (.t 14)⟩,
 ⟨some (123,true),some 125,.fld 0 (.t 124)⟩,
 ⟨some (123,true),some 126,.load false 1 (.t 125)⟩,
 ⟨some (123,true),some 127,.len (.t 126)⟩,
 ⟨some (123,true),some 128,.bin .eql (.t 127) (.c (.int .i64 3))⟩,
 sO 129 (.pick (.t 123) (.t 128) (.c (.bool false))),
 qM 130 129,
 ⟨some (130,true),some 131,.mv (.t 18)⟩,
 ⟨some (130,true),some 132,.bslice 3 1 false [.int .i64 0] 2 [(0,.c (.int .i64 1)),(1,.c (.int .i64 1))]⟩,
 ⟨some (130,true),some 133,.bslice 3 1 false [.int .i64 0] 3 [(0,.c (.int .i64 0)),(1,.c (.int .i64 0)),(2,.c (.int .i64 1))]⟩,
 ⟨some (130,true),some 134,.bslice 3 1 false [.int .i64 0] 3 [(0,.c (.int .i64 0)),(1,.c (.int .i64 1)),(2,.c (.int .i64 1))]⟩,
 ⟨some (130,true),some 135,.bslice 54 1 false [.nilsl] 3 [(0,.t 132),(1,.t 133),(2,.t 134)]⟩,
 ⟨some (130,true),some 136,.call false 17 [.t 131,.t 135]⟩,
 sO 137 (.pick (.t 130) (.t 136) (.c (.bool false))),
 qM 0 137]
def s11:SF:=⟨138,[.tmp 0],.seq (.reg [sO 0 (.mv (.c (.bool false)))]) (.seq (.reg r11_1) (.seq (.reg r11_2) (.seq (.reg r11_3) (.seq (.reg r11_4) (.seq (.reg r11_5) (.seq (.reg r11_6) (.seq (.reg r11_7) (.seq (.seq (.reg r11_8) (.cond (.t 110) (.seq (.reg [sO 0 (.mv (.c (.bool false)))]) (.ret)) (.skip))) (.seq (.reg r11_10) (.ret))))))))))⟩
theorem s11_ok:slimF Tryz.prog ⟨[107,108,109,116,120,126,127,167,169,170,171,172,194,196,198,209,222,226],[]⟩ Tryz.f11=some s11:=by kernel_rfl
def s12:SF:=⟨14,[.cell 2 true 2,.tmp 3],.seq (.reg [sO 2 (.alloc 26 [.int .i64 0,.nilsl]),qI 3 0]) (.seq (.seq (.reg [qM 4 0,qC 5 .lss 4 1,qM 6 5,⟨some (6,false),some 7,.mv (.t 0)⟩,⟨some (6,false),some 8,.bin .gtr (.t 7) (.c (.int .i64 64))⟩,sO 9 (.pick (.t 6) (.c (.bool true)) (.t 8))]) (.cond (.t 9) (.seq (.reg [sO 10 (.build [.int .i64 0,.nilsl] []),sN (.store 2 (.t 2) (.t 10)),qI 3 2]) (.ret)) (.skip))) (.seq (.reg [qM 11 0,sO 12 (.call false 42 []),sO 13 (.build [.int .i64 0,.nilsl] [(0,1,.t 11),(1,1,.t 12)]),sN (.store 2 (.t 2) (.t 13)),qI 3 0]) (.ret)))⟩
theorem s12_ok:slimF Tryz.prog ⟨[107,108,109,116,120,126,127,167,169,170,171,172,194,196,198,209,222,226],[]⟩ Tryz.f12=some s12:=by kernel_rfl
def s42:SF:=⟨4,[.cell 0 true 1],.seq (.reg [sO 0 (.alloc 24 [.nilsl])]) (.seq (.reg [sO 1 (.build [.bool false,.nilsl,.nilsl,.nilsl,.nilsl] [(0,1,.c (.bool true))]),sO 2 (.bslice 99 5 false [.bool false,.nilsl,.nilsl,.nilsl,.nilsl] 1 [(0,.t 1)]),sO 3 (.build [.nilsl] [(0,1,.t 2)]),sN (.store 1 (.t 0) (.t 3))]) (.ret))⟩
theorem s42_ok:slimF Tryz.prog ⟨[107,108,109,116,120,126,127,167,169,170,171,172,194,196,198,209,222,226],[]⟩ Tryz.f42=some s42:=by kernel_rfl
theorem dnew_pure:PureC Tryz.prog 42 [] (V.agg [(V.sl (List.map cN ([lfN []])))]):=by
 refine pW Tryz.func42 s42_ok fun hB=>?_
 unfold s42
 dsimp only
 refine W_r (R_alloc (i:=0) (n:=0) (m:=1) rfl (congrArg Blk.ver rfl) rfl (R_e (W_r (R_build rfl rfl (R_bslice rfl rfl (R_build rfl rfl (R_sk rfl rfl rfl rfl rfl rfl rfl rfl rfl ?_)))))))
 refine R_e (W_ret ?_)
 refine RetC_1 (resV_c (u:=(V.agg [(V.sl [[(V.bool true),V.nilsl,V.nilsl,V.nilsl,V.nilsl]])])) rfl (@rfl Blk (bk 1 24 1 [[(V.sl [[(V.bool true),V.nilsl,V.nilsl,V.nilsl,V.nilsl]])]])) (lB oB rfl rfl)) (fz_agg1 ?_)
 · simp [fzv,lfN]
theorem tnew_pure (n:Int):PureC Tryz.prog 12 [(iV (n))] (V.tup [(V.agg [(iV ((nwT n).i)),(V.sl (List.map cN ((nwT n).t.nd)))]),(iV (nwE n))]):=by
 refine pW Tryz.func12 s12_ok fun hB=>?_
 unfold s12
 dsimp only
 refine W_r (R_alloc (i:=2) (n:=0) (m:=2) rfl (congrArg Blk.ver rfl) rfl (R_mv rfl (R_e (W_seq_seq (W_r (R_mv rfl (R_lss rfl rfl ?_)))))))
 refine R_mv rfl ?_
 refine Ops_seg 3 (fun T H=>T 0=(iV (n))∧T 2=(V.mp 2 1 0 0)∧T 9=(V.bool (decide (((n) < (1:Int))∨((64:Int) < (n)))))∧H 2=(bk 1 26 2 [[(iV (0:Int)),V.nilsl]])∧True) ?_ ?_
 ·
  by_cases g1:(n) < (1:Int)
  ·
   refine G_n (edT g1 rfl) (G_n (edT g1 rfl) (R_pickT (edT g1 rfl) rfl ?_))
   exact ⟨rfl,rfl,(dec_orT g1),rfl,trivial⟩
  ·
   refine G_yes (edF g1 rfl) (R_mv rfl (G_yes (edF g1 rfl) (R_gtr rfl rfl (R_pickF (edF g1 rfl) rfl ?_))))
   exact ⟨rfl,rfl,(dec_orF g1),rfl,trivial⟩
 intro T H ⟨t0,t2,t9,h2,_⟩
 refine R_e ?_
 refine W_seq_if t9 (fun c2=>?_) fun c2=>?_
 ·
  refine W_seq_seq (W_r (R_build rfl rfl (R_sk t2 rfl rfl h2 rfl rfl rfl rfl rfl (R_mv rfl (R_e (W_seq_ret ?_))))))
  refine RetC_2 (resV_c (u:=(V.agg [(iV (0:Int)),V.nilsl])) t2 (@rfl Blk (bk 1 26 2 [[(iV (0:Int)),V.nilsl]])) (lB oB rfl rfl)) (resV_t (@rfl V (iV (2:Int)))) (fz_agg2 (fz_int ?_) (fz_nil ?_)) (fz_int ?_)
  · unfold nwT; rw [if_pos (by omega)]
  · unfold nwT; rw [if_pos (by omega)]
  · unfold nwE; rw [if_pos (by omega)]
 refine W_seq_skip (W_r (R_mv t0 (R_callk (dnew_pure) rfl (R_build rfl rfl (R_sk t2 rfl rfl h2 rfl rfl rfl rfl rfl (R_mv rfl (R_e ?_)))))))
 refine W_ret ?_
 refine RetC_2 (resV_c (u:=(V.agg [(iV (n)),(V.sl (List.map cN ([lfN []])))])) t2 (@rfl Blk (bk 1 26 2 [[(iV (n)),(V.sl (List.map cN ([lfN []])))]])) (lB oB rfl rfl)) (resV_t (@rfl V (iV (0:Int)))) (fz_agg2 (fz_int ?_) (fz_sl ?_ (fun _=>by simp))) (fz_int ?_)
 · unfold nwT; rw [if_neg (by omega)]
 · unfold nwT; rw [if_neg (by omega)]
 · unfold nwE; rw [if_neg (by omega)]
def r14_5:List SO:=[
 qL 27 4 8,
 sO 28 (.call false 45 [.t 27]),
 qM 26 28,
 qE 29 26 0,
 qE 30 26 1,
 qE 31 26 2,
 qM 10 29,
 qM 11 30,
 qM 12 31]
def r14_16:List SO:=[
 qF 58 1 2,
 qL 59 1 58,
 qF 60 1 14,
 ql 61 60,
 qL 62 4 8,
 qF 63 0 14,
 ql 64 63,
 qF 65 1 2,
 qF 66 0 65,
 ql 67 66,
 qF 68 1 14,
 ql 69 68,
 qA 70 5 67 69,
 qF 71 2 70,
 ql 72 71,
 sO 73 (.call false 49 [.t 62,.t 64,.t 72]),
 qF 74 0 14,
 ql 75 74,
 sO 76 (.call false 48 [.t 59,.t 61,.t 73,.t 75]),
 qM 57 76,
 qE 77 57 0,
 qE 78 57 1,
 sO 15 (.alloc 24 [.nilsl]),
 sN (.store 1 (.t 15) (.t 77)),
 qM 16 78]
def r14_19:List SO:=[
 qF 83 0 2,
 ql 84 83,
 qL 85 1 15,
 sO 86 (.build [.int .i64 0,.nilsl] [(0,1,.t 84),(1,1,.t 85)]),
 sN (.store 2 (.t 4) (.t 86)),
 sO 5 (.mv (.c (.nilsl))),
 sO 6 (.mv (.c (.bool false))),
 qI 7 0]
def b14_0:SC:=.seq (.reg [qP 44 .lss 43 42]) (.seq (.cond (.t 44) (.skip) (.exit 0)) (.seq (.block 1 (.seq (.reg [qA 45 2 41 43,qL 46 2 45,sO 14 (.alloc 93 [.nilsl,.int .i64 0]),sN (.store 2 (.t 14) (.t 46))]) (.seq (.seq (.reg [qL 47 4 8,qF 48 1 14,ql 49 48,sO 50 (.call false 46 [.t 47,.t 49])]) (.cond (.t 50) (.exit 1) (.skip))) (.seq (.seq (.reg [qF 51 1 2,qL 52 1 51,sO 53 (.call false 47 [.t 52]),qN 54 53,qC 55 .geq 54 128]) (.cond (.t 55) (.seq (.reg [qL 56 2 2,sN (.store 2 (.t 4) (.t 56)),sO 5 (.mv (.c (.nilsl))),sO 6 (.mv (.c (.bool false))),qI 7 11]) (.ret)) (.skip))) (.seq (.dreg [15] r14_16) (.seq (.seq (.reg [qM 79 16,qC 80 .neq 79 0]) (.cond (.t 80) (.seq (.reg [qL 81 2 2,qM 82 16,sN (.store 2 (.t 4) (.t 81)),sO 5 (.mv (.c (.nilsl))),sO 6 (.mv (.c (.bool false))),qM 7 82]) (.ret)) (.skip))) (.seq (.reg r14_19) (.ret)))))))) (.reg [qC 87 .add 43 1,qM 43 87])))
def s14:SF:=⟨89,[.cell 4 true 2,.tmp 5,.tmp 6,.tmp 7],.seq (.reg [sO 2 (.box 26 2 (.t 0)),sO 3 (.box 29 2 (.t 1)),sO 4 (.alloc 26 [.int .i64 0,.nilsl]),sO 5 (.mv (.c (.nilsl))),sO 6 (.mv (.c (.bool false))),qI 7 0]) (.seq (.reg [qL 17 2 2,qL 18 2 3,sO 19 (.build [.int .i64 0,.nilsl,.int .i64 0,.nilsl] [(0,2,.t 17),(2,2,.t 18)]),sO 8 (.alloc 87 [.int .i64 0,.nilsl,.int .i64 0,.nilsl]),sN (.store 4 (.t 8) (.t 19))]) (.seq (.seq (.reg [qL 20 4 8,sO 21 (.call false 44 [.t 20]),qM 9 21]) (.seq (.reg [qM 22 9,qC 23 .neq 22 0]) (.cond (.t 23) (.seq (.reg [qL 24 2 2,qM 25 9,sN (.store 2 (.t 4) (.t 24)),sO 5 (.mv (.c (.nilsl))),sO 6 (.mv (.c (.bool false))),qM 7 25]) (.ret)) (.skip)))) (.seq (.reg r14_5) (.seq (.seq (.reg [qM 32 12,qC 33 .neq 32 0]) (.cond (.t 33) (.seq (.reg [qL 34 2 2,qM 35 12,sN (.store 2 (.t 4) (.t 34)),sO 5 (.mv (.c (.nilsl))),sO 6 (.mv (.c (.bool false))),qM 7 35]) (.ret)) (.skip))) (.seq (.seq (.reg [qM 36 11,qN 37 36,qC 38 .gtr 37 0]) (.cond (.t 38) (.seq (.reg [qL 39 2 2,qM 40 11,sN (.store 2 (.t 4) (.t 39)),qM 5 40,sO 6 (.mv (.c (.bool false))),qI 7 0]) (.ret)) (.skip))) (.seq (.seq (.reg [qM 41 10,qN 42 41,qI 43 0]) (.block 0 (.loop b14_0))) (.seq (.reg [qL 88 2 2,sN (.store 2 (.t 4) (.t 88)),sO 5 (.mv (.c (.nilsl))),sO 6 (.mv (.c (.bool true))),qI 7 0]) (.ret))))))))⟩
theorem s14_ok:slimF Tryz.prog ⟨[107,108,109,116,120,126,127,167,169,170,171,172,194,196,198,209,222,226],[]⟩ Tryz.f14=some s14:=by kernel_rfl
def r44_1:List SO:=[
 qF 10 0 1,
 qF 11 0 10,
 ql 12 11,
 qC 13 .lss 12 1,
 qM 14 13,
 ⟨some (14,false),some 15,.fld 0 (.t 1)⟩,
 ⟨some (14,false),some 16,.fld 0 (.t 15)⟩,
 ⟨some (14,false),some 17,.load false 1 (.t 16)⟩,
 ⟨some (14,false),some 18,.bin .gtr (.t 17) (.c (.int .i64 64))⟩,
 sO 19 (.pick (.t 14) (.c (.bool true)) (.t 18))]
def r44_10:List SO:=[
 qF 36 1 7,
 ql 37 36,
 qF 38 0 1,
 qF 39 0 38,
 ql 40 39,
 sO 41 (.call false 100 [.t 37,.t 40]),
 qM 8 41]
def r44_13:List SO:=[
 qF 45 2 7,
 ql 46 45,
 qF 47 0 1,
 qF 48 0 47,
 ql 49 48,
 sO 50 (.call false 100 [.t 46,.t 49]),
 qM 9 50]
def r44_18:List SO:=[
 qM 58 5,
 qM 59 58,
 ⟨some (59,false),some 60,.fld 1 (.t 7)⟩,
 ⟨some (59,false),some 61,.load false 1 (.t 60)⟩,
 ⟨some (59,false),some 62,.len (.t 61)⟩,
 ⟨some (59,false),some 63,.bin .eql (.t 62) (.c (.int .i64 0))⟩,
 sO 64 (.pick (.t 59) (.c (.bool true)) (.t 63)),
 qM 5 64]
def b44_0:SC:=.seq (.reg [qP 33 .lss 32 31]) (.seq (.cond (.t 33) (.skip) (.exit 0)) (.seq (.block 1 (.seq (.reg [qA 34 5 30 32,qL 35 5 34,sO 7 (.alloc 99 [.bool false,.nilsl,.nilsl,.nilsl,.nilsl]),sN (.store 5 (.t 7) (.t 35))]) (.seq (.seq (.reg r44_10) (.seq (.reg [qM 42 8,qC 43 .neq 42 0]) (.cond (.t 43) (.seq (.reg [qM 44 8,qM 2 44]) (.ret)) (.skip)))) (.seq (.seq (.reg r44_13) (.seq (.reg [qM 51 9,qC 52 .neq 51 0]) (.cond (.t 52) (.seq (.reg [qM 53 9,qM 2 53]) (.ret)) (.skip)))) (.seq (.reg [qF 54 0 7,ql 55 54]) (.cond (.t 55) (.seq (.reg [qM 56 4,qC 57 .add 56 1,qM 4 57]) (.reg r44_18)) (.skip))))))) (.reg [qC 65 .add 32 1,qM 32 65])))
def r44_24:List SO:=[
 qF 73 0 1,
 qF 74 0 73,
 ql 75 74,
 qF 76 2 1,
 qF 77 0 76,
 ql 78 77,
 qP 79 .neq 75 78,
 qM 72 79]
def s44:SF:=⟨80,[.tmp 2],.seq (.reg [sO 1 (.box 87 4 (.t 0)),qI 2 0]) (.seq (.seq (.reg r44_1) (.cond (.t 19) (.seq (.reg [qI 2 2]) (.ret)) (.skip))) (.seq (.seq (.reg [qF 20 0 1,qF 21 1 20,qL 22 1 21,sO 23 (.call false 99 [.t 22]),qM 3 23]) (.seq (.reg [qM 24 3,qC 25 .neq 24 0]) (.cond (.t 25) (.seq (.reg [qM 26 3,qM 2 26]) (.ret)) (.skip)))) (.seq (.reg [qI 4 0,sO 5 (.mv (.c (.bool false)))]) (.seq (.seq (.reg [qF 27 0 1,qF 28 1 27,qF 29 0 28,ql 30 29,qN 31 30,qI 32 0]) (.block 0 (.loop b44_0))) (.seq (.block 2 (.seq (.reg [qM 67 5,sO 68 (.un .not (.t 67)),qM 66 68]) (.cond (.t 66) (.seq (.reg [qI 2 1]) (.ret)) (.seq (.reg [qM 70 4,qC 71 .gtr 70 128,qM 69 71]) (.cond (.t 69) (.seq (.reg [qI 2 11]) (.ret)) (.seq (.reg r44_24) (.cond (.t 72) (.seq (.reg [qI 2 15]) (.ret)) (.skip)))))))) (.seq (.reg [qI 2 0]) (.ret)))))))⟩
theorem s44_ok:slimF Tryz.prog ⟨[107,108,109,116,120,126,127,167,169,170,171,172,194,196,198,209,222,226],[]⟩ Tryz.f44=some s44:=by kernel_rfl
def b99_0:SC:=.seq (.reg [qP 21 .lss 20 19]) (.seq (.cond (.t 21) (.skip) (.exit 1)) (.seq (.block 2 (.seq (.reg [qA 22 5 18 20,qL 23 5 22,sO 4 (.alloc 99 [.bool false,.nilsl,.nilsl,.nilsl,.nilsl]),sN (.store 5 (.t 4) (.t 23))]) (.seq (.reg [qI 5 0]) (.seq (.seq (.reg [qF 24 0 4,ql 25 24]) (.cond (.t 25) (.reg [qL 26 5 4,sO 27 (.call false 149 [.t 26]),qM 5 27]) (.reg [qL 28 5 4,qF 29 0 1,ql 30 29,qN 31 30,sO 32 (.call false 150 [.t 28,.t 31]),qM 5 32]))) (.seq (.reg [qM 33 5,qC 34 .neq 33 0]) (.cond (.t 34) (.seq (.reg [qM 35 5,qM 2 35]) (.ret)) (.skip))))))) (.reg [qC 36 .add 20 1,qM 20 36])))
def s99:SF:=⟨48,[.tmp 2],.seq (.reg [sO 1 (.box 24 1 (.t 0)),qI 2 0]) (.seq (.block 0 (.seq (.reg [qF 8 0 1,ql 9 8,qN 10 9,qC 11 .eql 10 0,qM 7 11]) (.cond (.t 7) (.seq (.reg [qI 2 19]) (.ret)) (.seq (.reg [qF 13 0 1,ql 14 13,qN 15 14,qC 16 .gtr 15 4096,qM 12 16]) (.cond (.t 12) (.seq (.reg [qI 2 11]) (.ret)) (.skip)))))) (.seq (.seq (.reg [qF 17 0 1,ql 18 17,qN 19 18,qI 20 0]) (.block 1 (.loop b99_0))) (.seq (.seq (.reg [qL 37 1 1,sO 38 (.call false 151 [.t 37]),sO 39 (.un .not (.t 38))]) (.cond (.t 39) (.seq (.reg [qI 2 1]) (.ret)) (.skip))) (.seq (.seq (.reg [qL 40 1 1,sO 41 (.call false 102 [.t 40]),qM 6 41]) (.seq (.reg [qM 42 6,sO 43 (.call false 101 [.t 42]),qN 44 43,qM 45 6,qN 46 45,qP 47 .neq 44 46]) (.cond (.t 47) (.seq (.reg [qI 2 7]) (.ret)) (.skip)))) (.seq (.reg [qI 2 0]) (.ret))))))⟩
theorem s99_ok:slimF Tryz.prog ⟨[107,108,109,116,120,126,127,167,169,170,171,172,194,196,198,209,222,226],[]⟩ Tryz.f99=some s99:=by kernel_rfl
def s101:SF:=⟨5,[.tmp 2],.seq (.reg [sO 2 (.mv (.c (.nilsl)))]) (.seq (.reg [qM 3 0,sO 4 (.call false 122 [.t 3,.c (.fn 155 [] [])]),qM 2 4]) (.ret))⟩
theorem s101_ok:slimF Tryz.prog ⟨[107,108,109,116,120,126,127,167,169,170,171,172,194,196,198,209,222,226],[]⟩ Tryz.f101=some s101:=by kernel_rfl
def b122_0:SC:=.seq (.reg [qP 19 .lss 18 17]) (.seq (.cond (.t 19) (.skip) (.exit 0)) (.seq (.block 1 (.seq (.reg [qM 20 18,qA 21 1 16 18,ql 22 21,qM 6 20,qM 7 22]) (.reg [qM 23 5,qM 24 6,qM 25 7,sO 26 (.call false 159 [.t 25]),qA 27 1 23 24,sN (.store 1 (.t 27) (.t 26))]))) (.reg [qC 28 .add 18 1,qM 18 28])))
def s122:SF:=⟨30,[.tmp 4],.seq (.reg [sO 3 (.box 150 1 (.t 1)),sO 4 (.mv (.c (.nilsl)))]) (.seq (.reg [qM 8 0,sO 9 (.call true 170 [.t 8]),qM 5 9]) (.seq (.reg [qM 10 5,ql 11 3,sO 12 (.call true 171 [.t 10,.t 11])]) (.seq (.reg [qM 13 5,sO 14 (.mkf 173 [.t 3]),sO 15 (.call true 172 [.t 13,.t 14]),qM 5 15]) (.seq (.seq (.reg [qM 16 5,qN 17 16,qI 18 0]) (.block 0 (.loop b122_0))) (.seq (.reg [qM 29 5,qM 4 29]) (.ret))))))⟩
theorem s122_ok:slimF Tryz.prog ⟨[107,108,109,116,120,126,127,167,169,170,171,172,194,196,198,209,222,226],[]⟩ Tryz.f122=some s122:=by kernel_rfl
def s123:SF:=⟨8,[.tmp 4],.seq (.reg [qI 4 0]) (.seq (.reg [qM 5 0,qM 6 1,sO 7 (.call false 174 [.t 5,.t 6]),qM 4 7]) (.ret))⟩
theorem s123_ok:slimF Tryz.prog ⟨[107,108,109,116,120,126,127,167,169,170,171,172,194,196,198,209,222,226],[]⟩ Tryz.f123=some s123:=by kernel_rfl
def b174_0:SC:=.seq (.reg [qP 12 .lss 11 10]) (.seq (.cond (.t 12) (.skip) (.exit 0)) (.seq (.block 1 (.seq (.reg [qM 13 11,qA 14 1 9 11,ql 15 14,qM 5 13,qM 6 15]) (.seq (.seq (.reg [qM 16 5,qM 17 1,qN 18 17,qP 19 .geq 16 18]) (.cond (.t 19) (.seq (.reg [qI 4 1]) (.ret)) (.skip))) (.seq (.reg [qM 20 1,qM 21 5,qA 22 1 20 21,ql 23 22,qM 7 23]) (.seq (.reg [qM 24 6,qM 25 7,sO 26 (.call false 188 [.t 24,.t 25]),qM 8 26]) (.seq (.reg [qM 27 8,qC 28 .neq 27 0]) (.cond (.t 28) (.seq (.reg [qM 29 8,qM 4 29]) (.ret)) (.skip)))))))) (.reg [qC 30 .add 11 1,qM 11 30])))
def s174:SF:=⟨36,[.tmp 4],.seq (.reg [qI 4 0]) (.seq (.seq (.reg [qM 9 0,qN 10 9,qI 11 0]) (.block 0 (.loop b174_0))) (.seq (.seq (.reg [qM 31 0,qN 32 31,qM 33 1,qN 34 33,qP 35 .lss 32 34]) (.cond (.t 35) (.seq (.reg [sO 4 (.mv (.c (.int .i64 (-1))))]) (.ret)) (.skip))) (.seq (.reg [qI 4 0]) (.ret))))⟩
theorem s174_ok:slimF Tryz.prog ⟨[107,108,109,116,120,126,127,167,169,170,171,172,194,196,198,209,222,226],[]⟩ Tryz.f174=some s174:=by kernel_rfl
def s188:SF:=⟨20,[.tmp 4],.seq (.reg [qI 4 0]) (.seq (.reg [qM 7 0,sO 8 (.call false 208 [.t 7]),qM 5 8]) (.seq (.reg [qM 9 1,sO 10 (.call false 208 [.t 9]),qM 6 10]) (.seq (.seq (.reg [qM 11 5]) (.cond (.t 11) (.seq (.seq (.reg [qM 12 6]) (.cond (.t 12) (.seq (.reg [qI 4 0]) (.ret)) (.skip))) (.seq (.reg [sO 4 (.mv (.c (.int .i64 (-1))))]) (.ret))) (.skip))) (.seq (.seq (.reg [qM 13 6]) (.cond (.t 13) (.seq (.reg [qI 4 1]) (.ret)) (.skip))) (.seq (.seq (.reg [qM 14 0,qM 15 1,qP 16 .lss 14 15]) (.cond (.t 16) (.seq (.reg [sO 4 (.mv (.c (.int .i64 (-1))))]) (.ret)) (.skip))) (.seq (.seq (.reg [qM 17 0,qM 18 1,qP 19 .gtr 17 18]) (.cond (.t 19) (.seq (.reg [qI 4 1]) (.ret)) (.skip))) (.seq (.reg [qI 4 0]) (.ret))))))))⟩
theorem s188_ok:slimF Tryz.prog ⟨[107,108,109,116,120,126,127,167,169,170,171,172,194,196,198,209,222,226],[]⟩ Tryz.f188=some s188:=by kernel_rfl
def s208:SF:=⟨6,[.tmp 2],.seq (.reg [sO 2 (.mv (.c (.bool false)))]) (.seq (.reg [qM 3 0,qM 4 0,qP 5 .neq 3 4,qM 2 5]) (.ret))⟩
theorem s208_ok:slimF Tryz.prog ⟨[107,108,109,116,120,126,127,167,169,170,171,172,194,196,198,209,222,226],[]⟩ Tryz.f208=some s208:=by kernel_rfl
theorem isnan_pure (n:Int):PureC Tryz.prog 208 [(iV (n))] (V.bool false):=by
 refine pW Tryz.func208 s208_ok fun hB=>?_
 unfold s208
 dsimp only
 refine W_r (R_mv rfl (R_e (W_r (R_mv rfl (R_mv rfl (R_neq rfl rfl (R_mv rfl ?_)))))))
 refine R_e (W_ret ?_)
 refine Ret_1 (@rfl V (V.bool (decide ((n)≠(n))))) (fz_bool ?_)
 · simp
theorem cmpint_pure (x y:Int):PureC Tryz.prog 188 [(iV (x)),(iV (y))] (iV (cmpI x y)):=by
 refine pW Tryz.func188 s188_ok fun hB=>?_
 unfold s188
 dsimp only
 refine W_r (R_mv rfl (R_e (W_r (R_mv rfl (R_callk (isnan_pure ((x))) rfl (R_mv rfl (R_e ?_)))))))
 refine W_r (R_mv rfl (R_callk (isnan_pure ((y))) rfl (R_mv rfl (R_e (W_seq_seq (W_r (R_mv rfl ?_)))))))
 refine R_e ?_
 refine W_seq_ifb rfl (fun c1=>?_) (fun c1=>?_)
 · cases c1
 refine W_seq_skip (W_seq_seq (W_r (R_mv rfl (R_e ?_))))
 refine W_seq_ifb rfl (fun c2=>?_) (fun c2=>?_)
 · cases c2
 refine W_seq_skip (W_seq_seq (W_r (R_mv rfl (R_mv rfl (R_lss rfl rfl (R_e ?_))))))
 refine W_seq_if rfl (fun c3=>?_) fun c3=>?_
 ·
  refine W_seq_seq (W_r (R_mv rfl (R_e (W_seq_ret ?_))))
  refine Ret_1 (@rfl V (iV (-1:Int))) (fz_int ?_)
  · unfold cmpI; repeat (split <;> first|rfl|omega|skip)
 refine W_seq_skip (W_seq_seq (W_r (R_mv rfl (R_mv rfl (R_gtr rfl rfl (R_e ?_))))))
 refine W_seq_if rfl (fun c4=>?_) fun c4=>?_
 ·
  refine W_seq_seq (W_r (R_mv rfl (R_e (W_seq_ret ?_))))
  refine Ret_1 (@rfl V (iV (1:Int))) (fz_int ?_)
  · unfold cmpI; repeat (split <;> first|rfl|omega|skip)
 refine W_seq_skip (W_r (R_mv rfl (R_e (W_ret ?_))))
 refine Ret_1 (@rfl V (iV (0:Int))) (fz_int ?_)
 · unfold cmpI; repeat (split <;> first|rfl|omega|skip)
theorem scompare_pure (a b:List Int):PureC Tryz.prog 174 [(ints a),(ints b)] (iV (lexI a b)):=by
 refine pW Tryz.func174 s174_ok fun hB=>?_
 unfold s174
 dsimp only
 refine W_r (R_mv rfl (R_e (W_seq_seq (W_r (R_mv rfl (R_len rfl (R_mv rfl ?_)))))))
 refine R_e (W_seq_blockg fun Q1 n1 x1 y1 z1=>?_)
 refine W_loop (fun mm T H=> ∃ (k:Nat),mm=a.length - k∧T 0=(ints a)∧T 1=(ints b)∧T 9=(ints a)∧T 10=(iV ((a.length:Nat):Int))∧T 11=(iV ((k:Nat):Int))∧(k≤a.length)∧(k≤cmn a b)) ?_ ?_
 ·
  refine ⟨_,0,rfl,rfl,rfl,rfl,rfl,(Eq.trans (@rfl V (iV (0:Int))) rfl),?_,?_⟩
  · omega
  · exact Nat.zero_le _
 intro mm T H ⟨k,hmm,t0,t1,t9,t10,t11,hk,hc⟩ Q2 p12 p22 p32
 unfold b174_0
 refine W_r (R_lss t11 t10 (R_e ?_))
 refine W_seq_if rfl (fun c3=>?_) fun c3=>?_
 ·
  refine W_seq_skip (W_seq_blockg fun Q4 n4 x4 y4 z4=>(W_r (R_mv t11 (R_idx (i:=k) t9 t11 (by omega) rfl (R_load_pp rfl rfl (R_mv rfl (R_mv rfl ?_)))))))
  refine R_e (W_seq_seq (W_r (R_mv rfl (R_mv t1 (R_len rfl (R_geq rfl rfl (R_e ?_)))))))
  refine W_seq_if rfl (fun c5=>?_) fun c5=>?_
  ·
   refine W_seq_seq (W_r (R_mv rfl (R_e (W_seq_ret (y4 _ _ (p22 _ _ (y1 _ _ ?_)))))))
   refine Ret_1 (@rfl V (iV (1:Int))) (fz_int ?_)
   · have g1:=cmn_l a b
     have g2:=cmn_r a b
     have g3:=cmn_at hc (by omega)
     simp only [lexI,cmpI,g3] at*; repeat (split <;> first|rfl|omega|skip)
  refine W_seq_skip (W_r (R_mv t1 (R_mv rfl (R_idx (i:=k) (@rfl V (ints b)) (@rfl V (iV ((k:Nat):Int))) (by omega) rfl (R_load_pp rfl rfl (R_mv rfl (R_e ?_)))))))
  refine W_r (R_mv rfl (R_mv rfl (R_callk (cmpint_pure (((nth (a) (k)))) (((nth (b) (k))))) rfl (R_mv rfl (R_e (W_r (R_mv rfl ?_)))))))
  refine R_neq rfl rfl (R_e ?_)
  refine W_if rfl (fun c6=>?_) fun c6=>?_
  ·
   have c9:nth a k≠nth b k:=fun e=>c6 (cmpI_zero.2 e)
   refine W_r (R_mv rfl (R_mv rfl (R_e (W_ret (y4 _ _ (p22 _ _ (y1 _ _ ?_)))))))
   refine Ret_1 (@rfl V (iV (cmpI (((nth (a) (k)))) (((nth (b) (k))))))) (fz_int ?_)
   · have g1:=cmn_l a b
     have g2:=cmn_r a b
     have g3:=cmn_at hc (by omega)
     simp only [lexI,cmpI,g3] at*; repeat (split <;> first|rfl|omega|skip)
  refine W_skip (n4 _ _ (.done (W_t (R_addN t11 (@rfl V (iV ((1:Nat):Int))) (by omega) (R_mv rfl (R_e ?_))))))
  refine p12 _ _ _ ?_ ⟨(k+1),rfl,t0,t1,t9,t10,(Eq.trans (@rfl V (iV ((k+1:Nat):Int))) (by rfl)),?_,?_⟩
  · omega
  · omega
  · exact cmn_next hc (by omega) (by omega) (cmpI_zero.1 (by omega))
 refine W_seq_exit (p32 _ _ _ (x1 _ _ (.done (W_seq_seq (W_r (R_mv t0 (R_len rfl ?_)))))))
 refine R_mv t1 (R_len rfl (R_lss rfl rfl (R_e ?_)))
 refine W_seq_if rfl (fun c7=>?_) fun c7=>?_
 ·
  refine W_seq_seq (W_r (R_mv rfl (R_e (W_seq_ret ?_))))
  refine Ret_1 (@rfl V (iV (-1:Int))) (fz_int ?_)
  · have g1:=cmn_l a b
    have g2:=cmn_r a b
    have g3:=cmn_at hc (by omega)
    simp only [lexI,cmpI,g3] at*; repeat (split <;> first|rfl|omega|skip)
 refine W_seq_skip (W_r (R_mv rfl (R_e (W_ret ?_))))
 refine Ret_1 (@rfl V (iV (0:Int))) (fz_int ?_)
 · have g1:=cmn_l a b
   have g2:=cmn_r a b
   have g3:=cmn_at hc (by omega)
   simp only [lexI,cmpI,g3] at*; repeat (split <;> first|rfl|omega|skip)
theorem lex_pure (a b:List Int):PureC Tryz.prog 123 [(ints a),(ints b)] (iV (lexI a b)):=by
 refine pW Tryz.func123 s123_ok fun hB=>?_
 unfold s123
 dsimp only
 refine W_r (R_mv rfl (R_e (W_r (R_mv rfl (R_mv rfl (R_callk (scompare_pure a b) rfl (R_mv rfl ?_)))))))
 refine R_e (W_ret ?_)
 refine Ret_1 (@rfl V (iV (lexI a b))) (fz_canon (by simp) rfl)
def r155_1:List SO:=[
 qM 5 0,
 qN 6 5,
 qM 7 1,
 qN 8 7,
 sO 9 (.call false 188 [.t 6,.t 8]),
 qM 10 0,
 qM 11 1,
 sO 12 (.call false 174 [.t 10,.t 11]),
 sO 13 (.bslice 3 1 false [.int .i64 0] 2 [(0,.t 9),(1,.t 12)]),
 sO 14 (.call false 187 [.t 13]),
 qM 4 14]
def s155:SF:=⟨15,[.tmp 4],.seq (.reg [qI 4 0]) (.seq (.reg r155_1) (.ret))⟩
theorem s155_ok:slimF Tryz.prog ⟨[107,108,109,116,120,126,127,167,169,170,171,172,194,196,198,209,222,226],[]⟩ Tryz.f155=some s155:=by kernel_rfl
def b187_0:SC:=.seq (.reg [qP 9 .lss 8 7]) (.seq (.cond (.t 9) (.skip) (.exit 0)) (.seq (.block 1 (.seq (.reg [qA 10 1 6 8,ql 11 10,qM 5 11]) (.seq (.reg [qM 12 5,qM 13 3,qP 14 .neq 12 13]) (.cond (.t 14) (.seq (.reg [qM 15 5,qM 2 15]) (.ret)) (.skip))))) (.reg [qC 16 .add 8 1,qM 8 16])))
def s187:SF:=⟨18,[.tmp 2],.seq (.reg [qI 2 0]) (.seq (.reg [qI 3 0]) (.seq (.seq (.reg [qM 6 0,qN 7 6,qI 8 0]) (.block 0 (.loop b187_0))) (.seq (.reg [qM 17 3,qM 2 17]) (.ret))))⟩
theorem s187_ok:slimF Tryz.prog ⟨[107,108,109,116,120,126,127,167,169,170,171,172,194,196,198,209,222,226],[]⟩ Tryz.f187=some s187:=by kernel_rfl
theorem cmpor_pure (l:List Int) (hl:l.length < 4294967296):PureC Tryz.prog 187 [(ints l)] (iV (orI l)):=by
 refine pW Tryz.func187 s187_ok fun hB=>?_
 unfold s187
 dsimp only
 refine W_r (R_mv rfl (R_e (W_r (R_mv rfl (R_e (W_seq_seq (W_r ?_)))))))
 refine R_mv rfl (R_len rfl (R_mv rfl (R_e (W_seq_blockg fun Q1 n1 x1 y1 z1=>?_))))
 refine W_loop (fun mm T H=> ∃ (k:Nat),mm=l.length - k∧T 3=(iV (0:Int))∧T 6=(ints l)∧T 7=(iV ((l.length:Nat):Int))∧T 8=(iV ((k:Nat):Int))∧(k≤l.length)∧(orI l=orI (l.drop k))) ?_ ?_
 ·
  refine ⟨_,0,rfl,rfl,rfl,rfl,(Eq.trans (@rfl V (iV (0:Int))) rfl),?_,?_⟩
  · omega
  · rfl
 intro mm T H ⟨k,hmm,t3,t6,t7,t8,hk,hc⟩ Q2 p12 p22 p32
 unfold b187_0
 refine W_r (R_lss t8 t7 (R_e ?_))
 refine W_seq_if rfl (fun c3=>?_) fun c3=>?_
 ·
  refine W_seq_skip (W_seq_blockg fun Q4 n4 x4 y4 z4=>(W_r (R_idx (i:=k) t6 t8 (by omega) rfl (R_load_pp rfl rfl (R_mv rfl (R_e (W_r ?_)))))))
  refine R_mv rfl (R_mv t3 (R_neq rfl rfl (R_e ?_)))
  refine W_if rfl (fun c5=>?_) fun c5=>?_
  ·
   refine W_r (R_mv rfl (R_mv rfl (R_e (W_ret (y4 _ _ (p22 _ _ (y1 _ _ ?_)))))))
   refine Ret_1 (@rfl V (iV ((nth (l) (k))))) (fz_int ?_)
   · rw [hc,orI_drop (by omega),if_neg (by omega)]
  refine W_skip (n4 _ _ (.done (W_t (R_addN t8 (@rfl V (iV ((1:Nat):Int))) (by omega) (R_mv rfl (R_e ?_))))))
  refine p12 _ _ _ ?_ ⟨(k+1),rfl,t3,t6,t7,(Eq.trans (@rfl V (iV ((k+1:Nat):Int))) (by rfl)),?_,?_⟩
  · omega
  · omega
  · rw [hc,orI_drop (by omega),if_pos (by omega)]
 refine W_seq_exit (p32 _ _ _ (x1 _ _ (.done (W_r (R_mv t3 (R_mv rfl (R_e ?_)))))))
 refine W_ret ?_
 refine Ret_1 (@rfl V (iV (0:Int))) (fz_int ?_)
 · rw [hc,List.drop_of_length_le (by omega)]; rfl
theorem compare_pure (a b:List Int):PureC Tryz.prog 155 [(ints a),(ints b)] (iV (slx a b)):=by
 refine pW Tryz.func155 s155_ok fun hB=>?_
 unfold s155
 dsimp only
 refine W_r (R_mv rfl (R_e (W_r (R_mv rfl (R_len rfl (R_mv rfl (R_len rfl ?_)))))))
 refine R_callk (cmpint_pure (((a.length:Nat):Int)) (((b.length:Nat):Int))) rfl (R_mv rfl (R_mv rfl (R_callk (scompare_pure a b) rfl (R_bslice rfl rfl (R_callk (cmpor_pure ([(cmpI (((a.length:Nat):Int)) (((b.length:Nat):Int))),(lexI a b)]) (by simp)) rfl (R_mv rfl (R_e ?_)))))))
 refine W_ret ?_
 refine Ret_1 (@rfl V (iV (orI ([(cmpI (((a.length:Nat):Int)) (((b.length:Nat):Int))),(lexI a b)])))) (fz_int ?_)
 · simp only [orI,cmpI,slx]; repeat (split <;> first|rfl|omega|skip)
def s159:SF:=⟨8,[.tmp 2],.seq (.reg [sO 2 (.lazy 3 1)]) (.seq (.seq (.reg [qM 3 0,sO 4 (.isnil false (.t 3))]) (.cond (.t 4) (.seq (.reg [sO 2 (.lazy 3 1)]) (.ret)) (.skip))) (.seq (.reg [sO 5 (.lazy 3 1),qM 6 0,sO 7 (.append 3 1 8 (.t 5) (.t 6)),qM 2 7]) (.ret)))⟩
theorem s159_ok:slimF Tryz.prog ⟨[107,108,109,116,120,126,127,167,169,170,171,172,194,196,198,209,222,226],[2,5]⟩ Tryz.f159=some s159:=by kernel_rfl
theorem clone_pure (l:List Int) (hl:l.length≤4294967296):PureC Tryz.prog 159 [(ints l)] (ints l):=by
 refine pW Tryz.func159 s159_ok fun hB=>?_
 unfold s159
 dsimp only
 refine W_r (R_lazy (i:=2) (n:=0) rfl (congrArg Blk.ver rfl) (R_e (W_seq_seq (W_seq_reg fun K hK=>(R_mv rfl ?_)))))
 refine R_isnil_sl (@rfl V (ints l)) (fun e1=>?_) ?_
 ·
  replace e1:=List.map_eq_nil_iff.1 e1
  refine R_nil (hK _ _ ?_); clear hK K
  refine fork_ (R:=fun T H=>T 0=(ints l)∧T 4=(V.bool true)∧H 2=(bz 1 3 1 [])∧H 5=(⟨0,false,false,0,0,[]⟩:Blk)∧True) ⟨rfl,rfl,rfl,rfl,trivial⟩ ?_
  intro T H ⟨t0,t4,h2,h5,_⟩
  refine W_seq_ifb t4 (fun c4=>?_) (fun c4=>?_)
  ·
   refine W_seq_seq (W_r (R_lazy (i:=2) (n:=1) rfl (congrArg Blk.ver h2) (R_e (W_seq_ret ?_))))
   refine Ret_1 (@rfl V (V.ms 2 2 0 (0))) (fz_ms (@rfl Blk (bz 2 3 1 [])) (by rfl) (l:=[]) rfl (by rfl) (fun _=>by simp) ?_)
   · exact e1.symm
  · cases c4
 ·
  refine R_nil (hK _ _ ?_); clear hK K
  refine fork_ (R:=fun T H=>T 0=(ints l)∧T 4=(V.bool false)∧H 2=(bz 1 3 1 [])∧H 5=(⟨0,false,false,0,0,[]⟩:Blk)∧True) ⟨rfl,rfl,rfl,rfl,trivial⟩ ?_
  intro T H ⟨t0,t4,h2,h5,_⟩
  refine W_seq_ifb t4 (fun c7=>?_) (fun c7=>?_)
  · cases c7
  refine W_seq_skip (W_r (R_lazy (i:=5) (n:=0) rfl (congrArg Blk.ver h5) (R_mv t0 (R_appendS (l:=([])) (m:=l) (f:=cI) (@rfl V (V.ms 5 1 0 (0))) (show _=(bz 1 3 1 (List.map cI ([]))) from (@rfl Blk (bz 1 3 1 []))) (by rfl) (@rfl V (ints l)) (fun _=>rfl) (fun _=>rfl) (by omega) (by omega) (R_mv rfl (R_e (W_ret ?_)))))))
  refine Ret_1 (@rfl V (V.ms 5 2 0 (0+(l).length))) (fz_ms (@rfl Blk (bz 2 3 1 (List.map cI ([]++l)))) (by rfl) (l:=([]++l)) rfl (by simp) (fun _=>by simp) ?_)
  · rfl
theorem cloneA (i:Nat) (h5:5≤i) (l:List Int) (u:Nat) (Hi:Heap) (hq:(Hi i).ver=u) (hl:l.length≤4294967296):CallOK Tryz.prog 159 [(ints l)] Hi (V.ms i (u+3) 0 (l.length)) (upd Hi i (bz (u+3) 3 1 (List.map cI (l)))):=by
 refine eW (k0:=i - 2) Tryz.func159 s159_ok fun hB=>?_
 unfold s159
 dsimp only
 refine W_r (R_lazy (i:=i) (n:=u) (by omega) hq (R_e (W_seq_seq (W_seq_reg fun K hK=>(R_mv rfl ?_)))))
 refine R_isnil_sl (@rfl V (ints l)) (fun e1=>?_) ?_
 ·
  replace e1:=List.map_eq_nil_iff.1 e1
  refine R_nil (hK _ _ ?_); clear hK K
  refine fork_ (R:=fun T H=>T 0=(ints l)∧T 4=(V.bool true)∧(∀ j,j∉[i]→H j=Hi j)∧H i=(bz (u+1) 3 1 [])∧True) ⟨rfl,rfl,(upd_out (fun _ _=>rfl) (by simp)),(upd_same _ _ _),trivial⟩ ?_
  intro T H ⟨t0,t4,hF,hi,_⟩
  refine W_seq_ifb t4 (fun c4=>?_) (fun c4=>?_)
  ·
   refine W_seq_seq (W_r (R_lazy (i:=i) (n:=(u+1)) (by omega) (congrArg Blk.ver hi) (R_e (W_seq_ret (fork_ (R:=fun T H=>T 2=(V.ms i (u+2) 0 (0))∧(∀ j,j∉[i]→H j=Hi j)∧H i=(bz (u+2) 3 1 [])∧True) ⟨(@rfl V (V.ms i (u+2) 0 (0))),(upd_out hF (by simp)),(upd_same _ _ _),trivial⟩ ?_)))))
   intro T H ⟨t2,hF,hi,_⟩
   skip
   have fh:=FinX.fin (FinX.put (B:=(bz (u+3) 3 1 (List.map cI (l)))) (FinX.start hF) hi (FinB.up (by omega) (by (rw [e1]; rfl))))
   exact RetF_1 t2 fh (FinV.trans_eq (FinV.ms (n:=(u+3)) fh (by simp [hi]) (by simp [hi]) (by simp) (by simp)) (by (rw [e1]; rfl)))
  · cases c4
 ·
  refine R_nil (hK _ _ ?_); clear hK K
  refine fork_ (R:=fun T H=>T 0=(ints l)∧T 4=(V.bool false)∧(∀ j,j∉[i]→H j=Hi j)∧H i=(bz (u+1) 3 1 [])∧True) ⟨rfl,rfl,(upd_out (fun _ _=>rfl) (by simp)),(upd_same _ _ _),trivial⟩ ?_
  intro T H ⟨t0,t4,hF,hi,_⟩
  refine W_seq_ifb t4 (fun c7=>?_) (fun c7=>?_)
  · cases c7
  refine W_seq_skip (W_rk (i - 5) (R_lazy (i:=i) (n:=(u+1)) (by omega) (congrArg Blk.ver hi) (R_mv t0 (R_appendS (l:=([])) (m:=l) (f:=cI) (@rfl V (V.ms i (u+2) 0 (0))) (show _=(bz (u+2) 3 1 (List.map cI ([]))) from (upd_same _ _ _)) (by rfl) (@rfl V (ints l)) (fun _=>rfl) (fun _=>rfl) (by omega) (by omega) (R_mv rfl (R_e (W_ret ?_)))))))
  refine fork_ (R:=fun T H=>T 2=(V.ms i (u+3) 0 (0+(l).length))∧(∀ j,j∉[i]→H j=Hi j)∧H i=(bz (u+3) 3 1 (List.map cI ([]++l)))∧True) ⟨(@rfl V (V.ms i (u+3) 0 (0+(l).length))),(upd_out (upd_out hF (by simp)) (by simp)),(upd_same _ _ _),trivial⟩ ?_
  intro T H ⟨t2,hF,hi,_⟩
  skip
  have fh:=FinX.fin (FinX.put (B:=(bz (u+3) 3 1 (List.map cI (l)))) (FinX.start hF) hi (FinB.eq (by rfl)))
  exact RetF_1 t2 fh (FinV.trans_eq (FinV.same fh _) (by simp))
def s170:SF:=⟨8,[.tmp 2],.seq (.reg [sO 2 (.lazy 54 1)]) (.seq (.seq (.reg [qM 3 0,sO 4 (.isnil false (.t 3))]) (.cond (.t 4) (.seq (.reg [sO 2 (.lazy 54 1)]) (.ret)) (.skip))) (.seq (.reg [sO 5 (.lazy 54 1),qM 6 0,sO 7 (.append 54 1 24 (.t 5) (.t 6)),qM 2 7]) (.ret)))⟩
theorem s170_ok:slimF Tryz.prog ⟨[107,108,109,116,120,126,127,167,169,170,171,172,194,196,198,209,222,226],[2,5]⟩ Tryz.f170=some s170:=by kernel_rfl
theorem clonew_E (l:List (List Int)) (v2:Nat) (Hi:Heap) (h202:(Hi 202).ver=v2) (hl:l.length≤1073741824):CallOK Tryz.prog 170 [(intss l)] Hi (V.ms 202 (v2+3) 0 (l.length)) (upd Hi 202 (bz (v2+3) 54 1 (List.map cL (l)))):=by
 refine eW (k0:=200) Tryz.func170 s170_ok fun hB=>?_
 unfold s170
 dsimp only
 refine W_r (R_lazy (i:=202) (n:=v2) (by rfl) h202 (R_e (W_seq_seq (W_seq_reg fun K hK=>(R_mv rfl ?_)))))
 refine R_isnil_sl (@rfl V (intss l)) (fun e1=>?_) ?_
 ·
  replace e1:=List.map_eq_nil_iff.1 e1
  refine R_nil (hK _ _ ?_); clear hK K
  refine fork_ (R:=fun T H=>T 0=(intss l)∧T 4=(V.bool true)∧(∀ j,j∉[202]→H j=Hi j)∧H 202=(bz (v2+1) 54 1 [])∧True) ⟨rfl,rfl,(upd_out (fun _ _=>rfl) (by decide)),rfl,trivial⟩ ?_
  intro T H ⟨t0,t4,hF,h202,_⟩
  refine W_seq_ifb t4 (fun c4=>?_) (fun c4=>?_)
  ·
   refine W_seq_seq (W_r (R_lazy (i:=202) (n:=(v2+1)) (by rfl) (congrArg Blk.ver h202) (R_e (W_seq_ret (fork_ (R:=fun T H=>T 2=(V.ms 202 (v2+2) 0 (0))∧(∀ j,j∉[202]→H j=Hi j)∧H 202=(bz (v2+2) 54 1 [])∧True) ⟨(@rfl V (V.ms 202 (v2+2) 0 (0))),(upd_out hF (by decide)),rfl,trivial⟩ ?_)))))
   intro T H ⟨t2,hF,h202,_⟩
   have fh:=FinX.fin (FinX.put (B:=(bz (v2+3) 54 1 (List.map cL (l)))) (FinX.start hF) h202 (FinB.up (by omega) (by (rw [e1]; rfl))))
   exact RetF_1 t2 fh (FinV.trans_eq (FinV.ms (n:=(v2+3)) fh (by simp [h202]) (by simp [h202]) rfl rfl) (by (rw [e1]; rfl)))
  · cases c4
 ·
  refine R_nil (hK _ _ ?_); clear hK K
  refine fork_ (R:=fun T H=>T 0=(intss l)∧T 4=(V.bool false)∧(∀ j,j∉[202]→H j=Hi j)∧H 202=(bz (v2+1) 54 1 [])∧True) ⟨rfl,rfl,(upd_out (fun _ _=>rfl) (by decide)),rfl,trivial⟩ ?_
  intro T H ⟨t0,t4,hF,h202,_⟩
  refine W_seq_ifb t4 (fun c7=>?_) (fun c7=>?_)
  · cases c7
  refine W_seq_skip (W_rk 197 (R_lazy (i:=202) (n:=(v2+1)) (by rfl) (congrArg Blk.ver h202) (R_mv t0 (R_appendS (l:=([])) (m:=l) (f:=cL) (@rfl V (V.ms 202 (v2+2) 0 (0))) (show _=(bz (v2+2) 54 1 (List.map cL ([]))) from (@rfl Blk (bz (v2+2) 54 1 []))) (by rfl) (@rfl V (intss l)) (fun _=>rfl) (fun _=>rfl) (by omega) (by omega) (R_mv rfl (R_e (W_ret ?_)))))))
  refine fork_ (R:=fun T H=>T 2=(V.ms 202 (v2+3) 0 (0+(l).length))∧(∀ j,j∉[202]→H j=Hi j)∧H 202=(bz (v2+3) 54 1 (List.map cL ([]++l)))∧True) ⟨(@rfl V (V.ms 202 (v2+3) 0 (0+(l).length))),(upd_out (upd_out hF (by decide)) (by decide)),rfl,trivial⟩ ?_
  intro T H ⟨t2,hF,h202,_⟩
  have fh:=FinX.fin (FinX.put (B:=(bz (v2+3) 54 1 (List.map cL (l)))) (FinX.start hF) h202 (FinB.eq (by rfl)))
  exact RetF_1 t2 fh (FinV.trans_eq (FinV.same fh _) (by simp))
def r172_6:List SO:=[
 qM 18 1,
 qM 19 0,
 qM 20 5,
 qA 21 1 19 20,
 ql 22 21,
 qM 23 0,
 qM 24 5,
 qC 25 .sub 24 1,
 qA 26 1 23 25,
 ql 27 26,
 sO 28 (.callv false (.t 18) [.t 22,.t 27])]
def r172_11:List SO:=[
 qM 38 1,
 qM 39 6,
 qM 40 7,
 qA 41 1 39 40,
 ql 42 41,
 qM 43 6,
 qM 44 7,
 qC 45 .sub 44 1,
 qA 46 1 43 45,
 ql 47 46,
 sO 48 (.callv false (.t 38) [.t 42,.t 47]),
 sO 49 (.un .not (.t 48))]
def r172_12:List SO:=[
 qM 50 0,
 qM 51 5,
 qM 52 6,
 qM 53 7,
 qA 54 1 52 53,
 ql 55 54,
 qA 56 1 50 51,
 sN (.store 1 (.t 56) (.t 55))]
def b172_1:SC:=.seq (.seq (.reg [qM 32 7,qM 33 6,qN 34 33,qP 35 .lss 32 34]) (.cond (.t 35) (.skip) (.exit 2))) (.seq (.block 3 (.seq (.reg r172_11) (.cond (.t 49) (.seq (.reg r172_12) (.reg [qM 57 5,qC 58 .add 57 1,qM 5 58])) (.skip)))) (.reg [qM 36 7,qC 37 .add 36 1,qM 7 37]))
def b172_0:SC:=.seq (.seq (.reg [qM 12 5,qM 13 0,qN 14 13,qP 15 .lss 12 14]) (.cond (.t 15) (.skip) (.exit 0))) (.seq (.block 1 (.seq (.reg r172_6) (.cond (.t 28) (.seq (.reg [qM 29 0,qM 30 5,sO 31 (.slice 1 (.t 29) (some (.t 30)) none),qM 6 31]) (.seq (.seq (.reg [qI 7 1]) (.block 2 (.loop b172_1))) (.seq (.reg [qM 59 0,qM 60 5,sO 61 (.slice 1 (.t 59) (some (.t 60)) none),sN (.clr [.nilsl] (.t 61))]) (.seq (.reg [qM 62 0,qM 63 5,sO 64 (.slice 1 (.t 62) none (some (.t 63))),qM 4 64]) (.ret))))) (.skip)))) (.reg [qM 16 5,qC 17 .add 16 1,qM 5 17]))
def s172:SF:=⟨66,[.tmp 4],.seq (.reg [sO 4 (.mv (.c (.nilsl)))]) (.seq (.seq (.reg [qM 8 0,qN 9 8,qC 10 .lss 9 2]) (.cond (.t 10) (.seq (.reg [qM 11 0,qM 4 11]) (.ret)) (.skip))) (.seq (.seq (.reg [qI 5 1]) (.block 0 (.loop b172_0))) (.seq (.reg [qM 65 0,qM 4 65]) (.ret))))⟩
theorem s172_ok:slimF Tryz.prog ⟨[107,108,109,116,120,126,127,167,169,170,171,172,194,196,198,209,222,226],[]⟩ Tryz.f172=some s172:=by kernel_rfl
def s173:SF:=⟨11,[.tmp 5],.seq (.reg [sO 5 (.mv (.c (.bool false)))]) (.seq (.reg [ql 6 2,qM 7 0,qM 8 1,sO 9 (.callv false (.t 6) [.t 7,.t 8]),qC 10 .eql 9 0,qM 5 10]) (.ret))⟩
theorem s173_ok:slimF Tryz.prog ⟨[107,108,109,116,120,126,127,167,169,170,171,172,194,196,198,209,222,226],[]⟩ Tryz.f173=some s173:=by kernel_rfl
theorem ord1_pure (a b:List Int):PureC Tryz.prog 173 [(ints a),(ints b),(V.pp [(V.fn 155 [] [])])] (V.bool (decide (slx a b=0))):=by
 refine pW Tryz.func173 s173_ok fun hB=>?_
 unfold s173
 dsimp only
 refine W_r (R_mv rfl (R_e (W_r (R_load_pp rfl rfl (R_mv rfl (R_mv rfl (R_callv (@rfl V (V.fn 155 [] [])) (evcons (@rfl V (ints a)) (evcons (@rfl V (ints b)) evnil)) (compare_pure a b) (fzv_mapcanon _ _ (by simp [-List.map_take,-List.map_drop,-List.map_append,-List.map_reverse])) (by simp [-List.map_take,-List.map_drop,-List.map_append,-List.map_reverse]) (Or.inl (by simp [-List.map_take,-List.map_drop,-List.map_append,-List.map_reverse])) ?_)))))))
 refine R_eql rfl rfl (R_mv rfl (R_e (W_ret ?_)))
 refine Ret_1 (@rfl V (V.bool (decide ((slx a b)=(0:Int))))) (fz_bool ?_)
 · rfl
theorem ord1L_pure (a b:List Int):PureC Tryz.prog 173 [(ints a),(ints b),(V.pp [(V.fn 123 [] [])])] (V.bool (decide (lexI a b=0))):=by
 refine pW Tryz.func173 s173_ok fun hB=>?_
 unfold s173
 dsimp only
 refine W_r (R_mv rfl (R_e (W_r (R_load_pp rfl rfl (R_mv rfl (R_mv rfl (R_callv (@rfl V (V.fn 123 [] [])) (evcons (@rfl V (ints a)) (evcons (@rfl V (ints b)) evnil)) (lex_pure a b) (fzv_mapcanon _ _ (by simp [-List.map_take,-List.map_drop,-List.map_append,-List.map_reverse])) (by simp [-List.map_take,-List.map_drop,-List.map_append,-List.map_reverse]) (Or.inl (by simp [-List.map_take,-List.map_drop,-List.map_append,-List.map_reverse])) ?_)))))))
 refine R_eql rfl rfl (R_mv rfl (R_e (W_ret ?_)))
 refine Ret_1 (@rfl V (V.bool (decide ((lexI a b)=(0:Int))))) (fz_bool ?_)
 · rfl
theorem compw_E (l:List (List Int)) (v2 v3 len:Nat) (Hi:Heap) (h202:Hi 202=(bz v2 54 1 (List.map cL (l)))) (h3:Hi 3=(bk v3 150 1 [[(V.fn 155 [] [])]])) (hn:len=l.length) (hl:l.length≤1073741824):CallOK Tryz.prog 172 [(V.ms 202 v2 0 (len)),(V.fn 173 [] [(V.mp 3 v3 0 0)])] Hi (V.ms 202 v2 0 ((ddK l l.length).length)) (upd Hi 202 (bz v2 54 1 (List.map cL (ddK l l.length)++List.replicate (l.length - (ddK l l.length).length) [V.nilsl]))):=by
 refine eW (k0:=400) Tryz.func172 s172_ok fun hB=>?_
 unfold s172
 dsimp only
 refine W_r (R_mv rfl (R_e (W_seq_seq (W_r (R_mv rfl (R_len_ms rfl h202 (by simp) (R_lss rfl rfl ?_)))))))
 refine R_e ?_
 refine W_seq_if rfl (fun c1=>?_) fun c1=>?_
 ·
  refine W_seq_seq (W_r (R_mv rfl (R_mv rfl (R_e (W_seq_ret (fork_ (R:=fun T H=>T 4=(V.ms 202 v2 0 (len))∧(∀ j,j∉[202]→H j=Hi j)∧H 3=(bk v3 150 1 [[(V.fn 155 [] [])]])∧H 202=(bz v2 54 1 (List.map cL (l)))∧True) ⟨(@rfl V (V.ms 202 v2 0 (len))),(fun _ _=>rfl),h3,h202,trivial⟩ ?_))))))
  intro T H ⟨t4,hF,h3,h202,_⟩
  have hall:=dd_all (l:=l) (fun i i1 i2=>by omega)
  have fh:=FinX.fin (FinX.put (B:=(bz v2 54 1 (List.map cL (ddK l l.length)++List.replicate (l.length - (ddK l l.length).length) [V.nilsl]))) (FinX.start hF) h202 (FinB.eq (by (rw [hall]; simp; done))))
  exact RetF_1 t4 fh (FinV.trans_eq (FinV.same fh _) (by (rw [hall,hn]; done)))
 refine W_seq_skip (W_seq_seq (W_r (R_mv rfl (R_e (W_seq_blockg fun Q2 n2 x2 y2 z2=>?_)))))
 refine W_loop (fun mm T H=> ∃ (k:Nat),mm=l.length - k∧T 0=(V.ms 202 v2 0 (len))∧T 1=(V.fn 173 [] [(V.mp 3 v3 0 0)])∧T 5=(iV ((k:Nat):Int))∧(∀ j,j∉[202]→H j=Hi j)∧H 3=(bk v3 150 1 [[(V.fn 155 [] [])]])∧H 202=(bz v2 54 1 (List.map cL (l)))∧(1≤k)∧(k≤l.length)∧(∀ i,1≤i→i < k→nth l i≠nth l (i - 1))) ?_ ?_
 ·
  refine ⟨_,1,rfl,rfl,rfl,(Eq.trans (@rfl V (iV (1:Int))) rfl),(fun _ _=>rfl),h3,h202,?_,?_,?_⟩
  · omega
  · omega
  · intro i h1 h2; omega
 intro mm T H ⟨k,hmm,t0,t1,t5,hF,h3,h202,h1,hk,hc⟩ Q3 p13 p23 p33
 unfold b172_0
 refine W_seq_seq (W_r (R_mv t5 (R_mv t0 (R_len_ms rfl h202 (by simp) (R_lss rfl rfl (R_e ?_))))))
 refine W_seq_if rfl (fun c4=>?_) fun c4=>?_
 ·
  refine W_seq_skip (W_seq_blockg fun Q5 n5 x5 y5 z5=>(W_r (R_mv t1 (R_mv t0 (R_mv t5 (R_idx_ms0 (i:=k) (@rfl V (V.ms 202 v2 0 (len))) (@rfl V (iV ((k:Nat):Int))) h202 (okB_map (by omega)) rfl (by omega) (R_load_mp (v:=(ints ((nth (l) (k))))) rfl h202 (ldB_map (by omega) (by rfl)) ?_)))))))
  refine R_mv t0 (R_mv t5 (R_sub rfl rfl (by omega) (by omega) (R_idxI_ms0 (i:=(((k:Nat):Int) - (1:Int))) (@rfl V (V.ms 202 v2 0 (len))) (@rfl V (iV (((k:Nat):Int) - (1:Int)))) h202 (okB_map (by omega)) rfl (by omega) (by omega) (R_load_mp (v:=(ints ((nth (l) (((((k:Nat):Int) - (1:Int))).toNat))))) rfl h202 (ldB_map (by omega) (by rfl)) (R_callv (@rfl V (V.fn 173 [] [(V.mp 3 v3 0 0)])) (evcons (@rfl V (ints ((nth (l) (k))))) (evcons (@rfl V (ints ((nth (l) (((((k:Nat):Int) - (1:Int))).toNat))))) evnil)) (ord1_pure ((nth (l) (k))) ((nth (l) (((((k:Nat):Int) - (1:Int))).toNat)))) (mcons (fzv_canon 6 _ (by simp [-List.map_take,-List.map_drop,-List.map_append,-List.map_reverse])) (mcons (fzv_canon 6 _ (by simp [-List.map_take,-List.map_drop,-List.map_append,-List.map_reverse])) (mcons (by simp [fzv,Blk.own,h3,h202]) rfl))) (by simp [-List.map_take,-List.map_drop,-List.map_append,-List.map_reverse]) (Or.inr rfl) (R_e ?_))))))
  refine W_if rfl (fun c6=>?_) fun c6=>?_
  ·
   have d1:nth l k=nth l (k - 1):=by have q:=slx_zero.1 c6; rwa [show (((k:Nat):Int) - (1:Int)).toNat=k - 1 by omega] at q
   have hd:=dd_start h1 (by omega) hc d1
   refine W_r (R_mv t0 (R_mv t5 (R_slice_ms_lo (n:=k) (@rfl V (V.ms 202 v2 0 (len))) (@rfl V (iV ((k:Nat):Int))) h202 (okB_map (by omega)) rfl (by omega) (R_mv rfl (R_e (W_seq_seq (W_r ?_)))))))
   refine R_mv rfl (R_e (W_seq_blockg fun Q7 n7 x7 y7 z7=>?_))
   refine W_loop (fun mm T H=> ∃ (j:Nat),mm=l.length - (k+j)∧T 0=(V.ms 202 v2 0 (len))∧T 1=(V.fn 173 [] [(V.mp 3 v3 0 0)])∧T 5=(iV (((ddK l (k+j)).length:Nat):Int))∧T 6=(V.ms 202 v2 (0+k) (len - k))∧T 7=(iV ((j:Nat):Int))∧(∀ j,j∉[202]→H j=Hi j)∧H 3=(bk v3 150 1 [[(V.fn 155 [] [])]])∧H 202=(bz v2 54 1 (List.map cL (ddL l (k+j))))∧(k+j≤l.length)∧(1≤j)∧((ddK l (k+j)).length < k+j)) ?_ ?_
   ·
    refine ⟨_,1,rfl,t0,t1,(Eq.trans t5 (by (rw [hd.1]; done))),(Eq.trans (@rfl V (V.ms 202 v2 (0+k) (len - k))) (by rfl)),(Eq.trans (@rfl V (iV (1:Int))) rfl),hF,h3,(Eq.trans h202 (by (rw [hd.2]; done))),?_,?_,?_⟩
    · omega
    · omega
    · rw [hd.1]; omega
   intro mm T H ⟨j,hmm,t0,t1,t5,t6,t7,hF,h3,h202,hj,hj1,hlt⟩ Q8 p18 p28 p38
   unfold b172_1
   have q1:=ddL_len (L:=l) (j:=k+j) hj
   have q5:=dd_at hlt hj1
   have q6:=dd_pos (l:=l) (j:=k+j) (by omega)
   refine W_seq_seq (W_r (R_mv t7 (R_mv t6 (R_len_ms rfl h202 (by simp) (R_lss rfl rfl (R_e ?_))))))
   refine W_seq_if rfl (fun c9=>?_) fun c9=>?_
   ·
    refine W_seq_skip (W_seq_blockg fun Q10 n10 x10 y10 z10=>(W_r (R_mv t1 (R_mv t6 (R_mv t7 (R_idx_ms (i:=j) (@rfl V (V.ms 202 v2 (0+k) (len - k))) (@rfl V (iV ((j:Nat):Int))) h202 (okB_map (by omega)) rfl (by omega) (R_load_mp (v:=(ints ((nth (ddL l (k+j)) ((0+k)+(j)))))) rfl h202 (ldB_map (by omega) (by rfl)) ?_)))))))
    refine R_mv t6 (R_mv t7 (R_sub rfl rfl (by omega) (by omega) (R_idxI_ms (i:=(((j:Nat):Int) - (1:Int))) (@rfl V (V.ms 202 v2 (0+k) (len - k))) (@rfl V (iV (((j:Nat):Int) - (1:Int)))) h202 (okB_map (by omega)) rfl (by omega) (by omega) (R_load_mp (v:=(ints ((nth (ddL l (k+j)) ((0+k)+((((j:Nat):Int) - (1:Int))).toNat))))) rfl h202 (ldB_map (by omega) (by rfl)) (R_callv (@rfl V (V.fn 173 [] [(V.mp 3 v3 0 0)])) (evcons (@rfl V (ints ((nth (ddL l (k+j)) ((0+k)+(j)))))) (evcons (@rfl V (ints ((nth (ddL l (k+j)) ((0+k)+((((j:Nat):Int) - (1:Int))).toNat))))) evnil)) (ord1_pure ((nth (ddL l (k+j)) ((0+k)+(j)))) ((nth (ddL l (k+j)) ((0+k)+((((j:Nat):Int) - (1:Int))).toNat)))) (mcons (fzv_canon 6 _ (by simp [-List.map_take,-List.map_drop,-List.map_append,-List.map_reverse])) (mcons (fzv_canon 6 _ (by simp [-List.map_take,-List.map_drop,-List.map_append,-List.map_reverse])) (mcons (by simp [fzv,Blk.own,h3,h202]) rfl))) (by simp [-List.map_take,-List.map_drop,-List.map_append,-List.map_reverse]) (Or.inr rfl) (R_not rfl (R_e ?_)))))))
    refine W_if rfl (fun c11=>?_) fun c11=>?_
    ·
     have d5:nth l (k+j)≠nth l (k+j - 1):=fun q=>c11 (slx_zero.2 (by rw [q5.1,q5.2]; exact q))
     refine W_r (R_mv t0 (R_mv t5 (R_mv t6 (R_mv t7 (R_idx_ms (i:=j) (@rfl V (V.ms 202 v2 (0+k) (len - k))) (@rfl V (iV ((j:Nat):Int))) h202 (okB_map (by omega)) rfl (by omega) (R_load_mp (v:=(ints ((nth (ddL l (k+j)) ((0+k)+(j)))))) rfl h202 (ldB_map (by omega) (by rfl)) (R_idx_ms0 (i:=((ddK l (k+j)).length)) (@rfl V (V.ms 202 v2 0 (len))) (@rfl V (iV (((ddK l (k+j)).length:Nat):Int))) h202 (okB_map (by omega)) rfl (by omega) ?_)))))))
     refine R_store (vs:=[(ints ((nth (ddL l (k+j)) ((0+k)+(j)))))]) (B':=(bz v2 54 1 (List.map cL ((ddL l (k+j)).set ((ddK l (k+j)).length) ((nth (ddL l (k+j)) ((0+k)+(j)))))))) rfl rfl rfl h202 (stB_map (x:=((nth (ddL l (k+j)) ((0+k)+(j))))) (i:=((ddK l (k+j)).length)) (by omega) rfl rfl rfl rfl) (R_e (W_t (R_mv t5 (R_addN rfl (@rfl V (iV ((1:Nat):Int))) (by omega) (R_mv rfl (R_e (n10 _ _ ?_)))))))
     refine .done (W_t (R_mv t7 (R_addN rfl (@rfl V (iV ((1:Nat):Int))) (by omega) (R_mv rfl (R_e ?_)))))
     refine p18 _ _ _ ?_ ⟨(j+1),rfl,t0,t1,(Eq.trans (@rfl V (iV ((((ddK l (k+j)).length)+1:Nat):Int))) (by (show _=iV (((ddK l ((k+j)+1)).length:Nat):Int); rw [ddK_keep (.inr d5),List.length_append]; rfl))),(Eq.trans t6 (by rfl)),(Eq.trans (@rfl V (iV ((j+1:Nat):Int))) (by rfl)),(upd_out hF (by decide)),h3,(Eq.trans (@rfl Blk (bz v2 54 1 (List.map cL ((ddL l (k+j)).set ((ddK l (k+j)).length) ((nth (ddL l (k+j)) ((0+k)+(j)))))))) (by (rw [q5.1,ddL_keep (show k+j < l.length by omega) (.inr d5)]; rfl))),?_,?_,?_⟩
     · omega
     · omega
     · omega
     · first|(show (ddK l ((k+j)+1)).length < (k+j)+1; rw [ddK_keep (.inr d5),List.length_append]; simp; omega)|(show (ddK l ((k+j)+1)).length < (k+j)+1; rw [ddK_skip (by rintro (q|q); omega; exact q d5)]; omega)
    have d5:nth l (k+j)=nth l (k+j - 1):=by have q:=slx_zero.1 (Decidable.not_not.1 c11); rwa [q5.1,q5.2] at q
    refine W_skip (n10 _ _ (.done (W_t (R_mv t7 (R_addN rfl (@rfl V (iV ((1:Nat):Int))) (by omega) (R_mv rfl (R_e ?_)))))))
    refine p18 _ _ _ ?_ ⟨(j+1),rfl,t0,t1,(Eq.trans t5 (by (show _=iV (((ddK l ((k+j)+1)).length:Nat):Int); rw [ddK_skip (by rintro (q|q); omega; exact q d5)]; done))),(Eq.trans t6 (by rfl)),(Eq.trans (@rfl V (iV ((j+1:Nat):Int))) (by rfl)),hF,h3,(Eq.trans h202 (by (show _=(⟨_,_,_,_,_,List.map cL (ddL l ((k+j)+1))⟩:Blk); rw [ddL_skip (by rintro (q|q); omega; exact q d5)]; done))),?_,?_,?_⟩
    · omega
    · omega
    · omega
    · first|(show (ddK l ((k+j)+1)).length < (k+j)+1; rw [ddK_keep (.inr d5),List.length_append]; simp; omega)|(show (ddK l ((k+j)+1)).length < (k+j)+1; rw [ddK_skip (by rintro (q|q); omega; exact q d5)]; omega)
   refine W_seq_exit (p38 _ _ _ (x7 _ _ (.done (W_r (R_mv t0 (R_mv t5 (R_slice_ms_lo (n:=((ddK l (k+j)).length)) (@rfl V (V.ms 202 v2 0 (len))) (@rfl V (iV (((ddK l (k+j)).length:Nat):Int))) h202 (okB_map (by omega)) rfl (by omega) ?_)))))))
   refine R_clr (m:=(((ddK l (k+j)).length))) (n:=(len - ((ddK l (k+j)).length))) (f:=cL) (l:=(ddL l (k+j))) (Eq.trans (@rfl V (V.ms 202 v2 (0+((ddK l (k+j)).length)) (len - ((ddK l (k+j)).length)))) (congrArg (fun n=>V.ms 202 v2 n (len - ((ddK l (k+j)).length))) (Nat.zero_add _))) h202 rfl (by decide) rfl (by omega) (by omega) (R_e (W_r (R_mv t0 (R_mv t5 (R_slice_ms_hi (n:=((ddK l (k+j)).length)) (@rfl V (V.ms 202 v2 0 (len))) (@rfl V (iV (((ddK l (k+j)).length:Nat):Int))) (@rfl Blk (bz v2 54 1 (List.map cL (List.take (((ddK l (k+j)).length)) (ddL l (k+j)))++List.replicate (len - ((ddK l (k+j)).length)) [V.nilsl]))) (okB_zap (by (simp only [List.length_take]; omega))) rfl (by omega) (R_mv rfl (R_e ?_)))))))
   refine W_ret (y5 _ _ (p23 _ _ (y2 _ _ (fork_ (R:=fun T H=>T 4=(V.ms 202 v2 0 ((ddK l (k+j)).length))∧(∀ j,j∉[202]→H j=Hi j)∧H 3=(bk v3 150 1 [[(V.fn 155 [] [])]])∧H 202=(bz v2 54 1 (List.map cL (List.take (((ddK l (k+j)).length)) (ddL l (k+j)))++List.replicate (len - ((ddK l (k+j)).length)) [V.nilsl]))∧True) ⟨(@rfl V (V.ms 202 v2 0 ((ddK l (k+j)).length))),(upd_out hF (by decide)),h3,rfl,trivial⟩ ?_))))
   intro T H ⟨t4,hF,h3,h202,_⟩
   skip
   have fh:=FinX.fin (FinX.put (B:=(bz v2 54 1 (List.map cL (ddK l l.length)++List.replicate (l.length - (ddK l l.length).length) [V.nilsl]))) (FinX.start hF) h202 (FinB.eq (by (rw [dd_take (show l.length≤k+j by omega) hj,show k+j=l.length by omega,hn]; done))))
   exact RetF_1 t4 fh (FinV.trans_eq (FinV.same fh _) (by (rw [show k+j=l.length by omega]; done)))
  have d1:nth l k≠nth l (k - 1):=fun q=>c6 (slx_zero.2 (by rw [show (((k:Nat):Int) - (1:Int)).toNat=k - 1 by omega]; exact q))
  refine W_skip (n5 _ _ (.done (W_t (R_mv t5 (R_addN rfl (@rfl V (iV ((1:Nat):Int))) (by omega) (R_mv rfl (R_e ?_)))))))
  refine p13 _ _ _ ?_ ⟨(k+1),rfl,t0,t1,(Eq.trans (@rfl V (iV ((k+1:Nat):Int))) (by rfl)),hF,h3,h202,?_,?_,?_⟩
  · omega
  · omega
  · omega
  · intro i i1 i2
    by_cases e:i=k
    · subst e; exact d1
    · exact hc i i1 (by omega)
 refine W_seq_exit (p33 _ _ _ (x2 _ _ (.done (W_r (R_mv t0 (R_mv rfl (R_e ?_)))))))
 refine W_ret (fork_ (R:=fun T H=>T 4=(V.ms 202 v2 0 (len))∧(∀ j,j∉[202]→H j=Hi j)∧H 3=(bk v3 150 1 [[(V.fn 155 [] [])]])∧H 202=(bz v2 54 1 (List.map cL (l)))∧True) ⟨(@rfl V (V.ms 202 v2 0 (len))),hF,h3,h202,trivial⟩ ?_)
 intro T H ⟨t4,hF,h3,h202,_⟩
 have hall:=dd_all (l:=l) (fun i i1 i2=>hc i i1 (by omega))
 have fh:=FinX.fin (FinX.put (B:=(bz v2 54 1 (List.map cL (ddK l l.length)++List.replicate (l.length - (ddK l l.length).length) [V.nilsl]))) (FinX.start hF) h202 (FinB.eq (by (rw [hall]; simp; done))))
 exact RetF_1 t4 fh (FinV.trans_eq (FinV.same fh _) (by (rw [hall,hn]; done)))
theorem compwL_E (l:List (List Int)) (v2 v3 len:Nat) (Hi:Heap) (h202:Hi 202=(bz v2 54 1 (List.map cL (l)))) (h3:Hi 3=(bk v3 150 1 [[(V.fn 123 [] [])]])) (hn:len=l.length) (hl:l.length≤1073741824):CallOK Tryz.prog 172 [(V.ms 202 v2 0 (len)),(V.fn 173 [] [(V.mp 3 v3 0 0)])] Hi (V.ms 202 v2 0 ((ddK l l.length).length)) (upd Hi 202 (bz v2 54 1 (List.map cL (ddK l l.length)++List.replicate (l.length - (ddK l l.length).length) [V.nilsl]))):=by
 refine eW (k0:=400) Tryz.func172 s172_ok fun hB=>?_
 unfold s172
 dsimp only
 refine W_r (R_mv rfl (R_e (W_seq_seq (W_r (R_mv rfl (R_len_ms rfl h202 (by simp) (R_lss rfl rfl ?_)))))))
 refine R_e ?_
 refine W_seq_if rfl (fun c1=>?_) fun c1=>?_
 ·
  refine W_seq_seq (W_r (R_mv rfl (R_mv rfl (R_e (W_seq_ret (fork_ (R:=fun T H=>T 4=(V.ms 202 v2 0 (len))∧(∀ j,j∉[202]→H j=Hi j)∧H 3=(bk v3 150 1 [[(V.fn 123 [] [])]])∧H 202=(bz v2 54 1 (List.map cL (l)))∧True) ⟨(@rfl V (V.ms 202 v2 0 (len))),(fun _ _=>rfl),h3,h202,trivial⟩ ?_))))))
  intro T H ⟨t4,hF,h3,h202,_⟩
  have hall:=dd_all (l:=l) (fun i i1 i2=>by omega)
  have fh:=FinX.fin (FinX.put (B:=(bz v2 54 1 (List.map cL (ddK l l.length)++List.replicate (l.length - (ddK l l.length).length) [V.nilsl]))) (FinX.start hF) h202 (FinB.eq (by (rw [hall]; simp; done))))
  exact RetF_1 t4 fh (FinV.trans_eq (FinV.same fh _) (by (rw [hall,hn]; done)))
 refine W_seq_skip (W_seq_seq (W_r (R_mv rfl (R_e (W_seq_blockg fun Q2 n2 x2 y2 z2=>?_)))))
 refine W_loop (fun mm T H=> ∃ (k:Nat),mm=l.length - k∧T 0=(V.ms 202 v2 0 (len))∧T 1=(V.fn 173 [] [(V.mp 3 v3 0 0)])∧T 5=(iV ((k:Nat):Int))∧(∀ j,j∉[202]→H j=Hi j)∧H 3=(bk v3 150 1 [[(V.fn 123 [] [])]])∧H 202=(bz v2 54 1 (List.map cL (l)))∧(1≤k)∧(k≤l.length)∧(∀ i,1≤i→i < k→nth l i≠nth l (i - 1))) ?_ ?_
 ·
  refine ⟨_,1,rfl,rfl,rfl,(Eq.trans (@rfl V (iV (1:Int))) rfl),(fun _ _=>rfl),h3,h202,?_,?_,?_⟩
  · omega
  · omega
  · intro i h1 h2; omega
 intro mm T H ⟨k,hmm,t0,t1,t5,hF,h3,h202,h1,hk,hc⟩ Q3 p13 p23 p33
 unfold b172_0
 refine W_seq_seq (W_r (R_mv t5 (R_mv t0 (R_len_ms rfl h202 (by simp) (R_lss rfl rfl (R_e ?_))))))
 refine W_seq_if rfl (fun c4=>?_) fun c4=>?_
 ·
  refine W_seq_skip (W_seq_blockg fun Q5 n5 x5 y5 z5=>(W_r (R_mv t1 (R_mv t0 (R_mv t5 (R_idx_ms0 (i:=k) (@rfl V (V.ms 202 v2 0 (len))) (@rfl V (iV ((k:Nat):Int))) h202 (okB_map (by omega)) rfl (by omega) (R_load_mp (v:=(ints ((nth (l) (k))))) rfl h202 (ldB_map (by omega) (by rfl)) ?_)))))))
  refine R_mv t0 (R_mv t5 (R_sub rfl rfl (by omega) (by omega) (R_idxI_ms0 (i:=(((k:Nat):Int) - (1:Int))) (@rfl V (V.ms 202 v2 0 (len))) (@rfl V (iV (((k:Nat):Int) - (1:Int)))) h202 (okB_map (by omega)) rfl (by omega) (by omega) (R_load_mp (v:=(ints ((nth (l) (((((k:Nat):Int) - (1:Int))).toNat))))) rfl h202 (ldB_map (by omega) (by rfl)) (R_callv (@rfl V (V.fn 173 [] [(V.mp 3 v3 0 0)])) (evcons (@rfl V (ints ((nth (l) (k))))) (evcons (@rfl V (ints ((nth (l) (((((k:Nat):Int) - (1:Int))).toNat))))) evnil)) (ord1L_pure ((nth (l) (k))) ((nth (l) (((((k:Nat):Int) - (1:Int))).toNat)))) (mcons (fzv_canon 6 _ (by simp [-List.map_take,-List.map_drop,-List.map_append,-List.map_reverse])) (mcons (fzv_canon 6 _ (by simp [-List.map_take,-List.map_drop,-List.map_append,-List.map_reverse])) (mcons (by simp [fzv,Blk.own,h3,h202]) rfl))) (by simp [-List.map_take,-List.map_drop,-List.map_append,-List.map_reverse]) (Or.inr rfl) (R_e ?_))))))
  refine W_if rfl (fun c6=>?_) fun c6=>?_
  ·
   have d1:nth l k=nth l (k - 1):=by have q:=lexI_zero.1 c6; rwa [show (((k:Nat):Int) - (1:Int)).toNat=k - 1 by omega] at q
   have hd:=dd_start h1 (by omega) hc d1
   refine W_r (R_mv t0 (R_mv t5 (R_slice_ms_lo (n:=k) (@rfl V (V.ms 202 v2 0 (len))) (@rfl V (iV ((k:Nat):Int))) h202 (okB_map (by omega)) rfl (by omega) (R_mv rfl (R_e (W_seq_seq (W_r ?_)))))))
   refine R_mv rfl (R_e (W_seq_blockg fun Q7 n7 x7 y7 z7=>?_))
   refine W_loop (fun mm T H=> ∃ (j:Nat),mm=l.length - (k+j)∧T 0=(V.ms 202 v2 0 (len))∧T 1=(V.fn 173 [] [(V.mp 3 v3 0 0)])∧T 5=(iV (((ddK l (k+j)).length:Nat):Int))∧T 6=(V.ms 202 v2 (0+k) (len - k))∧T 7=(iV ((j:Nat):Int))∧(∀ j,j∉[202]→H j=Hi j)∧H 3=(bk v3 150 1 [[(V.fn 123 [] [])]])∧H 202=(bz v2 54 1 (List.map cL (ddL l (k+j))))∧(k+j≤l.length)∧(1≤j)∧((ddK l (k+j)).length < k+j)) ?_ ?_
   ·
    refine ⟨_,1,rfl,t0,t1,(Eq.trans t5 (by (rw [hd.1]; done))),(Eq.trans (@rfl V (V.ms 202 v2 (0+k) (len - k))) (by rfl)),(Eq.trans (@rfl V (iV (1:Int))) rfl),hF,h3,(Eq.trans h202 (by (rw [hd.2]; done))),?_,?_,?_⟩
    · omega
    · omega
    · rw [hd.1]; omega
   intro mm T H ⟨j,hmm,t0,t1,t5,t6,t7,hF,h3,h202,hj,hj1,hlt⟩ Q8 p18 p28 p38
   unfold b172_1
   have q1:=ddL_len (L:=l) (j:=k+j) hj
   have q5:=dd_at hlt hj1
   have q6:=dd_pos (l:=l) (j:=k+j) (by omega)
   refine W_seq_seq (W_r (R_mv t7 (R_mv t6 (R_len_ms rfl h202 (by simp) (R_lss rfl rfl (R_e ?_))))))
   refine W_seq_if rfl (fun c9=>?_) fun c9=>?_
   ·
    refine W_seq_skip (W_seq_blockg fun Q10 n10 x10 y10 z10=>(W_r (R_mv t1 (R_mv t6 (R_mv t7 (R_idx_ms (i:=j) (@rfl V (V.ms 202 v2 (0+k) (len - k))) (@rfl V (iV ((j:Nat):Int))) h202 (okB_map (by omega)) rfl (by omega) (R_load_mp (v:=(ints ((nth (ddL l (k+j)) ((0+k)+(j)))))) rfl h202 (ldB_map (by omega) (by rfl)) ?_)))))))
    refine R_mv t6 (R_mv t7 (R_sub rfl rfl (by omega) (by omega) (R_idxI_ms (i:=(((j:Nat):Int) - (1:Int))) (@rfl V (V.ms 202 v2 (0+k) (len - k))) (@rfl V (iV (((j:Nat):Int) - (1:Int)))) h202 (okB_map (by omega)) rfl (by omega) (by omega) (R_load_mp (v:=(ints ((nth (ddL l (k+j)) ((0+k)+((((j:Nat):Int) - (1:Int))).toNat))))) rfl h202 (ldB_map (by omega) (by rfl)) (R_callv (@rfl V (V.fn 173 [] [(V.mp 3 v3 0 0)])) (evcons (@rfl V (ints ((nth (ddL l (k+j)) ((0+k)+(j)))))) (evcons (@rfl V (ints ((nth (ddL l (k+j)) ((0+k)+((((j:Nat):Int) - (1:Int))).toNat))))) evnil)) (ord1L_pure ((nth (ddL l (k+j)) ((0+k)+(j)))) ((nth (ddL l (k+j)) ((0+k)+((((j:Nat):Int) - (1:Int))).toNat)))) (mcons (fzv_canon 6 _ (by simp [-List.map_take,-List.map_drop,-List.map_append,-List.map_reverse])) (mcons (fzv_canon 6 _ (by simp [-List.map_take,-List.map_drop,-List.map_append,-List.map_reverse])) (mcons (by simp [fzv,Blk.own,h3,h202]) rfl))) (by simp [-List.map_take,-List.map_drop,-List.map_append,-List.map_reverse]) (Or.inr rfl) (R_not rfl (R_e ?_)))))))
    refine W_if rfl (fun c11=>?_) fun c11=>?_
    ·
     have d5:nth l (k+j)≠nth l (k+j - 1):=fun q=>c11 (lexI_zero.2 (by rw [q5.1,q5.2]; exact q))
     refine W_r (R_mv t0 (R_mv t5 (R_mv t6 (R_mv t7 (R_idx_ms (i:=j) (@rfl V (V.ms 202 v2 (0+k) (len - k))) (@rfl V (iV ((j:Nat):Int))) h202 (okB_map (by omega)) rfl (by omega) (R_load_mp (v:=(ints ((nth (ddL l (k+j)) ((0+k)+(j)))))) rfl h202 (ldB_map (by omega) (by rfl)) (R_idx_ms0 (i:=((ddK l (k+j)).length)) (@rfl V (V.ms 202 v2 0 (len))) (@rfl V (iV (((ddK l (k+j)).length:Nat):Int))) h202 (okB_map (by omega)) rfl (by omega) ?_)))))))
     refine R_store (vs:=[(ints ((nth (ddL l (k+j)) ((0+k)+(j)))))]) (B':=(bz v2 54 1 (List.map cL ((ddL l (k+j)).set ((ddK l (k+j)).length) ((nth (ddL l (k+j)) ((0+k)+(j)))))))) rfl rfl rfl h202 (stB_map (x:=((nth (ddL l (k+j)) ((0+k)+(j))))) (i:=((ddK l (k+j)).length)) (by omega) rfl rfl rfl rfl) (R_e (W_t (R_mv t5 (R_addN rfl (@rfl V (iV ((1:Nat):Int))) (by omega) (R_mv rfl (R_e (n10 _ _ ?_)))))))
     refine .done (W_t (R_mv t7 (R_addN rfl (@rfl V (iV ((1:Nat):Int))) (by omega) (R_mv rfl (R_e ?_)))))
     refine p18 _ _ _ ?_ ⟨(j+1),rfl,t0,t1,(Eq.trans (@rfl V (iV ((((ddK l (k+j)).length)+1:Nat):Int))) (by (show _=iV (((ddK l ((k+j)+1)).length:Nat):Int); rw [ddK_keep (.inr d5),List.length_append]; rfl))),(Eq.trans t6 (by rfl)),(Eq.trans (@rfl V (iV ((j+1:Nat):Int))) (by rfl)),(upd_out hF (by decide)),h3,(Eq.trans (@rfl Blk (bz v2 54 1 (List.map cL ((ddL l (k+j)).set ((ddK l (k+j)).length) ((nth (ddL l (k+j)) ((0+k)+(j)))))))) (by (rw [q5.1,ddL_keep (show k+j < l.length by omega) (.inr d5)]; rfl))),?_,?_,?_⟩
     · omega
     · omega
     · omega
     · first|(show (ddK l ((k+j)+1)).length < (k+j)+1; rw [ddK_keep (.inr d5),List.length_append]; simp; omega)|(show (ddK l ((k+j)+1)).length < (k+j)+1; rw [ddK_skip (by rintro (q|q); omega; exact q d5)]; omega)
    have d5:nth l (k+j)=nth l (k+j - 1):=by have q:=lexI_zero.1 (Decidable.not_not.1 c11); rwa [q5.1,q5.2] at q
    refine W_skip (n10 _ _ (.done (W_t (R_mv t7 (R_addN rfl (@rfl V (iV ((1:Nat):Int))) (by omega) (R_mv rfl (R_e ?_)))))))
    refine p18 _ _ _ ?_ ⟨(j+1),rfl,t0,t1,(Eq.trans t5 (by (show _=iV (((ddK l ((k+j)+1)).length:Nat):Int); rw [ddK_skip (by rintro (q|q); omega; exact q d5)]; done))),(Eq.trans t6 (by rfl)),(Eq.trans (@rfl V (iV ((j+1:Nat):Int))) (by rfl)),hF,h3,(Eq.trans h202 (by (show _=(⟨_,_,_,_,_,List.map cL (ddL l ((k+j)+1))⟩:Blk); rw [ddL_skip (by rintro (q|q); omega; exact q d5)]; done))),?_,?_,?_⟩
    · omega
    · omega
    · omega
    · first|(show (ddK l ((k+j)+1)).length < (k+j)+1; rw [ddK_keep (.inr d5),List.length_append]; simp; omega)|(show (ddK l ((k+j)+1)).length < (k+j)+1; rw [ddK_skip (by rintro (q|q); omega; exact q d5)]; omega)
   refine W_seq_exit (p38 _ _ _ (x7 _ _ (.done (W_r (R_mv t0 (R_mv t5 (R_slice_ms_lo (n:=((ddK l (k+j)).length)) (@rfl V (V.ms 202 v2 0 (len))) (@rfl V (iV (((ddK l (k+j)).length:Nat):Int))) h202 (okB_map (by omega)) rfl (by omega) ?_)))))))
   refine R_clr (m:=(((ddK l (k+j)).length))) (n:=(len - ((ddK l (k+j)).length))) (f:=cL) (l:=(ddL l (k+j))) (Eq.trans (@rfl V (V.ms 202 v2 (0+((ddK l (k+j)).length)) (len - ((ddK l (k+j)).length)))) (congrArg (fun n=>V.ms 202 v2 n (len - ((ddK l (k+j)).length))) (Nat.zero_add _))) h202 rfl (by decide) rfl (by omega) (by omega) (R_e (W_r (R_mv t0 (R_mv t5 (R_slice_ms_hi (n:=((ddK l (k+j)).length)) (@rfl V (V.ms 202 v2 0 (len))) (@rfl V (iV (((ddK l (k+j)).length:Nat):Int))) (@rfl Blk (bz v2 54 1 (List.map cL (List.take (((ddK l (k+j)).length)) (ddL l (k+j)))++List.replicate (len - ((ddK l (k+j)).length)) [V.nilsl]))) (okB_zap (by (simp only [List.length_take]; omega))) rfl (by omega) (R_mv rfl (R_e ?_)))))))
   refine W_ret (y5 _ _ (p23 _ _ (y2 _ _ (fork_ (R:=fun T H=>T 4=(V.ms 202 v2 0 ((ddK l (k+j)).length))∧(∀ j,j∉[202]→H j=Hi j)∧H 3=(bk v3 150 1 [[(V.fn 123 [] [])]])∧H 202=(bz v2 54 1 (List.map cL (List.take (((ddK l (k+j)).length)) (ddL l (k+j)))++List.replicate (len - ((ddK l (k+j)).length)) [V.nilsl]))∧True) ⟨(@rfl V (V.ms 202 v2 0 ((ddK l (k+j)).length))),(upd_out hF (by decide)),h3,rfl,trivial⟩ ?_))))
   intro T H ⟨t4,hF,h3,h202,_⟩
   skip
   have fh:=FinX.fin (FinX.put (B:=(bz v2 54 1 (List.map cL (ddK l l.length)++List.replicate (l.length - (ddK l l.length).length) [V.nilsl]))) (FinX.start hF) h202 (FinB.eq (by (rw [dd_take (show l.length≤k+j by omega) hj,show k+j=l.length by omega,hn]; done))))
   exact RetF_1 t4 fh (FinV.trans_eq (FinV.same fh _) (by (rw [show k+j=l.length by omega]; done)))
  have d1:nth l k≠nth l (k - 1):=fun q=>c6 (lexI_zero.2 (by rw [show (((k:Nat):Int) - (1:Int)).toNat=k - 1 by omega]; exact q))
  refine W_skip (n5 _ _ (.done (W_t (R_mv t5 (R_addN rfl (@rfl V (iV ((1:Nat):Int))) (by omega) (R_mv rfl (R_e ?_)))))))
  refine p13 _ _ _ ?_ ⟨(k+1),rfl,t0,t1,(Eq.trans (@rfl V (iV ((k+1:Nat):Int))) (by rfl)),hF,h3,h202,?_,?_,?_⟩
  · omega
  · omega
  · omega
  · intro i i1 i2
    by_cases e:i=k
    · subst e; exact d1
    · exact hc i i1 (by omega)
 refine W_seq_exit (p33 _ _ _ (x2 _ _ (.done (W_r (R_mv t0 (R_mv rfl (R_e ?_)))))))
 refine W_ret (fork_ (R:=fun T H=>T 4=(V.ms 202 v2 0 (len))∧(∀ j,j∉[202]→H j=Hi j)∧H 3=(bk v3 150 1 [[(V.fn 123 [] [])]])∧H 202=(bz v2 54 1 (List.map cL (l)))∧True) ⟨(@rfl V (V.ms 202 v2 0 (len))),hF,h3,h202,trivial⟩ ?_)
 intro T H ⟨t4,hF,h3,h202,_⟩
 have hall:=dd_all (l:=l) (fun i i1 i2=>hc i i1 (by omega))
 have fh:=FinX.fin (FinX.put (B:=(bz v2 54 1 (List.map cL (ddK l l.length)++List.replicate (l.length - (ddK l l.length).length) [V.nilsl]))) (FinX.start hF) h202 (FinB.eq (by (rw [hall]; simp; done))))
 exact RetF_1 t4 fh (FinV.trans_eq (FinV.same fh _) (by (rw [hall,hn]; done)))
end Go.Proofs.YtmnjchcoigbngabGreat
namespace Go.Proofs.YtmnjchcoigbngabGreat
open Go Go.Sort Go.Proofs Go.Shelf
theorem R.pure_same {x y:Cx} {v:V} {c:Value} (h:R x v c) (hp:v.pure=true) (hw: ∀ b,x.Z b→y.w.heap[b]?=x.w.heap[b]?) (hz: ∀ b,x.Z b→y.Z b):R y v c:=by
  have keep: ∀ a:Addr,x.Z a.block→ ∀ n,y.w.cell? (a.add n)=x.w.cell? (a.add n):=fun a ha n=>by
    refine cell_of_heap ?_
    rw [addr_add_block]; exact hw _ ha
  induction h with
  |int k n=>exact .int k n
  |bool b=>exact .bool b
  |str s=>exact .str s
  |nilsl=>exact .nilsl
  |slnil=>exact .slnil
  |sl rows a cap sz cs hc hm hzz hsz hcell _ ih=>
    simp only [V.pure] at hp
    refine .sl rows a cap sz cs hc hm (fun hne=>hz _ (hzz hne)) hsz (fun r row j v hr hj=>by rw [keep a (hzz (by intro e; subst e; simp at hr))]; exact hcell r row j v hr hj) fun r row j v hr hj=>ih r row j v hr hj ?_
    exact pureL_iff.1 (pureLL_iff.1 hp row (List.mem_of_getElem? hr)) v (List.mem_of_getElem? hj)
  |ms=>simp [V.pure] at hp
  |pp cells a cs hzz hcell _ ih=>
    simp only [V.pure] at hp
    exact .pp cells a cs (fun hne=>hz _ (hzz hne)) (fun j v hj=>by rw [keep a (hzz (by intro e; subst e; simp at hj))]; exact hcell j v hj) fun j v hj=>ih j v hj (pureL_iff.1 hp v (List.mem_of_getElem? hj))
  |nilp=>exact .nilp
  |mp=>simp [V.pure] at hp
  |agg cells cs hs _ ih=>
    simp only [V.pure] at hp
    exact .agg cells cs hs fun j v hj=>ih j v hj (pureL_iff.1 hp v (List.mem_of_getElem? hj))
  |tup vs cs hs _ ih=>
    simp only [V.pure] at hp
    exact .tup vs cs hs fun j v hj=>ih j v hj (pureL_iff.1 hp v (List.mem_of_getElem? hj))
  |fn f first caps fs cs hfs hcs _ _ ih1 ih2=>
    simp only [V.pure,Bool.and_eq_true] at hp
    exact .fn f first caps fs cs hfs hcs (fun j v hj=>ih1 j v hj (pureL_iff.1 hp.1 v (List.mem_of_getElem? hj))) fun j v hj=>ih2 j v hj (pureL_iff.1 hp.2 v (List.mem_of_getElem? hj))
  |raw c hh=>exact .raw c hh
theorem step_grow {x:Cx} (hx:Inv x) (os:Array Obj):let y:Cx:={x with w:=Go.Sort.grow x.w os}; Inv y∧Frame x y:=by
  intro y
  have hp: ∀ b,b < x.w.heap.size→y.w.heap[b]?=x.w.heap[b]?:=fun b hb=>by
    show (x.w.heap++os)[b]?=_
    rw [Array.getElem?_append,if_pos hb]
  have hs:x.w.heap.size≤y.w.heap.size:=by show _≤(x.w.heap++os).size; simp
  have hf:Frame x y:=by
    refine ⟨rfl,rfl,rfl,hs,fun b hb _=>hp b hb,fun _ h=>h,fun b h=>.inl h,fun id=>⟨Nat.le_refl _,fun h _=>⟨h,rfl,rfl,rfl,fun h=>⟨rfl,?_⟩⟩⟩,fun _ h=>.inl ⟨h,rfl⟩,Nat.le_refl _⟩
    unfold rowSize; rw [hp _ (hx.lt h)]
  refine ⟨⟨fun b h=>Nat.lt_of_lt_of_le (hx.zlt b h) hs,hx.zown,fun id hl=>?_,hx.inj⟩,hf⟩
  obtain ⟨cc,h1,h2,h3,h4⟩:=hx.blk id hl
  exact ⟨cc,by rw [hp _ (hx.lt hl)]; exact h1,h2,h3,fun r row j v hr hj=>(h4 r row j v hr hj).frame hx hf⟩
def SortNone (P:Program) (f:Nat):Prop:= ∀ (p:Option Addr) (cap:Nat) (fv:Value) (w:World),Calls P f #[.slice p 0 cap,fv] w fun e w'=>e=.returned (.tuple #[])∧w'=w
theorem enters_callable {P:Program} {g:Nat} (h:callable P g): ∀ args w,(callFunc g args).run P w=.ok (.enter g args) w:=by
  obtain ⟨fn,h1,h2,h3⟩:=h
  obtain ⟨c,hc⟩:=Option.isSome_iff_exists.1 h2
  exact enters_of h1 h3 hc
theorem grown_of_frame {z y:Cx} (hf:Frame z y) (hno: ∀ id,(z.H id).own=false): ∃ q os,y.w=grow (z.w.drewN q) os:=by
  refine ⟨y.w.drawn - z.w.drawn,y.w.heap.extract z.w.heap.size y.w.heap.size,?_⟩
  have e1:=hf.os; have e2:=hf.tape; have e3:=hf.output; have e4:=hf.drawn; have e5:=hf.size
  have e6:y.w.heap=z.w.heap++y.w.heap.extract z.w.heap.size y.w.heap.size:=by
    refine Array.ext_getElem? fun b=>?_
    rw [Array.getElem?_append]
    split
    · rename_i hb
      exact hf.keep b hb fun id h=>by rw [hno id] at h; cases h
    · rename_i hb
      rw [Array.getElem?_extract]
      by_cases h:b < y.w.heap.size
      · rw [if_pos (by omega)]; congr 1; omega
      · rw [if_neg (by omega),Array.getElem?_eq_none (by omega)]
  have e7:y.w.drawn=z.w.drawn+(y.w.drawn - z.w.drawn):=by omega
  unfold grow World.drewN
  cases hy:y.w with
  |mk heap tape drawn os output=>
    rw [hy] at e1 e2 e3 e6 e7
    simp only at e1 e2 e3 e6 e7 ⊢
    rw [← e6,← e7,e1,e2,e3]
section
variable {P:Program} {α:Type} [Inhabited α] {enc:α→List Value} {k:Nat} {w:World} {blk off m:Nat} {dk:Array α} {os:Array Obj}
end
theorem nth_set_eq {α:Type} [Inhabited α] (d:Array α) (i:Nat) (h:i < d.size):d[i]! =nth d.toList i:=by
  rw [getElem!_pos d i h,← nth_getElem (by simpa using h)]; rfl
section
variable {P:Program}
end
end Go.Proofs.YtmnjchcoigbngabGreat
namespace Go.Proofs.YtmnjchcoigbngabGreat
open Go Go.Proofs Go.Shelf Go.Sort Go.Lib
def SortSpec1 (P:Program) (f:Nat):Prop:= ∀ {α:Type} [Inhabited α] (enc:α→Value) (_:OneCell enc) (cf:α→α→Int) (_:SWO (ltOf cf)) (g:Nat) (cb:Array Value) (blk off cap:Nat) (d:Array α) (w:World)
    (_: ∀ args w,(callFunc g args).run P w=.ok (.enter g args) w) (_:CmpLays1 P g cb enc cf blk off d.size w) (_:Holds enc w blk off d) (_:blk < w.heap.size) (_:d.size < 4611686018427387904),
    Calls P f #[.slice (some ⟨blk,off,none⟩) d.size cap,.func (.func g) #[] cb] w fun e w'=>
      e=.returned (.tuple #[])∧ ∃ d' n os,PermIn 0 d.size d d'∧SortedIn (ltOf cf) 0 d.size d'∧w'=sortWorld enc w blk off n d' os
section
variable {P:Program} {α:Type} [Inhabited α] {enc:α→Value} {w:World} {blk off m:Nat} {dk:Array α} {os:Array Obj}
theorem sortWorld1_other {b:Nat} (hb:b < w.heap.size) (hne:b≠blk):(sortWorld enc w blk off m dk os).heap[b]?=w.heap[b]?:=by
  unfold sortWorld grow putRow mapBlock Sort.ahead
  simp only
  rw [Array.getElem?_append,if_pos (by simpa using hb),Array.getElem?_modify,if_neg (Ne.symm hne)]
theorem sortWorld1_size:w.heap.size≤(sortWorld enc w blk off m dk os).heap.size:=by
  unfold sortWorld grow putRow mapBlock Sort.ahead
  simp
theorem sortWorld1_eq {cc:Array Value} {ty:TypeId} (h:w.heap[blk]?=some (.cells cc ty (0,0))):
    sortWorld enc w blk off m dk os=grow {w.setRow blk (putCells enc off dk cc) with drawn:=w.drawn+m} os:=by
  unfold sortWorld putRow mapBlock Sort.ahead World.setRow
  congr 2
  refine Array.ext_getElem? fun b=>?_
  simp only [Array.getElem?_modify]
  by_cases e:blk=b
  · subst e
    simp only [if_true,h,Option.map_some,onCells]
  · simp only [if_neg e]
end
theorem CallOK_sort1 {P:Program} {f g:Nat} (hS:SortSpec1 P f) (hN:SortNone P f) (hcf:callable P f) (hcg:callable P g) {T:Type} [Inhabited T] {f0:T→V} {l:List T} {cmp:T→T→Int}
    (hO:SWO fun a b=>decide (cmp a b < 0)) (hT: ∀ a∈l,∀ b∈l,¬cmp a b < 0→ ¬cmp b a < 0→a=b)
    (hc: ∀ a∈l,∀ b∈l,PureC P g [f0 a,f0 b] (iV (cmp a b))) (hp: ∀ a∈l,(f0 a).pure=true) (h1: ∀ a∈l,(f0 a).one=true)
    (hl:l.length < 4611686018427387904) {id ver ty:Nat} {lz:Bool} {H:Heap} (hH:H id=⟨ver,true,lz,ty,1,l.map fun a=>[f0 a]⟩):
    CallOK P f [.ms id ver 0 l.length,.fn g [] []] H (.tup []) (upd H id ⟨ver,true,lz,ty,1,(srt cmp l).map fun a=>[f0 a]⟩):=by
  refine ⟨hcf,fun x cs hxH hx hr=>?_⟩
  subst hxH
  obtain ⟨c0,c1,rfl⟩: ∃ c0 c1,cs=[c0,c1]:=by
    have:=hr.1
    match cs with
    |[a,b]=>exact ⟨a,b,rfl⟩
    |[]=>simp at this
    |[_]=>simp at this
    |_::_::_::_=>simp at this
  have r0:R x (.ms id ver 0 l.length) c0:=hr.2 0 _ rfl
  have r1:R x (.fn g [] []) c1:=hr.2 1 _ rfl
  cases r1 with
  |fn _ _ _ fs cb hfs hcs _ _=>
  have hfs':fs=#[]:=Array.eq_empty_of_size_eq_zero (by simpa using hfs)
  have hcs':cb=#[]:=Array.eq_empty_of_size_eq_zero (by simpa using hcs)
  subst hfs'; subst hcs'
  cases r0 with
  |ms _ _ _ _ b n cap hv hh=>
  obtain ⟨e1,e2,e3,e4,e5,e6⟩:=hh (by rw [hH]) (by rw [hH])
  subst e1
  by_cases hne:l=[]
  · subst hne
    refine (hN b cap (.func (.func g) #[] #[]) x.w).mono fun e w' h=>?_
    obtain ⟨rfl,rfl⟩:=h
    refine ⟨_,x,rfl,rfl,?_,hx,.tup [] #[] rfl (fun j v hj=>by simp at hj),Frame.refl x⟩
    funext j
    by_cases e:j=id
    · subst e; rw [upd_same,hH]; simp [srt]
    · rw [upd_ne _ _ e]
  have hpos:0 < l.length:=List.length_pos_iff.2 hne
  have ho:(x.H id).own=true:=by
    rw [hH]
    cases l with
    |nil=>exact (hne rfl).elim
    |cons a l=>simp [Blk.own]
  obtain ⟨e7,_⟩:=e5 ho
  rw [hH] at e7
  simp only [Nat.zero_mul] at e7
  subst e7
  obtain ⟨cc,b1,b2,b3,b4⟩:=hx.blk id ho
  simp only [hH] at b1 b2 b3 b4
  rw [List.length_map,Nat.mul_one] at b3
  let A:Type:={i:Nat // i < l.length}
  haveI:Inhabited A:=⟨⟨0,hpos⟩⟩
  let enc:A→Value:=fun i=>cc.getD i.1 undef
  let cf:A→A→Int:=fun a b=>cmp (nth l a.1) (nth l b.1)
  let d:Array A:=Array.ofFn fun i:Fin l.length=>(⟨i.1,i.2⟩:A)
  have hdn:d.size=l.length:=by simp [d]
  have hdi: ∀ i (h:i < l.length),d[i]! =⟨i,h⟩:=fun i h=>by
    rw [getElem!_pos d i (by rw [hdn]; exact h)]; simp [d]
  have hrow: ∀ i,i < l.length→(l.map fun a=>[f0 a])[i]?=some [f0 (nth l i)]:=fun i hi=>by rw [List.getElem?_map,nth_eq hi]; rfl
  have hRx: ∀ a:A,R x (f0 (nth l a.1)) (cc.getD a.1 undef):=fun a=>by
    have:=b4 a.1 _ 0 _ (hrow a.1 a.2) rfl
    rwa [Nat.mul_one,Nat.add_zero] at this
  have hO':SWO (ltOf cf):=⟨fun a=>hO.irrefl _,fun a b c=>hO.trans _ _ _,fun a b c=>hO.ntrans _ _ _⟩
  have hcmp:CmpLays1 P g #[] enc cf (x.σ id) 0 d.size x.w:=by
    intro m os dk hdk a b
    let W:=sortWorld enc x.w (x.σ id) 0 m dk os
    let z:Cx:=start {x with w:=W} x.Z
    have hz:Inv z:=start_ok fun b hb=>Nat.lt_of_lt_of_le (hx.zlt b hb) sortWorld1_size
    have hag: ∀ a:A,R z (f0 (nth l a.1)) (enc a):=fun a=>by
      refine (hRx a).pure_same (y:=z) (hp _ (nth_mem a.2)) (fun b hb=>?_) fun _ h=>h
      exact sortWorld1_other (hx.zlt b hb) fun e=>hx.zown b id hb ho e.symm
    have hrl:RL z [f0 (nth l a.1),f0 (nth l b.1)] [enc a,enc b]:=by
      refine ⟨rfl,fun j v hj=>?_⟩
      match j,hj with
      |0,hj=>simp at hj; subst hj; exact hag a
      |1,hj=>simp at hj; subst hj; exact hag b
    refine ((hc _ (nth_mem a.2) _ (nth_mem b.2) H0).2 z _ rfl hz hrl).mono fun e w' h=>?_
    obtain ⟨c,y,rfl,rfl,_,_,h5,h6⟩:=h
    cases h5
    obtain ⟨q,os',hq⟩:=grown_of_frame h6 fun id=>rfl
    exact ⟨rfl,q,os',hq⟩
  have hsz:d.size < 4611686018427387904:=by rw [hdn]; exact hl
  have hH':Holds enc x.w (x.σ id) 0 d:=by
    intro j hj
    rw [hdn] at hj
    have e:enc d[j]! =cc.getD j undef:=by rw [hdi _ hj]
    have hjc:j < cc.size:=by omega
    refine ⟨?_,?_⟩
    · rw [e,Nat.zero_add]; exact own_cell b1 hjc
    · simp [World.frozen?,b1]
  have hcall:=hS enc (fun a=>(hRx a).one (h1 _ (nth_mem a.2))) cf hO' g #[] (x.σ id) 0 cap d x.w (enters_callable hcg) hcmp hH' (hx.lt ho) hsz
  rw [hdn] at hcall
  refine hcall.mono fun e w' h=>?_
  obtain ⟨rfl,d',n',os',hP,hSo,rfl⟩:=h
  obtain ⟨p1,_,p3⟩:=hP
  rw [hdn] at p1
  have x1:d'.extract 0 l.length=d':=by rw [← p1]; simp
  have x2:d.extract 0 l.length=d:=by rw [← hdn]; simp
  rw [x1,x2] at p3
  have hmap:d.toList.map (fun a:A=>nth l a.1)=l:=by
    refine nth_ext (by simp [hdn]) fun j hj=>?_
    have hj':j < l.length:=by simpa [hdn] using hj
    rw [nth_map (by simpa using hj),← nth_set_eq d j (by rw [hdn]; exact hj'),hdi j hj']
  have hl':d'.toList.map (fun a:A=>nth l a.1)=srt cmp l:=by
    have hperm:(d'.toList.map (fun a:A=>nth l a.1)).Perm l:=by
      have:=p3.map (fun a:A=>nth l a.1)
      rwa [hmap] at this
    refine sorted_uniq (le:=fun a b=> ¬cmp b a < 0) (fun a ha b hb h1 h2=>hT a (hperm.mem_iff.1 ha) b (hperm.mem_iff.1 hb) h2 h1) (hperm.trans (srt_perm cmp l).symm) ?_ (srt_sorted hO l)
    rw [List.pairwise_map,List.pairwise_iff_getElem]
    intro i j hi hj hij
    have h:=hSo i j (Nat.zero_le _) hij (by rw [← p1]; simpa using hj)
    rw [nth_set_eq d' i (by simpa using hi),nth_set_eq d' j (by simpa using hj),← nth_getElem hi,← nth_getElem hj] at h
    simpa [ltOf,cf] using h
  let cc':=putCells enc 0 d' cc
  have hcs:cc'.size=cc.size:=by simp [cc',putCells]
  have hg: ∀ r,r < l.length→ ∀ (hr:r < d'.size),cc'.getD r undef=cc.getD (d'[r]'hr).1 undef:=by
    intro r hr hr'
    have e:cc'[r]?=some (enc d'[r]!):=by
      simp only [cc',putCells,Array.getElem?_mapIdx]
      rw [Array.getElem?_eq_getElem (by omega)]
      simp [hr']
    rw [Array.getD_eq_getD_getElem?,e,getElem!_pos d' r hr']
    rfl
  have hrows: ∀ (r:Nat) (row:List V) (j:Nat) (v:V),((srt cmp l).map fun a=>[f0 a])[r]?=some row→row[j]?=some v→R x v (cc'.getD (r*1+j) undef):=by
    intro r row j v hr hj
    rw [← hl',List.map_map,List.getElem?_map] at hr
    obtain ⟨a,ha,rfl⟩:=map_some hr
    have har:=List.getElem?_eq_some_iff.1 ha
    obtain ⟨hlt,hae⟩:=har
    have hlt':r < d'.size:=by simpa using hlt
    have hj0:j=0:=by
      have:=(List.getElem?_eq_some_iff.1 hj).1
      simp at this; exact this
    subst hj0
    simp only [Function.comp_apply,List.getElem?_cons_zero,Option.some.injEq] at hj
    subst hj
    rw [Nat.mul_one,Nat.add_zero,hg r (by omega) hlt']
    have hae':d'[r]'hlt'=a:=by simpa using hae
    rw [hae']
    exact hRx a
  have st:=step_set hx id ho cc cc' (by rw [hH]; exact b1) hcs (x.H id).ver ((srt cmp l).map fun a=>[f0 a]) (Nat.le_refl _) (fun _=>by rw [hH]; simp [srt]) (by
      rw [hH]
      have:(srt cmp l).length=l.length:=by simp [srt]
      cases hq:srt cmp l with
      |nil=>rw [hq] at this; simp at this; omega
      |cons a q=>simp) (fun r hr=>by
      rw [hH]
      obtain ⟨a,_,rfl⟩:=List.mem_map.1 hr
      rfl) (by rw [hH]; simpa [srt] using b3) (by simp only [hH]; exact hrows)
  simp only [hH] at st
  obtain ⟨i1,f1⟩:=st
  obtain ⟨i2,f2⟩:=step_draw i1 (x.w.drawn+n') (Nat.le_add_right _ _)
  obtain ⟨i3,f3⟩:=step_grow i2 os'
  refine ⟨.tuple #[],_,rfl,?_,?_,i3,.tup [] #[] rfl (fun j v hj=>by simp at hj),(f1.trans f2).trans f3⟩
  · rw [sortWorld1_eq b1]
  · rfl
end Go.Proofs.YtmnjchcoigbngabGreat
namespace Go.Proofs.YtmnjchcoigbngabGreat
open Go Go.Proofs Go.Shelf Go.Sort
def sortRen171:Go.Shelf.Ren:=⟨fun|6=>171|15=>195|14=>194|28=>217|29=>218|20=>209|21=>210|22=>211|23=>212|24=>213|25=>214|26=>215|27=>216|46=>229|47=>230|48=>231|49=>232|50=>233|57=>236|n=>n,fun|22=>37|24=>54|25=>150|3=>3|39=>239|0=>0|53=>268|55=>270|4=>4|46=>262|45=>261|50=>157|5=>5|9=>9|66=>276|70=>280|76=>283|77=>241|n=>n,fun n=>n⟩
theorem sortLay171:SlLaysF.n6 Tryz.prog sortRen171:={
  mixed:=(by kernel_rfl),
  f6:=⟨Tryz.f171.name,by decide,Tryz.func171.trans (congrArg some (by kernel_rfl))⟩,
  f14:=⟨Tryz.f194.name,by decide,Tryz.func194.trans (congrArg some (by kernel_rfl))⟩,
  f15:=Tryz.func195.trans (congrArg some (by kernel_rfl)),
  f20:=⟨Tryz.f209.name,by decide,Tryz.func209.trans (congrArg some (by kernel_rfl))⟩,
  f21:=⟨Tryz.f210.name,by decide,Tryz.func210.trans (congrArg some (by kernel_rfl))⟩,
  f22:=⟨Tryz.f211.name,by decide,Tryz.func211.trans (congrArg some (by kernel_rfl))⟩,
  f23:=⟨Tryz.f212.name,by decide,Tryz.func212.trans (congrArg some (by kernel_rfl))⟩,
  f24:=⟨Tryz.f213.name,by decide,Tryz.func213.trans (congrArg some (by kernel_rfl))⟩,
  f25:=⟨Tryz.f214.name,by decide,Tryz.func214.trans (congrArg some (by kernel_rfl))⟩,
  f26:=⟨Tryz.f215.name,by decide,Tryz.func215.trans (congrArg some (by kernel_rfl))⟩,
  f27:=⟨Tryz.f216.name,by decide,Tryz.func216.trans (congrArg some (by kernel_rfl))⟩,
  f28:=Tryz.func217.trans (congrArg some (by kernel_rfl)),
  f29:=Tryz.func218.trans (congrArg some (by kernel_rfl)),
  f46:=⟨Tryz.f229.name,by decide,Tryz.func229.trans (congrArg some (by kernel_rfl))⟩,
  f47:=Tryz.func230.trans (congrArg some (by kernel_rfl)),
  f48:=Tryz.func231.trans (congrArg some (by kernel_rfl)),
  f49:=⟨Tryz.f232.name,by decide,Tryz.func232.trans (congrArg some (by kernel_rfl))⟩,
  f50:=⟨Tryz.f233.name,by decide,Tryz.func233.trans (congrArg some (by kernel_rfl))⟩,
  f57:=⟨Tryz.f236.name,by decide,Tryz.func236.trans (congrArg some (by kernel_rfl))⟩,
  t0:=Tryz.underlying0,
  a0:=Tryz.isAgg0,
  z0:=Tryz.sizeOf0,
  v0:=Tryz.zeroValue0,
  t3:=Tryz.underlying3,
  a3:=Tryz.isAgg3,
  z3:=Tryz.sizeOf3,
  v3:=Tryz.zeroValue3,
  t4:=Tryz.underlying4,
  a4:=Tryz.isAgg4,
  z4:=Tryz.sizeOf4,
  v4:=Tryz.zeroValue4,
  t5:=Tryz.underlying5,
  a5:=Tryz.isAgg5,
  z5:=Tryz.sizeOf5,
  v5:=Tryz.zeroValue5,
  t9:=Tryz.underlying9,
  a9:=Tryz.isAgg9,
  z9:=Tryz.sizeOf9,
  v9:=Tryz.zeroValue9,
  t22:=Tryz.underlying37,
  a22:=Tryz.isAgg37,
  z22:=Tryz.sizeOf37,
  v22:=Tryz.zeroValue37,
  a24:=Tryz.isAgg54,
  z24:=Tryz.sizeOf54,
  t25:=Tryz.underlying150,
  a25:=Tryz.isAgg150,
  z25:=Tryz.sizeOf150,
  v25:=Tryz.zeroValue150,
  t39:=Tryz.underlying239,
  a39:=Tryz.isAgg239,
  z39:=Tryz.sizeOf239,
  v39:=Tryz.zeroValue239,
  t45:=Tryz.underlying261,
  a45:=Tryz.isAgg261,
  z45:=Tryz.sizeOf261,
  v45:=Tryz.zeroValue261,
  t46:=Tryz.underlying262,
  a46:=Tryz.isAgg262,
  z46:=Tryz.sizeOf262,
  v46:=Tryz.zeroValue262,
  t50:=Tryz.underlying157,
  a50:=Tryz.isAgg157,
  z50:=Tryz.sizeOf157,
  v50:=Tryz.zeroValue157,
  t53:=Tryz.underlying268,
  a53:=Tryz.isAgg268,
  z53:=Tryz.sizeOf268,
  v53:=Tryz.zeroValue268,
  t55:=Tryz.underlying270,
  a55:=Tryz.isAgg270,
  z55:=Tryz.sizeOf270,
  v55:=Tryz.zeroValue270,
  t66:=Tryz.underlying276,
  a66:=Tryz.isAgg276,
  z66:=Tryz.sizeOf276,
  v66:=Tryz.zeroValue276,
  t70:=Tryz.underlying280,
  a70:=Tryz.isAgg280,
  z70:=Tryz.sizeOf280,
  v70:=Tryz.zeroValue280,
  t76:=Tryz.underlying283,
  a76:=Tryz.isAgg283,
  z76:=Tryz.sizeOf283,
  v76:=Tryz.zeroValue283,
  t77:=Tryz.underlying241,
  a77:=Tryz.isAgg241,
  z77:=Tryz.sizeOf241,
  v77:=Tryz.zeroValue241}
theorem sortSpec171:SortSpec1 Tryz.prog 171:=fun enc h1 cf hO g cb blk off cap d w eg hcmp hH hblk hsz=>
  Any.slices_SortFunc sortLay171 enc h1 cf hO g cb blk off cap d w eg hcmp hH hblk hsz
theorem sortCall171:callable Tryz.prog 171:=⟨_,Tryz.func171,by kernel_rfl,by kernel_rfl⟩
theorem sortNone171:SortNone Tryz.prog 171:=fun p cap fv w=>AnyF.slices_SortFunc_none {sortLay171 with} p cap fv w
end Go.Proofs.YtmnjchcoigbngabGreat
namespace Go.Proofs.YtmnjchcoigbngabGreat
open Go Go.Proofs
theorem ordered_pure (l:List (List Int)) (hl:l.length≤1073741824) (hw: ∀ w∈l,w.length≤1048576):PureC Tryz.prog 122 [(intss l),(V.fn 155 [] [])] (intss (sdP l)):=by
 refine pW Tryz.func122 s122_ok fun hB=>?_
 unfold s122
 dsimp only
 have q9:(ddK (srt slx l) (srt slx l).length).length≤l.length:=sdP_len l
 refine W_r (R_box (i:=3) (n:=0) (m:=1) (cs:=[(V.fn 155 [] [])]) rfl (congrArg Blk.ver rfl) rfl rfl rfl (R_mv rfl (R_e (W_r (R_mv rfl (R_callE (evcons rfl evnil) (clonew_E l 0 _ (congrArg Blk.ver rfl) (by omega)) (R_mv rfl ?_)))))))
 refine R_e (W_r (R_mv rfl (R_lk rfl rfl rfl rfl (R_callE (evcons rfl (evcons rfl evnil)) (CallOK_sort1 (f0:=ints) (l:=l) (cmp:=slx) sortSpec171 sortNone171 sortCall171 ⟨_,Tryz.func155,by kernel_rfl,by kernel_rfl⟩ slx_swo (fun a _ b _ h1 h2=>slx_same h1 h2) (fun a _ b _=>compare_pure a b) (fun a _=>by simp) (fun a _=>rfl) (by omega) rfl) (R_e (W_r (R_mv rfl ?_)))))))
 refine R_mkf (evcons rfl evnil) (R_callE (evcons rfl (evcons rfl evnil)) (compw_E (srt slx l) 3 1 l.length _ (@rfl Blk (bz 3 54 1 (List.map cL (srt slx l)))) (@rfl Blk (bk 1 150 1 [[(V.fn 155 [] [])]])) (by simp [srt_len]) (by simp only [srt_len]; omega)) (R_mv rfl (R_e (W_seq_seq (W_r (R_mv rfl (R_len_ms rfl (@rfl Blk (bz 3 54 1 (List.map cL (ddK (srt slx l) (srt slx l).length)++List.replicate ((srt slx l).length - (ddK (srt slx l) (srt slx l).length).length) [V.nilsl]))) (by rfl) ?_)))))))
 refine R_mv rfl (R_e (W_seq_blockg fun Q1 n1 x1 y1 z1=>?_))
 refine W_loop (fun mm T H=> ∃ (k:Nat),mm=((ddK (srt slx l) (srt slx l).length).length) - k∧T 5=(V.ms 202 3 0 ((ddK (srt slx l) (srt slx l).length).length))∧T 16=(V.ms 202 3 0 ((ddK (srt slx l) (srt slx l).length).length))∧T 17=(iV (((ddK (srt slx l) (srt slx l).length).length:Nat):Int))∧T 18=(iV ((k:Nat):Int))∧H 3=(bk 1 150 1 [[(V.fn 155 [] [])]])∧H 202=(bz 3 54 1 (List.map cL (ddK (srt slx l) (srt slx l).length)++List.replicate ((srt slx l).length - (ddK (srt slx l) (srt slx l).length).length) [V.nilsl]))∧(k≤(ddK (srt slx l) (srt slx l).length).length)) ?_ ?_
 ·
  refine ⟨_,0,rfl,rfl,rfl,rfl,(Eq.trans (@rfl V (iV (0:Int))) rfl),rfl,rfl,?_⟩
  · omega
 intro mm T H ⟨k,hmm,t5,t16,t17,t18,h3,h202,hk⟩ Q2 p12 p22 p32
 unfold b122_0
 refine W_r (R_lss t18 t17 (R_e ?_))
 refine W_seq_if rfl (fun c3=>?_) fun c3=>?_
 ·
  refine W_seq_skip (W_seq_blockg fun Q4 n4 x4 y4 z4=>(W_r (R_mv t18 (R_idx_ms0 (i:=k) t16 t18 h202 (okB_zap (by omega)) rfl (by omega) (R_load_mp (v:=(ints ((nth (ddK (srt slx l) (srt slx l).length) (k))))) rfl h202 (ldB_zap (by omega) (by rfl)) (R_mv rfl (R_mv rfl ?_)))))))
  refine R_e (W_t (R_mv t5 (R_mv rfl (R_mv rfl (R_callk (clone_pure ((nth (ddK (srt slx l) (srt slx l).length) (k))) (by have q:=hw (nth (ddK (srt slx l) (srt slx l).length) k) (mem_sdP.1 (show nth (ddK (srt slx l) (srt slx l).length) k∈sdP l from nth_mem (show k < (ddK (srt slx l) (srt slx l).length).length by omega))); omega)) rfl (R_idx_ms0 (i:=k) (@rfl V (V.ms 202 3 0 ((ddK (srt slx l) (srt slx l).length).length))) (@rfl V (iV ((k:Nat):Int))) h202 (okB_zap (by omega)) rfl (by omega) (R_store (vs:=[(ints (((nth (ddK (srt slx l) (srt slx l).length) (k)))))]) (B':=(bz 3 54 1 (List.map cL ((ddK (srt slx l) (srt slx l).length).set k (((nth (ddK (srt slx l) (srt slx l).length) (k)))))++List.replicate ((srt slx l).length - (ddK (srt slx l) (srt slx l).length).length) [V.nilsl]))) rfl rfl rfl h202 (stB_zap (x:=(((nth (ddK (srt slx l) (srt slx l).length) (k))))) (i:=k) (by omega) rfl rfl rfl rfl) ?_)))))))
  refine R_e (n4 _ _ (.done (W_t (R_addN t18 (@rfl V (iV ((1:Nat):Int))) (by omega) (R_mv rfl (R_e ?_))))))
  refine p12 _ _ _ ?_ ⟨(k+1),rfl,t5,t16,t17,(Eq.trans (@rfl V (iV ((k+1:Nat):Int))) (by rfl)),h3,(Eq.trans (@rfl Blk (bz 3 54 1 (List.map cL ((ddK (srt slx l) (srt slx l).length).set k (((nth (ddK (srt slx l) (srt slx l).length) (k)))))++List.replicate ((srt slx l).length - (ddK (srt slx l) (srt slx l).length).length) [V.nilsl]))) (by (rw [set_nth (by omega)]; done))),?_⟩
  · omega
  · omega
 refine W_seq_exit (p32 _ _ _ (x1 _ _ (.done (W_r (R_mv t5 (R_mv rfl (R_e ?_)))))))
 refine W_ret ?_
 refine Ret_1 (@rfl V (V.ms 202 3 0 ((ddK (srt slx l) (srt slx l).length).length))) (fz_mstR h202 (by rfl) (take_zap (l:=(ddK (srt slx l) (srt slx l).length)) (by rfl)) (fun _=>by simp) ?_)
 · rfl
theorem orderedL_pure (l:List (List Int)) (hl:l.length≤1073741824) (hw: ∀ w∈l,w.length≤1048576):PureC Tryz.prog 122 [(intss l),(V.fn 123 [] [])] (intss (sdX l)):=by
 refine pW Tryz.func122 s122_ok fun hB=>?_
 unfold s122
 dsimp only
 have q9:(ddK (srt lexI l) (srt lexI l).length).length≤l.length:=sdX_len l
 refine W_r (R_box (i:=3) (n:=0) (m:=1) (cs:=[(V.fn 123 [] [])]) rfl (congrArg Blk.ver rfl) rfl rfl rfl (R_mv rfl (R_e (W_r (R_mv rfl (R_callE (evcons rfl evnil) (clonew_E l 0 _ (congrArg Blk.ver rfl) (by omega)) (R_mv rfl ?_)))))))
 refine R_e (W_r (R_mv rfl (R_lk rfl rfl rfl rfl (R_callE (evcons rfl (evcons rfl evnil)) (CallOK_sort1 (f0:=ints) (l:=l) (cmp:=lexI) sortSpec171 sortNone171 sortCall171 ⟨_,Tryz.func123,by kernel_rfl,by kernel_rfl⟩ lexI_swo (fun a _ b _ h1 h2=>lexI_same h1 h2) (fun a _ b _=>lex_pure a b) (fun a _=>by simp) (fun a _=>rfl) (by omega) rfl) (R_e (W_r (R_mv rfl ?_)))))))
 refine R_mkf (evcons rfl evnil) (R_callE (evcons rfl (evcons rfl evnil)) (compwL_E (srt lexI l) 3 1 l.length _ (@rfl Blk (bz 3 54 1 (List.map cL (srt lexI l)))) (@rfl Blk (bk 1 150 1 [[(V.fn 123 [] [])]])) (by simp [srt_len]) (by simp only [srt_len]; omega)) (R_mv rfl (R_e (W_seq_seq (W_r (R_mv rfl (R_len_ms rfl (@rfl Blk (bz 3 54 1 (List.map cL (ddK (srt lexI l) (srt lexI l).length)++List.replicate ((srt lexI l).length - (ddK (srt lexI l) (srt lexI l).length).length) [V.nilsl]))) (by rfl) ?_)))))))
 refine R_mv rfl (R_e (W_seq_blockg fun Q1 n1 x1 y1 z1=>?_))
 refine W_loop (fun mm T H=> ∃ (k:Nat),mm=((ddK (srt lexI l) (srt lexI l).length).length) - k∧T 5=(V.ms 202 3 0 ((ddK (srt lexI l) (srt lexI l).length).length))∧T 16=(V.ms 202 3 0 ((ddK (srt lexI l) (srt lexI l).length).length))∧T 17=(iV (((ddK (srt lexI l) (srt lexI l).length).length:Nat):Int))∧T 18=(iV ((k:Nat):Int))∧H 3=(bk 1 150 1 [[(V.fn 123 [] [])]])∧H 202=(bz 3 54 1 (List.map cL (ddK (srt lexI l) (srt lexI l).length)++List.replicate ((srt lexI l).length - (ddK (srt lexI l) (srt lexI l).length).length) [V.nilsl]))∧(k≤(ddK (srt lexI l) (srt lexI l).length).length)) ?_ ?_
 ·
  refine ⟨_,0,rfl,rfl,rfl,rfl,(Eq.trans (@rfl V (iV (0:Int))) rfl),rfl,rfl,?_⟩
  · omega
 intro mm T H ⟨k,hmm,t5,t16,t17,t18,h3,h202,hk⟩ Q2 p12 p22 p32
 unfold b122_0
 refine W_r (R_lss t18 t17 (R_e ?_))
 refine W_seq_if rfl (fun c3=>?_) fun c3=>?_
 ·
  refine W_seq_skip (W_seq_blockg fun Q4 n4 x4 y4 z4=>(W_r (R_mv t18 (R_idx_ms0 (i:=k) t16 t18 h202 (okB_zap (by omega)) rfl (by omega) (R_load_mp (v:=(ints ((nth (ddK (srt lexI l) (srt lexI l).length) (k))))) rfl h202 (ldB_zap (by omega) (by rfl)) (R_mv rfl (R_mv rfl ?_)))))))
  refine R_e (W_t (R_mv t5 (R_mv rfl (R_mv rfl (R_callk (clone_pure ((nth (ddK (srt lexI l) (srt lexI l).length) (k))) (by have q:=hw (nth (ddK (srt lexI l) (srt lexI l).length) k) (mem_sdX.1 (show nth (ddK (srt lexI l) (srt lexI l).length) k∈sdX l from nth_mem (show k < (ddK (srt lexI l) (srt lexI l).length).length by omega))); omega)) rfl (R_idx_ms0 (i:=k) (@rfl V (V.ms 202 3 0 ((ddK (srt lexI l) (srt lexI l).length).length))) (@rfl V (iV ((k:Nat):Int))) h202 (okB_zap (by omega)) rfl (by omega) (R_store (vs:=[(ints (((nth (ddK (srt lexI l) (srt lexI l).length) (k)))))]) (B':=(bz 3 54 1 (List.map cL ((ddK (srt lexI l) (srt lexI l).length).set k (((nth (ddK (srt lexI l) (srt lexI l).length) (k)))))++List.replicate ((srt lexI l).length - (ddK (srt lexI l) (srt lexI l).length).length) [V.nilsl]))) rfl rfl rfl h202 (stB_zap (x:=(((nth (ddK (srt lexI l) (srt lexI l).length) (k))))) (i:=k) (by omega) rfl rfl rfl rfl) ?_)))))))
  refine R_e (n4 _ _ (.done (W_t (R_addN t18 (@rfl V (iV ((1:Nat):Int))) (by omega) (R_mv rfl (R_e ?_))))))
  refine p12 _ _ _ ?_ ⟨(k+1),rfl,t5,t16,t17,(Eq.trans (@rfl V (iV ((k+1:Nat):Int))) (by rfl)),h3,(Eq.trans (@rfl Blk (bz 3 54 1 (List.map cL ((ddK (srt lexI l) (srt lexI l).length).set k (((nth (ddK (srt lexI l) (srt lexI l).length) (k)))))++List.replicate ((srt lexI l).length - (ddK (srt lexI l) (srt lexI l).length).length) [V.nilsl]))) (by (rw [set_nth (by omega)]; done))),?_⟩
  · omega
  · omega
 refine W_seq_exit (p32 _ _ _ (x1 _ _ (.done (W_r (R_mv t5 (R_mv rfl (R_e ?_)))))))
 refine W_ret ?_
 refine Ret_1 (@rfl V (V.ms 202 3 0 ((ddK (srt lexI l) (srt lexI l).length).length))) (fz_mstR h202 (by rfl) (take_zap (l:=(ddK (srt lexI l) (srt lexI l).length)) (by rfl)) (fun _=>by simp) ?_)
 · rfl
theorem sorted_pure (l:List (List Int)) (hl:l.length≤1073741824) (hw: ∀ w∈l,w.length≤1048576):PureC Tryz.prog 101 [(intss l)] (intss (sdW l)):=by
 refine pW Tryz.func101 s101_ok fun hB=>?_
 unfold s101
 dsimp only
 refine W_r (R_mv rfl (R_e (W_r (R_mv rfl (R_callk (ordered_pure l hl hw) rfl (R_mv rfl (R_e ?_)))))))
 refine W_ret ?_
 refine Ret_1 (@rfl V (intss (sdP l))) (fz_sl ?_ (fun _=>by simp))
 · exact sdP_eq l
def r102_6:List SO:=[
 qM 15 3,
 qF 16 1 5,
 ql 17 16,
 sO 18 (.bslice 54 1 false [.nilsl] 1 [(0,.t 17)]),
 sO 19 (.call false 69 [.t 18]),
 sO 20 (.bslice 54 1 false [.nilsl] 1 [(0,.t 19)]),
 sO 21 (.append 54 1 24 (.t 15) (.t 20)),
 qM 3 21]
def b102_0:SC:=.seq (.reg [qP 10 .lss 9 8]) (.seq (.cond (.t 10) (.skip) (.exit 0)) (.seq (.block 1 (.seq (.reg [qA 11 5 7 9,qL 12 5 11,sO 5 (.alloc 99 [.bool false,.nilsl,.nilsl,.nilsl,.nilsl]),sN (.store 5 (.t 5) (.t 12))]) (.seq (.reg [qF 13 0 5,ql 14 13]) (.cond (.t 14) (.reg r102_6) (.skip))))) (.reg [qC 22 .add 9 1,qM 9 22])))
def s102:SF:=⟨24,[.tmp 2],.seq (.reg [sO 1 (.box 24 1 (.t 0)),sO 2 (.mv (.c (.nilsl)))]) (.seq (.reg [sO 3 (.lazy 54 1)]) (.seq (.seq (.reg [qF 6 0 1,ql 7 6,qN 8 7,qI 9 0]) (.block 0 (.loop b102_0))) (.seq (.reg [qM 23 3,qM 2 23]) (.ret))))⟩
theorem s102_ok:slimF Tryz.prog ⟨[107,108,109,116,120,126,127,167,169,170,171,172,194,196,198,209,222,226],[3]⟩ Tryz.f102=some s102:=by kernel_rfl
def s69:SF:=⟨5,[.tmp 2],.seq (.reg [sO 2 (.mv (.c (.nilsl)))]) (.seq (.reg [qM 3 0,sO 4 (.call false 121 [.t 3]),qM 2 4]) (.ret))⟩
theorem s69_ok:slimF Tryz.prog ⟨[107,108,109,116,120,126,127,167,169,170,171,172,194,196,198,209,222,226],[]⟩ Tryz.f69=some s69:=by kernel_rfl
def b121_0:SC:=.seq (.reg [qP 12 .lss 11 10]) (.seq (.cond (.t 12) (.skip) (.exit 0)) (.seq (.block 1 (.seq (.reg [qA 13 1 9 11,ql 14 13,qM 5 14]) (.seq (.reg [qM 15 3,qM 16 5,qN 17 16,qP 18 .add 15 17,qM 3 18]) (.seq (.reg [qM 19 3,qC 20 .lss 19 0]) (.cond (.t 20) (.reg [sO 21 (.bad),sN (.bad)]) (.skip)))))) (.reg [qC 22 .add 11 1,qM 11 22])))
def b121_1:SC:=.seq (.reg [qP 28 .lss 27 26]) (.seq (.cond (.t 28) (.skip) (.exit 2)) (.seq (.block 3 (.seq (.reg [qA 29 1 25 27,ql 30 29,qM 8 30]) (.reg [qM 31 6,qM 32 8,sO 33 (.append 3 1 8 (.t 31) (.t 32)),qM 6 33]))) (.reg [qC 34 .add 27 1,qM 27 34])))
def s121:SF:=⟨36,[.tmp 2],.seq (.reg [sO 2 (.mv (.c (.nilsl)))]) (.seq (.reg [qI 3 0]) (.seq (.seq (.reg [qM 9 0,qN 10 9,qI 11 0]) (.block 0 (.loop b121_0))) (.seq (.reg [qM 23 3,sO 24 (.call true 169 [.c (.nilsl),.t 23]),qM 6 24]) (.seq (.seq (.reg [qM 25 0,qN 26 25,qI 27 0]) (.block 2 (.loop b121_1))) (.seq (.reg [qM 35 6,qM 2 35]) (.ret))))))⟩
theorem s121_ok:slimF Tryz.prog ⟨[107,108,109,116,120,126,127,167,169,170,171,172,194,196,198,209,222,226],[]⟩ Tryz.f121=some s121:=by kernel_rfl
end Go.Proofs.YtmnjchcoigbngabGreat
namespace Go.Proofs.YtmnjchcoigbngabGreat
open Go Go.Proofs Go.Shelf Go.Lib
section
variable {P:Program} {ρ:Go.Shelf.Ren}
theorem CallOK_grow (L:Lays8.n4 P ρ) (hcf:callable P (ρ.f 4)) (i0:TypeInfo) (z:Value) (hi0:P.info? (ρ.t 25)=some i0) (hz0:i0.zero=some z) (hs0:0 < i0.size) (hzs:z.cells.size=i0.size)
    {n:Nat} (hb:n*i0.bytes≤140737488355328) (h63:n≤4611686018427387904) (id:Nat) (H:Heap):
    CallOK P (ρ.f 4) [.nilsl,iV (n:Nat)] H (.ms id ((H id).ver+1) 0 0) (upd H id ⟨(H id).ver+1,true,decide (n=0),ρ.t 25,i0.size,[]⟩):=by
  refine ⟨hcf,fun x cs hxH hx hr=>?_⟩
  subst hxH
  obtain ⟨c0,c1,rfl⟩: ∃ c0 c1,cs=[c0,c1]:=by
    have:=hr.1
    match cs with
    |[a,b]=>exact ⟨a,b,rfl⟩
    |[]=>simp at this
    |[_]=>simp at this
    |_::_::_::_=>simp at this
  have r0:R x .nilsl c0:=hr.2 0 _ rfl
  have r1:R x (iV (n:Nat)) c1:=hr.2 1 _ rfl
  have hc0:c0=.slice none 0 0:=by cases r0; rfl
  have hc1:c1=.int .i64 (n:Nat):=by unfold iV at r1; cases r1; rfl
  subst hc0; subst hc1
  by_cases hn:n=0
  · subst hn
    refine (Any8.slices_Grow_room L none 0 0 0 x.w (Nat.le_refl _) (by decide) (by decide) (by decide)).mono fun e w' h=>?_
    obtain ⟨rfl,rfl⟩:=h
    obtain ⟨h1,h2,h3⟩:=step_lazy hx id (ρ.t 25) i0.size
    exact ⟨_,{x with H:=upd x.H id ⟨(x.H id).ver+1,true,true,ρ.t 25,i0.size,[]⟩},rfl,rfl,by simp,h1,h3 _,h2⟩
  · refine (Any8.slices_Grow_grow L i0 z hi0 hz0 hs0 none 0 0 n [] x.w (Nat.le_refl _) (by omega) (by simpa using hb) (by simpa using h63) (by simp) (fun _=>rfl) (fun a h=>by cases h)).mono fun e w' h=>?_
    obtain ⟨rfl,rfl⟩:=h
    obtain ⟨dI,dF⟩:=step_draw hx (x.w.drawn+1) (Nat.le_succ _)
    have hge:0+n≤grownCap x.w (0+n) 0 (ρ.t 25):=grownCap_ge x.w _ _ _
    have hle:=grownCap_le_maxLen x.w (0+n) 0 (ρ.t 25) (by unfold maxLen; omega)
    generalize hG:grownCap x.w (0+n) 0 (ρ.t 25)=G at hge hle
    have hsz:((#[]:Array Value)++Builtin.zeroCells z.cells (0+n - 0)++Builtin.zeroCells z.cells (G - (0+n))).size=G*i0.size:=by
      have zc: ∀ m,(Builtin.zeroCells z.cells m).size=m*i0.size:=fun m=>by
        rw [size_zeroCells,hzs]
      rw [Array.size_append,Array.size_append,zc,zc]
      simp only [Array.size_empty,Nat.zero_add,Nat.sub_zero]
      rw [← Nat.add_mul]; congr 1; omega
    have hrf:([].toArray:Array Value)=#[]:=rfl
    rw [hrf]
    generalize ((#[]:Array Value)++Builtin.zeroCells z.cells (0+n - 0)++Builtin.zeroCells z.cells (G - (0+n)))=cc at hsz
    obtain ⟨h1,h2⟩:=step_own dI id cc false (ρ.t 25) i0.size [] (by simp) (by simp) (fun r row j v h=>by simp at h)
    refine ⟨_,_,rfl,rfl,by simp [hn],h1,?_,dF.trans h2⟩
    refine .ms _ _ _ _ _ _ _ (by simp [upd_same]) fun _ _=>?_
    simp only [upd_same]
    refine ⟨trivial,Nat.zero_le _,hle,by simp,fun _=>⟨by simp [World.drew],?_⟩,fun h=>by simp [Blk.own] at h⟩
    simp only [Nat.zero_add]
    unfold rowSize
    have:(({x.w with drawn:=x.w.drawn+1}:World).alloc (.cells cc (ρ.t 25))).heap[({x.w with drawn:=x.w.drawn+1}:World).heap.size]?=some (.cells cc (ρ.t 25)):=heap_push_eq _ _
    rw [this]
    exact hsz.symm
theorem CallOK_growk (L:Lays8.n4 P ρ) (hcf:callable P (ρ.f 4)) {k b:Nat} {z:Value} (hi:(P.info? (ρ.t 25)).map (fun i=>(i.zero,i.size,i.bytes))=some (some z,k,b)) (hs0:0 < k) (hzs:z.cells.size=k)
    {n:Nat} (hb:n*b≤140737488355328) (h63:n≤4611686018427387904) (id:Nat) (H:Heap):
    CallOK P (ρ.f 4) [.nilsl,iV (n:Nat)] H (.ms id ((H id).ver+1) 0 0) (upd H id ⟨(H id).ver+1,true,decide (n=0),ρ.t 25,k,[]⟩):=by
  obtain ⟨i0,h1,h2⟩:=Option.map_eq_some_iff.1 hi
  simp only [Prod.mk.injEq] at h2
  obtain ⟨h3,h4,h5⟩:=h2
  subst h4; subst h5
  exact CallOK_grow L hcf i0 z h1 h3 hs0 hzs hb h63 id H
theorem CallOK_growv (L:Lays8.n4 P ρ) (hcf:callable P (ρ.f 4)) {k b:Nat} {z:Value} (hi:(P.info? (ρ.t 25)).map (fun i=>(i.zero,i.size,i.bytes))=some (some z,k,b)) (hs0:0 < k) (hzs:z.cells.size=k)
    {n:Nat} (hb:n*b≤140737488355328) (h63:n≤4611686018427387904) (id:Nat) {H:Heap} {w:Nat} (hv:(H id).ver=w):
    CallOK P (ρ.f 4) [.nilsl,iV (n:Nat)] H (.ms id (w+1) 0 0) (upd H id ⟨w+1,true,decide (n=0),ρ.t 25,k,[]⟩):=by
  subst hv; exact CallOK_growk L hcf hi hs0 hzs hb h63 id H
end
end Go.Proofs.YtmnjchcoigbngabGreat
namespace Go.Proofs.YtmnjchcoigbngabGreat
open Go Go.Proofs Go.Shelf
def growRen169:Go.Shelf.Ren:=⟨fun|4=>169|n=>n,fun|22=>54|25=>3|3=>3|4=>4|9=>9|20=>20|0=>0|n=>n,fun n=>n⟩
theorem growLay169:Lays8.n4 Tryz.prog growRen169:={
  mixed:=(by kernel_rfl),
  f4:=⟨Tryz.f169.name,by decide,Tryz.func169.trans (congrArg some (by kernel_rfl))⟩,
  t0:=Tryz.underlying0,
  a0:=Tryz.isAgg0,
  z0:=Tryz.sizeOf0,
  v0:=Tryz.zeroValue0,
  t3:=Tryz.underlying3,
  a3:=Tryz.isAgg3,
  z3:=Tryz.sizeOf3,
  v3:=Tryz.zeroValue3,
  t4:=Tryz.underlying4,
  a4:=Tryz.isAgg4,
  z4:=Tryz.sizeOf4,
  v4:=Tryz.zeroValue4,
  t9:=Tryz.underlying9,
  a9:=Tryz.isAgg9,
  z9:=Tryz.sizeOf9,
  v9:=Tryz.zeroValue9,
  t20:=Tryz.underlying20,
  a20:=Tryz.isAgg20,
  z20:=Tryz.sizeOf20,
  v20:=Tryz.zeroValue20,
  t22:=Tryz.underlying54,
  a22:=Tryz.isAgg54,
  z22:=Tryz.sizeOf54,
  v22:=Tryz.zeroValue54}
theorem growCall169:callable Tryz.prog 169:=⟨_,Tryz.func169,by kernel_rfl,by kernel_rfl⟩
theorem growInfo169:(Tryz.prog.info? 3).map (fun i=>(i.zero,i.size,i.bytes))=some (some (.int .i64 0),1,8):=by kernel_rfl
end Go.Proofs.YtmnjchcoigbngabGreat
namespace Go.Proofs.YtmnjchcoigbngabGreat
open Go Go.Proofs
theorem concat_pure (l:List (List Int)) (hs:(cat l).length≤4294967296):PureC Tryz.prog 121 [(intss l)] (ints (cat l)):=by
 refine pW Tryz.func121 s121_ok fun hB=>?_
 unfold s121
 dsimp only
 refine W_r (R_mv rfl (R_e (W_r (R_mv rfl (R_e (W_seq_seq (W_r ?_)))))))
 refine R_mv rfl (R_len rfl (R_mv rfl (R_e (W_seq_blockg fun Q1 n1 x1 y1 z1=>?_))))
 refine W_loop (fun mm T H=> ∃ (k:Nat),mm=l.length - k∧T 0=(intss l)∧T 3=(iV (((cat (l.take k)).length:Nat):Int))∧T 9=(intss l)∧T 10=(iV ((l.length:Nat):Int))∧T 11=(iV ((k:Nat):Int))∧H 900=(⟨0,false,false,0,0,[]⟩:Blk)∧(k≤l.length)) ?_ ?_
 ·
  refine ⟨_,0,rfl,rfl,(Eq.trans (@rfl V (iV (0:Int))) (by rfl)),rfl,rfl,(Eq.trans (@rfl V (iV (0:Int))) rfl),rfl,?_⟩
  · omega
 intro mm T H ⟨k,hmm,t0,t3,t9,t10,t11,h900,hk⟩ Q2 p12 p22 p32
 unfold b121_0
 refine W_r (R_lss t11 t10 (R_e ?_))
 refine W_seq_if rfl (fun c3=>?_) fun c3=>?_
 ·
  have hq:=cat_take_le (l:=l) (k:=k) (by omega)
  refine W_seq_skip (W_seq_blockg fun Q4 n4 x4 y4 z4=>(W_r (R_idx (i:=k) t9 t11 (by omega) rfl (R_load_pp rfl rfl (R_mv rfl (R_e (W_r ?_)))))))
  refine R_mv t3 (R_mv rfl (R_len rfl (R_addN rfl rfl (by omega) (R_mv rfl (R_e (W_r (R_mv rfl ?_)))))))
  refine R_lss rfl rfl (R_e ?_)
  refine W_if rfl (fun c5=>?_) fun c5=>?_
  · exfalso; omega
  refine W_skip (n4 _ _ (.done (W_t (R_addN t11 (@rfl V (iV ((1:Nat):Int))) (by omega) (R_mv rfl (R_e ?_))))))
  refine p12 _ _ _ ?_ ⟨(k+1),rfl,t0,(Eq.trans (@rfl V (iV ((((cat (l.take k)).length)+((nth (l) (k))).length:Nat):Int))) (by (rw [cat_take (by omega),List.length_append]; done))),t9,t10,(Eq.trans (@rfl V (iV ((k+1:Nat):Int))) (by rfl)),h900,?_⟩
  · omega
  · omega
 have hk2:(cat (l.take k)).length=(cat l).length:=by rw [show k=l.length by omega,List.take_length]
 refine W_seq_exit (p32 _ _ _ (x1 _ _ (.done (W_r (R_mv t3 (R_callE (evcons rfl (evcons rfl evnil)) (CallOK_growv growLay169 growCall169 growInfo169 (by decide) rfl (n:=((cat (l.take k)).length)) (by omega) (by omega) 900 (congrArg Blk.ver h900)) (R_mv rfl ?_)))))))
 refine R_e (W_seq_seq (W_r (R_mv t0 (R_len rfl (R_mv rfl (R_e (W_seq_blockg fun Q6 n6 x6 y6 z6=>?_)))))))
 refine W_loop (fun mm T H=> ∃ (j:Nat) (w:Nat),mm=l.length - j∧T 6=(V.ms 900 w 0 ((cat (l.take j)).length))∧T 25=(intss l)∧T 26=(iV ((l.length:Nat):Int))∧T 27=(iV ((j:Nat):Int))∧H 900=(⟨w,true,decide ((cat (l.take k)).length=0),3,1,(List.map cI (cat (l.take j)))⟩:Blk)∧(j≤l.length)) ?_ ?_
 ·
  refine ⟨_,0,(0+1),rfl,(Eq.trans (@rfl V (V.ms 900 (0+1) 0 (0))) (by rfl)),rfl,rfl,(Eq.trans (@rfl V (iV (0:Int))) rfl),(Eq.trans (@rfl Blk (⟨0+1,true,decide ((cat (l.take k)).length=0),3,1,[]⟩:Blk)) (by rfl)),?_⟩
  · omega
 intro mm T H ⟨j,w,hmm,t6,t25,t26,t27,h900,hj⟩ Q7 p17 p27 p37
 unfold b121_1
 refine W_r (R_lss t27 t26 (R_e ?_))
 refine W_seq_if rfl (fun c8=>?_) fun c8=>?_
 ·
  have hq:=cat_take_le (l:=l) (k:=j) (by omega)
  refine W_seq_skip (W_seq_blockg fun Q9 n9 x9 y9 z9=>(W_r (R_idx (i:=j) t25 t27 (by omega) rfl (R_load_pp rfl rfl (R_mv rfl (R_e (W_t ?_)))))))
  refine R_mv t6 (R_mv rfl (R_appendS (l:=(cat (l.take j))) (m:=((nth (l) (j)))) (f:=cI) (@rfl V (V.ms 900 w 0 ((cat (l.take j)).length))) h900 (by rfl) (@rfl V (ints ((nth (l) (j))))) (fun _=>rfl) (fun _=>rfl) (by omega) (by omega) (R_mv rfl (R_e (n9 _ _ (.done (W_t ?_)))))))
  refine R_addN t27 (@rfl V (iV ((1:Nat):Int))) (by omega) (R_mv rfl (R_e ?_))
  refine p17 _ _ _ ?_ ⟨(j+1),(w+1),rfl,(Eq.trans (@rfl V (V.ms 900 (w+1) 0 (((cat (l.take j)).length)+((nth (l) (j))).length))) (by (rw [cat_take (by omega),List.length_append]; done))),t25,t26,(Eq.trans (@rfl V (iV ((j+1:Nat):Int))) (by rfl)),(Eq.trans (@rfl Blk (⟨w+1,true,decide ((cat (l.take k)).length=0),3,1,(List.map cI (cat (l.take j)++((nth (l) (j)))))⟩:Blk)) (by (rw [cat_take (by omega)]; done))),?_⟩
  · omega
  · omega
 refine W_seq_exit (p37 _ _ _ (x6 _ _ (.done (W_r (R_mv t6 (R_mv rfl (R_e ?_)))))))
 refine W_ret ?_
 refine Ret_1 (@rfl V (V.ms 900 w 0 ((cat (l.take j)).length))) (fz_ms h900 (by simp) (l:=(cat (l.take j))) rfl (by rfl) (fun _=>by simp) ?_)
 · rw [show j=l.length by omega,List.take_length]
theorem pjoin_pure (l:List (List Int)) (hs:(cat l).length≤4294967296):PureC Tryz.prog 69 [(intss l)] (ints (cat l)):=by
 refine pW Tryz.func69 s69_ok fun hB=>?_
 unfold s69
 dsimp only
 refine W_r (R_mv rfl (R_e (W_r (R_mv rfl (R_callk (concat_pure l hs) rfl (R_mv rfl (R_e ?_)))))))
 refine W_ret ?_
 refine Ret_1 (@rfl V (ints (cat l))) (fz_canon (by simp) rfl)
theorem access_pure (t:Dt) (hb:Bd t):PureC Tryz.prog 102 [(V.agg [(V.sl (List.map cN (t.nd)))])] (intss (acL t.nd)):=by
 refine pW Tryz.func102 s102_ok fun hB=>?_
 unfold s102
 dsimp only
 have hbn:=hb.n
 refine W_r (R_box (i:=1) (n:=0) (m:=1) (cs:=[(V.sl (List.map cN (t.nd)))]) rfl (congrArg Blk.ver rfl) rfl rfl rfl (R_mv rfl (R_e (W_r (R_lazy (i:=3) (n:=0) rfl (congrArg Blk.ver rfl) (R_e (W_seq_seq ?_)))))))
 refine W_r (R_fk rfl rfl (R_lk rfl rfl rfl rfl (R_len rfl (R_mv rfl (R_e (W_seq_blockg fun Q1 n1 x1 y1 z1=>?_))))))
 refine W_loop (fun mm T H=> ∃ (k:Nat) (v:Nat) (v5:Nat),mm=t.nd.length - k∧T 3=(V.ms 3 v 0 ((acL (t.nd.take k)).length))∧T 7=(V.sl (List.map cN (t.nd)))∧T 8=(iV ((t.nd.length:Nat):Int))∧T 9=(iV ((k:Nat):Int))∧H 1=(bk 1 24 1 [[(V.sl (List.map cN (t.nd)))]])∧H 3=(bz v 54 1 (List.map cL (acL (t.nd.take k))))∧(H 5).ver=v5∧(k≤t.nd.length)) ?_ ?_
 ·
  refine ⟨_,0,1,0,rfl,(Eq.trans (@rfl V (V.ms 3 1 0 (0))) (by rfl)),rfl,rfl,(Eq.trans (@rfl V (iV (0:Int))) rfl),rfl,(Eq.trans (@rfl Blk (bz 1 54 1 [])) (by rfl)),(congrArg Blk.ver rfl),?_⟩
  · omega
 intro mm T H ⟨k,v,v5,hmm,t3,t7,t8,t9,h1,h3,h5,hk⟩ Q2 p12 p22 p32
 unfold b102_0
 have q1:=acL_len (t.nd.take k)
 have q2:(t.nd.take k).length≤k:=by simp; omega
 refine W_r (R_lss t9 t8 (R_e ?_))
 refine W_seq_if rfl (fun c3=>?_) fun c3=>?_
 ·
  have r1:=hb.ac k (by omega)
  refine W_seq_skip (W_seq_blockg fun Q4 n4 x4 y4 z4=>(W_r (R_idx (i:=k) t7 t9 (by omega) rfl (R_load_pp rfl rfl (R_alloc (i:=5) (n:=v5) (m:=5) rfl h5 rfl (R_sk rfl rfl rfl rfl rfl rfl rfl rfl rfl (R_e ?_)))))))
  refine W_r (R_fk rfl rfl (R_lk rfl rfl rfl rfl (R_e ?_)))
  refine W_ifb rfl (fun c5=>?_) (fun c5=>?_)
  ·
   have d1:(nth t.nd k).lf=true:=c5
   refine W_t (R_mv t3 (R_fk rfl rfl (R_lk rfl rfl rfl rfl (R_bslice rfl rfl (R_callk (pjoin_pure ([((nth (t.nd) (k))).ac]) (by simp [cat]; omega)) rfl (R_bslice rfl rfl (R_append1 (l:=(acL (t.nd.take k))) (f:=cL) (x:=(cat ([((nth (t.nd) (k))).ac]))) (@rfl V (V.ms 3 v 0 ((acL (t.nd.take k)).length))) h3 (by rfl) (@rfl V (V.sl [[(ints (cat ([((nth (t.nd) (k))).ac])))]])) rfl rfl (by omega) (by omega) ?_)))))))
   refine R_mv rfl (R_e (n4 _ _ (.done (W_t (R_addN t9 (@rfl V (iV ((1:Nat):Int))) (by omega) (R_mv rfl (R_e ?_)))))))
   refine p12 _ _ _ ?_ ⟨(k+1),(v+1),(v5+1),rfl,(Eq.trans (@rfl V (V.ms 3 (v+1) 0 (((acL (t.nd.take k)).length)+1))) (by (rw [acL_take (by omega),if_pos (by assumption),List.length_append]; rfl))),t7,t8,(Eq.trans (@rfl V (iV ((k+1:Nat):Int))) (by rfl)),h1,(Eq.trans (@rfl Blk (bz (v+1) 54 1 (List.map cL (acL (t.nd.take k)++[cat ([((nth (t.nd) (k))).ac])])))) (by (rw [acL_take (by omega),if_pos (by assumption)]; simp [cat]; done))),(congrArg Blk.ver rfl),?_⟩
   · omega
   · omega
  have d1: ¬(nth t.nd k).lf=true:=by simpa using c5
  refine W_skip (n4 _ _ (.done (W_t (R_addN t9 (@rfl V (iV ((1:Nat):Int))) (by omega) (R_mv rfl (R_e ?_))))))
  refine p12 _ _ _ ?_ ⟨(k+1),v,(v5+1),rfl,(Eq.trans t3 (by (rw [acL_take (by omega),if_neg (by assumption),List.append_nil]; done))),t7,t8,(Eq.trans (@rfl V (iV ((k+1:Nat):Int))) (by rfl)),h1,(Eq.trans h3 (by (rw [acL_take (by omega),if_neg (by assumption),List.append_nil]; done))),(congrArg Blk.ver rfl),?_⟩
  · omega
  · omega
 refine W_seq_exit (p32 _ _ _ (x1 _ _ (.done (W_r (R_mv t3 (R_mv rfl (R_e ?_)))))))
 refine W_ret ?_
 refine Ret_1 (@rfl V (V.ms 3 v 0 ((acL (t.nd.take k)).length))) (fz_ms h3 (by simp) (l:=(acL (t.nd.take k))) rfl (by rfl) (fun _=>by simp) ?_)
 · rw [show k=t.nd.length by omega,List.take_length]
def r149_1:List SO:=[
 qF 3 2 1,
 ql 4 3,
 qN 5 4,
 qF 6 3 1,
 ql 7 6,
 qN 8 7,
 qP 9 .add 5 8,
 qF 10 4 1,
 ql 11 10,
 qN 12 11,
 qP 13 .add 9 12,
 qC 14 .gtr 13 0]
def s149:SF:=⟨18,[.tmp 2],.seq (.reg [sO 1 (.box 99 5 (.t 0)),qI 2 0]) (.seq (.seq (.reg r149_1) (.cond (.t 14) (.seq (.reg [qI 2 1]) (.ret)) (.skip))) (.seq (.reg [qF 15 1 1,ql 16 15,sO 17 (.call false 100 [.t 16,.c (.int .i64 64)]),qM 2 17]) (.ret)))⟩
theorem s149_ok:slimF Tryz.prog ⟨[107,108,109,116,120,126,127,167,169,170,171,172,194,196,198,209,222,226],[]⟩ Tryz.f149=some s149:=by kernel_rfl
def s100:SF:=⟨17,[.tmp 4],.seq (.reg [sO 3 (.box 3 1 (.t 1)),qI 4 0]) (.seq (.block 0 (.seq (.reg [ql 6 3,sO 7 (.call false 152 [.t 6]),sO 8 (.un .not (.t 7)),qM 5 8]) (.cond (.t 5) (.seq (.reg [qI 4 2]) (.ret)) (.seq (.reg [qM 10 0,qN 11 10,qC 12 .gtr 11 1024,qM 9 12]) (.cond (.t 9) (.seq (.reg [qI 4 3]) (.ret)) (.seq (.reg [qM 14 0,sO 15 (.mkf 154 [.t 3]),sO 16 (.call false 153 [.t 14,.t 15]),qM 13 16]) (.cond (.t 13) (.seq (.reg [qI 4 1]) (.ret)) (.skip)))))))) (.seq (.reg [qI 4 0]) (.ret)))⟩
theorem s100_ok:slimF Tryz.prog ⟨[107,108,109,116,120,126,127,167,169,170,171,172,194,196,198,209,222,226],[]⟩ Tryz.f100=some s100:=by kernel_rfl
def r152_1:List SO:=[
 qM 3 0,
 qC 4 .geq 3 1,
 qM 5 4,
 ⟨some (5,true),some 6,.mv (.t 0)⟩,
 ⟨some (5,true),some 7,.bin .leq (.t 6) (.c (.int .i64 1024))⟩,
 sO 8 (.pick (.t 5) (.t 7) (.c (.bool false))),
 qM 2 8]
def s152:SF:=⟨9,[.tmp 2],.seq (.reg [sO 2 (.mv (.c (.bool false)))]) (.seq (.reg r152_1) (.ret))⟩
theorem s152_ok:slimF Tryz.prog ⟨[107,108,109,116,120,126,127,167,169,170,171,172,194,196,198,209,222,226],[]⟩ Tryz.f152=some s152:=by kernel_rfl
theorem permitted_pure (n:Int):PureC Tryz.prog 152 [(iV (n))] (V.bool (decide (1≤n∧n≤1024))):=by
 refine pW Tryz.func152 s152_ok fun hB=>?_
 unfold s152
 dsimp only
 refine W_r (R_mv rfl (R_e (W_r (R_mv rfl (R_geq rfl rfl (R_mv rfl ?_))))))
 refine Ops_seg 3 (fun T H=>T 8=(V.bool (decide (((1:Int)≤(n))∧((n)≤(1024:Int)))))∧True) ?_ ?_
 ·
  by_cases g1:(1:Int)≤(n)
  ·
   refine G_yes (edT g1 rfl) (R_mv rfl (G_yes (edT g1 rfl) (R_leq rfl rfl (R_pickT (edT g1 rfl) rfl ?_))))
   exact ⟨(dec_andT g1),trivial⟩
  ·
   refine G_n (edF g1 rfl) (G_n (edF g1 rfl) (R_pickF (edF g1 rfl) rfl ?_))
   exact ⟨(dec_andF g1),trivial⟩
 intro T H ⟨t8,_⟩
 refine R_mv t8 (R_e (W_ret ?_))
 refine Ret_1 (@rfl V (V.bool (decide (((1:Int)≤(n))∧((n)≤(1024:Int)))))) (fz_bool ?_)
 · first|rfl|omega|simp_all
def s153:SF:=⟨9,[.tmp 4],.seq (.reg [sO 4 (.mv (.c (.bool false)))]) (.seq (.reg [qM 5 0,qM 6 1,sO 7 (.call false 186 [.t 5,.t 6]),qC 8 .geq 7 0,qM 4 8]) (.ret))⟩
theorem s153_ok:slimF Tryz.prog ⟨[107,108,109,116,120,126,127,167,169,170,171,172,194,196,198,209,222,226],[]⟩ Tryz.f153=some s153:=by kernel_rfl
def b186_0:SC:=.seq (.reg [qP 9 .lss 8 7]) (.seq (.cond (.t 9) (.skip) (.exit 0)) (.seq (.block 1 (.seq (.reg [qM 10 8,qM 5 10]) (.seq (.reg [qM 11 1,qM 12 0,qM 13 5,qA 14 1 12 13,ql 15 14,sO 16 (.callv false (.t 11) [.t 15])]) (.cond (.t 16) (.seq (.reg [qM 17 5,qM 4 17]) (.ret)) (.skip))))) (.reg [qC 18 .add 8 1,qM 8 18])))
def s186:SF:=⟨19,[.tmp 4],.seq (.reg [qI 4 0]) (.seq (.seq (.reg [qM 6 0,qN 7 6,qI 8 0]) (.block 0 (.loop b186_0))) (.seq (.reg [sO 4 (.mv (.c (.int .i64 (-1))))]) (.ret)))⟩
theorem s186_ok:slimF Tryz.prog ⟨[107,108,109,116,120,126,127,167,169,170,171,172,194,196,198,209,222,226],[]⟩ Tryz.f186=some s186:=by kernel_rfl
theorem idxi_pure (p:Int→Bool) (w:List Int) (g:Nat) (caps:List V) (hca:canonL caps=true) (hpu:pureL caps=true) (hq: ∀ k,k < w.length→PureC Tryz.prog g (iV (nth w k)::caps) (.bool (p (nth w k)))):PureC Tryz.prog 186 [(ints w),(V.fn g [] caps)] (iV (fi (fun jx=>p (nth w jx)) 0 w.length)):=by
 refine pure_of_Wb true 6 Tryz.func186 s186_ok (by kernel_rfl) (by simp [s186]) (by simp [hpu]) (by simp) fun hB=>?_
 simp only [bnd_map,bnd_int,bnd_bool,bnd_str,bnd_agg,bnd_pp,bnd_nil,bnd_cons,implies_true,and_true,true_and] at hB
 unfold s186
 dsimp only
 refine W_r (R_mv rfl (R_e (W_seq_seq (W_r (R_mv rfl (R_len rfl (R_mv rfl ?_)))))))
 refine R_e (W_seq_blockg fun Q1 n1 x1 y1 z1=>?_)
 refine W_loop (fun mm T H=> ∃ (k:Nat),mm=w.length - k∧T 0=(ints w)∧T 1=(V.fn g [] caps)∧T 7=(iV ((w.length:Nat):Int))∧T 8=(iV ((k:Nat):Int))∧(k≤w.length)∧(fi (fun j=>p (nth w j)) 0 w.length=fi (fun j=>p (nth w j)) k (w.length - k))) ?_ ?_
 ·
  refine ⟨_,0,rfl,rfl,rfl,rfl,(Eq.trans (@rfl V (iV (0:Int))) rfl),?_,?_⟩
  · omega
  · rfl
 intro mm T H ⟨k,hmm,t0,t1,t7,t8,hk,hc⟩ Q2 p12 p22 p32
 unfold b186_0
 refine W_r (R_lss t8 t7 (R_e ?_))
 refine W_seq_if rfl (fun c3=>?_) fun c3=>?_
 ·
  refine W_seq_skip (W_seq_blockg fun Q4 n4 x4 y4 z4=>(W_r (R_mv t8 (R_mv rfl (R_e (W_r (R_mv t1 ?_)))))))
  refine R_mv t0 (R_mv rfl (R_idx (i:=k) (@rfl V (ints w)) (@rfl V (iV ((k:Nat):Int))) (by omega) rfl (R_load_pp rfl rfl (R_callv (@rfl V (V.fn g [] caps)) (evcons (@rfl V (iV ((nth (w) (k))))) evnil) (hq k (by omega)) (fzv_mapcanon _ _ (by simp [hca])) (by simp [hpu]) (Or.inl (by simp [hpu])) (R_e ?_)))))
  refine W_ifb rfl (fun c5=>?_) (fun c5=>?_)
  ·
   have d1:=c5
   refine W_r (R_mv rfl (R_mv rfl (R_e (W_ret (y4 _ _ (p22 _ _ (y1 _ _ ?_)))))))
   refine Ret_1 (@rfl V (iV ((k:Nat):Int))) (fz_int ?_)
   · rw [hc,fi_hit (by exact d1) (by omega)]
  have d1:=c5
  refine W_skip (n4 _ _ (.done (W_t (R_addN t8 (@rfl V (iV ((1:Nat):Int))) (by omega) (R_mv rfl (R_e ?_))))))
  refine p12 _ _ _ ?_ ⟨(k+1),rfl,t0,t1,t7,(Eq.trans (@rfl V (iV ((k+1:Nat):Int))) (by rfl)),?_,?_⟩
  · omega
  · omega
  · rw [hc,fi_skip (by exact d1) (by omega)]
 refine W_seq_exit (p32 _ _ _ (x1 _ _ (.done (W_r (R_mv rfl (R_e (W_ret ?_)))))))
 refine Ret_1 (@rfl V (iV (-1:Int))) (fz_int ?_)
 · rw [hc,fi_end (by omega)]
theorem coni_pure (p:Int→Bool) (w:List Int) (g:Nat) (caps:List V) (hca:canonL caps=true) (hpu:pureL caps=true) (hq: ∀ k,k < w.length→PureC Tryz.prog g (iV (nth w k)::caps) (.bool (p (nth w k)))):PureC Tryz.prog 153 [(ints w),(V.fn g [] caps)] (V.bool (decide (0≤fi (fun jx=>p (nth w jx)) 0 w.length))):=by
 refine pure_of_Wb true 6 Tryz.func153 s153_ok (by kernel_rfl) (by simp [s153]) (by simp [hpu]) (by simp) fun hB=>?_
 simp only [bnd_map,bnd_int,bnd_bool,bnd_str,bnd_agg,bnd_pp,bnd_nil,bnd_cons,implies_true,and_true,true_and] at hB
 unfold s153
 dsimp only
 refine W_r (R_mv rfl (R_e (W_r (R_mv rfl (R_mv rfl (R_call (evcons (@rfl V (ints w)) (evcons (@rfl V (V.fn g [] caps)) evnil)) (idxi_pure p w g caps hca hpu hq) (fzv_mapcanon _ _ (by simp [hca,hpu,-List.map_take,-List.map_drop,-List.map_append,-List.map_reverse])) (by simp [hca,hpu,-List.map_take,-List.map_drop,-List.map_append,-List.map_reverse]) (Or.inl (by simp [hca,hpu,-List.map_take,-List.map_drop,-List.map_append,-List.map_reverse])) (R_geq rfl rfl ?_)))))))
 refine R_mv rfl (R_e (W_ret ?_))
 refine Ret_1 (@rfl V (V.bool (decide ((0:Int)≤(fi (fun jx=>p (nth w jx)) 0 w.length))))) (fz_bool ?_)
 · first|rfl|omega|simp_all
def r154_1:List SO:=[
 qM 4 0,
 qC 5 .lss 4 0,
 qM 6 5,
 ⟨some (6,false),some 7,.mv (.t 0)⟩,
 ⟨some (6,false),some 8,.load false 1 (.t 1)⟩,
 ⟨some (6,false),some 9,.bin .geq (.t 7) (.t 8)⟩,
 sO 10 (.pick (.t 6) (.c (.bool true)) (.t 9)),
 qM 3 10]
def s154:SF:=⟨11,[.tmp 3],.seq (.reg [sO 3 (.mv (.c (.bool false)))]) (.seq (.reg r154_1) (.ret))⟩
theorem s154_ok:slimF Tryz.prog ⟨[107,108,109,116,120,126,127,167,169,170,171,172,194,196,198,209,222,226],[]⟩ Tryz.f154=some s154:=by kernel_rfl
theorem check1_pure (a n:Int):PureC Tryz.prog 154 [(iV (a)),(V.pp [(iV (n))])] (V.bool (decide (a < 0∨n≤a))):=by
 refine pW Tryz.func154 s154_ok fun hB=>?_
 unfold s154
 dsimp only
 refine W_r (R_mv rfl (R_e (W_r (R_mv rfl (R_lss rfl rfl (R_mv rfl ?_))))))
 refine Ops_seg 4 (fun T H=>T 10=(V.bool (decide (((a) < (0:Int))∨((n)≤(a)))))∧True) ?_ ?_
 ·
  by_cases g1:(a) < (0:Int)
  ·
   refine G_n (edT g1 rfl) (G_n (edT g1 rfl) (G_n (edT g1 rfl) (R_pickT (edT g1 rfl) rfl ?_)))
   exact ⟨(dec_orT g1),trivial⟩
  ·
   refine G_yes (edF g1 rfl) (R_mv rfl (G_yes (edF g1 rfl) (R_load_pp rfl rfl (G_yes (edF g1 rfl) (R_geq rfl rfl (R_pickF (edF g1 rfl) rfl ?_))))))
   exact ⟨(dec_orF g1),trivial⟩
 intro T H ⟨t10,_⟩
 refine R_mv t10 (R_e (W_ret ?_))
 refine Ret_1 (@rfl V (V.bool (decide (((a) < (0:Int))∨((n)≤(a)))))) (fz_bool ?_)
 · first|rfl|omega|simp_all
theorem check_pure (w:List Int) (n:Int):PureC Tryz.prog 100 [(ints w),(iV (n))] (iV (wchk w n)):=by
 refine pW Tryz.func100 s100_ok fun hB=>?_
 unfold s100
 dsimp only
 refine W_r (R_box (i:=3) (n:=0) (m:=1) (cs:=[(iV (n))]) rfl (congrArg Blk.ver rfl) rfl rfl rfl (R_mv rfl (R_e (W_seq_blockg fun Q1 n1 x1 y1 z1=>(W_r (R_lk rfl rfl rfl rfl (R_callk (permitted_pure ((n))) rfl ?_)))))))
 refine R_not rfl (R_mv rfl (R_e ?_))
 refine W_if rfl (fun c2=>?_) fun c2=>?_
 ·
  refine W_r (R_mv rfl (R_e (W_ret (y1 _ _ ?_))))
  refine Ret_1 (@rfl V (iV (2:Int))) (fz_int ?_)
  · rw [wchk,if_pos (by omega)]
 refine W_r (R_mv rfl (R_len rfl (R_gtr rfl rfl (R_mv rfl (R_e ?_)))))
 refine W_if rfl (fun c3=>?_) fun c3=>?_
 ·
  refine W_r (R_mv rfl (R_e (W_ret (y1 _ _ ?_))))
  refine Ret_1 (@rfl V (iV (3:Int))) (fz_int ?_)
  · rw [wchk,if_neg (by omega),if_pos (by omega)]
 refine W_r (R_mv rfl (R_mkf (evcons rfl evnil) (R_call (evcons (@rfl V (ints w)) (evcons (@rfl V (V.fn 154 [] [(V.mp 3 1 0 0)])) evnil)) (coni_pure (fun a=>decide (a < 0∨n≤a)) w 154 ([(V.pp [(iV (n))])]) (by simp) (by simp) (fun k _=>check1_pure (nth w k) n)) (mcons (fzv_canon 6 _ (by simp [-List.map_take,-List.map_drop,-List.map_append,-List.map_reverse])) (mcons (by simp [fzv,Blk.own]) rfl)) (by simp [-List.map_take,-List.map_drop,-List.map_append,-List.map_reverse]) (Or.inr rfl) (R_mv rfl (R_e ?_)))))
 refine W_if (p:=0≤fi (fun jx=>(fun a=>decide (a < 0∨n≤a)) (nth w jx)) 0 w.length) rfl (fun c4=>?_) (fun c4=>?_)
 ·
  refine W_r (R_mv rfl (R_e (W_ret (y1 _ _ ?_))))
  refine Ret_1 (@rfl V (iV (1:Int))) (fz_int ?_)
  · have e:(0≤fi (fun j=>(fun a=>decide (a < 0∨n≤a)) (nth w j)) 0 w.length↔fe (wE w n) 0 w.length=1)∧(fe (wE w n) 0 w.length=0∨fe (wE w n) 0 w.length=1):=in_fe w n w.length 0
    rw [wchk,if_neg (by omega),if_neg (by omega)]; omega
 refine W_skip (n1 _ _ (.done (W_r (R_mv rfl (R_e (W_ret ?_))))))
 refine Ret_1 (@rfl V (iV (0:Int))) (fz_int ?_)
 · have e:(0≤fi (fun j=>(fun a=>decide (a < 0∨n≤a)) (nth w j)) 0 w.length↔fe (wE w n) 0 w.length=1)∧(fe (wE w n) 0 w.length=0∨fe (wE w n) 0 w.length=1):=in_fe w n w.length 0
   rw [wchk,if_neg (by omega),if_neg (by omega)]; omega
theorem leaf_pure (x:Nd) (hs:x.sf.length≤1048576) (ho:x.ou.length≤1048576) (hk:x.kd.length≤1048576):PureC Tryz.prog 149 [(V.agg (cN x))] (iV (lfE x)):=by
 refine pW Tryz.func149 s149_ok fun hB=>?_
 unfold s149
 dsimp only
 refine W_r (R_box (i:=1) (n:=0) (m:=5) (cs:=[(V.bool x.lf),(ints x.ac),(ints x.sf),(intss x.ou),(ints x.kd)]) rfl (congrArg Blk.ver rfl) rfl rfl rfl (R_mv rfl (R_e (W_seq_seq (W_r (R_fk rfl rfl (R_lk rfl rfl rfl rfl ?_)))))))
 refine R_len rfl (R_fk rfl rfl (R_lk rfl rfl rfl rfl (R_len rfl (R_addN rfl rfl (by omega) (R_fk rfl rfl (R_lk rfl rfl rfl rfl (R_len rfl ?_)))))))
 refine R_addN rfl rfl (by omega) (R_gtr rfl rfl (R_e ?_))
 refine W_seq_if rfl (fun c1=>?_) fun c1=>?_
 ·
  refine W_seq_seq (W_r (R_mv rfl (R_e (W_seq_ret ?_))))
  refine Ret_1 (@rfl V (iV (1:Int))) (fz_int ?_)
  · rw [lfE,if_pos (by omega)]
 refine W_seq_skip (W_r (R_fk rfl rfl (R_lk rfl rfl rfl rfl (R_callk (check_pure x.ac ((64:Int))) rfl (R_mv rfl (R_e (W_ret ?_)))))))
 refine Ret_1 (@rfl V (iV (wchk x.ac ((64:Int))))) (fz_int ?_)
 · rw [lfE,if_neg (by omega)]
def r150_8:List SO:=[
 qF 25 3 2,
 ql 26 25,
 qN 27 26,
 qF 28 4 2,
 ql 29 28,
 qN 30 29,
 qP 31 .neq 27 30]
def r150_16:List SO:=[
 qM 47 6,
 qC 48 .gtr 47 0,
 qM 49 48,
 ⟨some (49,true),some 50,.fld 3 (.t 2)⟩,
 ⟨some (49,true),some 51,.load false 1 (.t 50)⟩,
 ⟨some (49,true),some 52,.mv (.t 6)⟩,
 ⟨some (49,true),some 53,.bin .sub (.t 52) (.c (.int .i64 1))⟩,
 ⟨some (49,true),some 54,.idx 1 (.t 51) (.t 53)⟩,
 ⟨some (49,true),some 55,.load false 1 (.t 54)⟩,
 ⟨some (49,true),some 56,.mv (.t 7)⟩,
 ⟨some (49,true),some 57,.call false 123 [.t 55,.t 56]⟩,
 ⟨some (49,true),some 58,.bin .geq (.t 57) (.c (.int .i64 0))⟩,
 sO 59 (.pick (.t 49) (.t 58) (.c (.bool false)))]
def r150_18:List SO:=[
 qF 60 4 2,
 ql 61 60,
 qM 62 6,
 qA 63 1 61 62,
 ql 64 63,
 qC 65 .lss 64 0,
 qM 66 65,
 ⟨some (66,false),some 67,.fld 4 (.t 2)⟩,
 ⟨some (66,false),some 68,.load false 1 (.t 67)⟩,
 ⟨some (66,false),some 69,.mv (.t 6)⟩,
 ⟨some (66,false),some 70,.idx 1 (.t 68) (.t 69)⟩,
 ⟨some (66,false),some 71,.load false 1 (.t 70)⟩,
 ⟨some (66,false),some 72,.mv (.t 1)⟩,
 ⟨some (66,false),some 73,.bin .geq (.t 71) (.t 72)⟩,
 sO 74 (.pick (.t 66) (.c (.bool true)) (.t 73))]
def b150_0:SC:=.seq (.reg [qP 36 .lss 35 34]) (.seq (.cond (.t 36) (.skip) (.exit 1)) (.seq (.block 2 (.seq (.reg [qM 37 35,qA 38 1 33 35,ql 39 38,qM 6 37,qM 7 39]) (.seq (.seq (.reg [qM 40 7,qF 41 2 2,ql 42 41,sO 43 (.call false 104 [.t 40,.t 42]),qM 8 43]) (.seq (.reg [qM 44 8,qC 45 .neq 44 0]) (.cond (.t 45) (.seq (.reg [qM 46 8,qM 4 46]) (.ret)) (.skip)))) (.seq (.seq (.reg r150_16) (.cond (.t 59) (.seq (.reg [qI 4 10]) (.ret)) (.skip))) (.seq (.reg r150_18) (.cond (.t 74) (.seq (.reg [qI 4 2]) (.ret)) (.skip))))))) (.reg [qC 75 .add 35 1,qM 35 75])))
def s150:SF:=⟨76,[.tmp 4],.seq (.reg [sO 2 (.box 99 5 (.t 0)),qI 4 0]) (.seq (.block 0 (.seq (.reg [qF 10 1 2,ql 11 10,qN 12 11,qC 13 .gtr 12 0,qM 9 13]) (.cond (.t 9) (.seq (.reg [qI 4 1]) (.ret)) (.seq (.reg [qF 15 2 2,ql 16 15,qN 17 16,qC 18 .eql 17 0,qM 14 18]) (.cond (.t 14) (.seq (.reg [qI 4 19]) (.ret)) (.skip)))))) (.seq (.seq (.reg [qF 19 2 2,ql 20 19,sO 21 (.call false 100 [.t 20,.c (.int .i64 64)]),qM 5 21]) (.seq (.reg [qM 22 5,qC 23 .neq 22 0]) (.cond (.t 23) (.seq (.reg [qM 24 5,qM 4 24]) (.ret)) (.skip)))) (.seq (.seq (.reg r150_8) (.cond (.t 31) (.seq (.reg [qI 4 1]) (.ret)) (.skip))) (.seq (.seq (.reg [qF 32 3 2,ql 33 32,qN 34 33,qI 35 0]) (.block 1 (.loop b150_0))) (.seq (.reg [qI 4 0]) (.ret))))))⟩
theorem s150_ok:slimF Tryz.prog ⟨[107,108,109,116,120,126,127,167,169,170,171,172,194,196,198,209,222,226],[]⟩ Tryz.f150=some s150:=by kernel_rfl
def s104:SF:=⟨12,[.tmp 4],.seq (.reg [qI 4 0]) (.seq (.seq (.reg [qM 5 0,qN 6 5,qM 7 1,qN 8 7,qP 9 .neq 6 8]) (.cond (.t 9) (.seq (.reg [qI 4 1]) (.ret)) (.skip))) (.seq (.seq (.reg [qM 10 0,sO 11 (.call false 153 [.t 10,.c (.fn 156 [] [])])]) (.cond (.t 11) (.seq (.reg [qI 4 2]) (.ret)) (.skip))) (.seq (.reg [qI 4 0]) (.ret))))⟩
theorem s104_ok:slimF Tryz.prog ⟨[107,108,109,116,120,126,127,167,169,170,171,172,194,196,198,209,222,226],[]⟩ Tryz.f104=some s104:=by kernel_rfl
def r156_1:List SO:=[
 qM 3 0,
 qC 4 .lss 3 0,
 qM 5 4,
 ⟨some (5,false),some 6,.mv (.t 0)⟩,
 ⟨some (5,false),some 7,.bin .gtr (.t 6) (.c (.int .i64 1048576))⟩,
 sO 8 (.pick (.t 5) (.c (.bool true)) (.t 7)),
 qM 2 8]
def s156:SF:=⟨9,[.tmp 2],.seq (.reg [sO 2 (.mv (.c (.bool false)))]) (.seq (.reg r156_1) (.ret))⟩
theorem s156_ok:slimF Tryz.prog ⟨[107,108,109,116,120,126,127,167,169,170,171,172,194,196,198,209,222,226],[]⟩ Tryz.f156=some s156:=by kernel_rfl
theorem values1_pure (o:Int):PureC Tryz.prog 156 [(iV (o))] (V.bool (decide (o < 0∨1048576 < o))):=by
 refine pW Tryz.func156 s156_ok fun hB=>?_
 unfold s156
 dsimp only
 refine W_r (R_mv rfl (R_e (W_r (R_mv rfl (R_lss rfl rfl (R_mv rfl ?_))))))
 refine Ops_seg 3 (fun T H=>T 8=(V.bool (decide (((o) < (0:Int))∨((1048576:Int) < (o)))))∧True) ?_ ?_
 ·
  by_cases g1:(o) < (0:Int)
  ·
   refine G_n (edT g1 rfl) (G_n (edT g1 rfl) (R_pickT (edT g1 rfl) rfl ?_))
   exact ⟨(dec_orT g1),trivial⟩
  ·
   refine G_yes (edF g1 rfl) (R_mv rfl (G_yes (edF g1 rfl) (R_gtr rfl rfl (R_pickF (edF g1 rfl) rfl ?_))))
   exact ⟨(dec_orF g1),trivial⟩
 intro T H ⟨t8,_⟩
 refine R_mv t8 (R_e (W_ret ?_))
 refine Ret_1 (@rfl V (V.bool (decide (((o) < (0:Int))∨((1048576:Int) < (o)))))) (fz_bool ?_)
 · first|rfl|exact decide_eq_decide.2 (by omega)
theorem values_pure (outs suffix:List Int):PureC Tryz.prog 104 [(ints outs),(ints suffix)] (iV (vlE outs suffix)):=by
 refine pW Tryz.func104 s104_ok fun hB=>?_
 unfold s104
 dsimp only
 refine W_r (R_mv rfl (R_e (W_seq_seq (W_r (R_mv rfl (R_len rfl (R_mv rfl ?_)))))))
 refine R_len rfl (R_neq rfl rfl (R_e ?_))
 refine W_seq_if rfl (fun c1=>?_) fun c1=>?_
 ·
  refine W_seq_seq (W_r (R_mv rfl (R_e (W_seq_ret ?_))))
  refine Ret_1 (@rfl V (iV (1:Int))) (fz_int ?_)
  · rw [vlE,if_pos (by omega)]
 refine W_seq_skip (W_seq_seq (W_r (R_mv rfl (R_callk (coni_pure (fun a=>decide (a < 0∨1048576 < a)) outs 156 ([]) (by simp) (by simp) (fun k _=>values1_pure (nth outs k))) rfl (R_e ?_)))))
 refine W_seq_if (p:=0≤fi (fun jx=>(fun a=>decide (a < 0∨1048576 < a)) (nth outs jx)) 0 outs.length) rfl (fun c2=>?_) (fun c2=>?_)
 ·
  refine W_seq_seq (W_r (R_mv rfl (R_e (W_seq_ret ?_))))
  refine Ret_1 (@rfl V (iV (2:Int))) (fz_int ?_)
  · have e:=ou_fe outs
    rw [vlE,if_neg (by omega)]; omega
 refine W_seq_skip (W_r (R_mv rfl (R_e (W_ret ?_))))
 refine Ret_1 (@rfl V (iV (0:Int))) (fz_int ?_)
 · have e:=ou_fe outs
   rw [vlE,if_neg (by omega)]; omega
theorem inner_pure (x:Nd) (n:Nat) (ho:x.ou.length≤1048576):PureC Tryz.prog 150 [(V.agg (cN x)),(iV ((n:Nat):Int))] (iV (inE2 x n)):=by
 refine pW Tryz.func150 s150_ok fun hB=>?_
 unfold s150
 dsimp only
 refine W_r (R_box (i:=2) (n:=0) (m:=5) (cs:=[(V.bool x.lf),(ints x.ac),(ints x.sf),(intss x.ou),(ints x.kd)]) rfl (congrArg Blk.ver rfl) rfl rfl rfl (R_mv rfl (R_e (W_seq_blockg fun Q1 n1 x1 y1 z1=>(W_r (R_fk rfl rfl (R_lk rfl rfl rfl rfl ?_)))))))
 refine R_len rfl (R_gtr rfl rfl (R_mv rfl (R_e ?_)))
 refine W_if rfl (fun c2=>?_) fun c2=>?_
 ·
  refine W_r (R_mv rfl (R_e (W_ret (y1 _ _ ?_))))
  refine Ret_1 (@rfl V (iV (1:Int))) (fz_int ?_)
  · rw [inE2,if_pos (by omega)]
 refine W_r (R_fk rfl rfl (R_lk rfl rfl rfl rfl (R_len rfl (R_eql rfl rfl (R_mv rfl (R_e ?_))))))
 refine W_if rfl (fun c3=>?_) fun c3=>?_
 ·
  refine W_r (R_mv rfl (R_e (W_ret (y1 _ _ ?_))))
  refine Ret_1 (@rfl V (iV (19:Int))) (fz_int ?_)
  · rw [inE2,if_neg (by omega),if_pos (by omega)]
 refine W_skip (n1 _ _ (.done (W_seq_seq (W_r (R_fk rfl rfl (R_lk rfl rfl rfl rfl (R_callk (check_pure x.sf ((64:Int))) rfl ?_)))))))
 refine R_mv rfl (R_e (W_seq_seq (W_r (R_mv rfl (R_neq rfl rfl (R_e ?_))))))
 refine W_seq_if rfl (fun c4=>?_) fun c4=>?_
 ·
  refine W_seq_seq (W_r (R_mv rfl (R_mv rfl (R_e (W_seq_ret ?_)))))
  refine Ret_1 (@rfl V (iV (wchk x.sf ((64:Int))))) (fz_int ?_)
  · rw [inE2,if_neg (by omega),if_neg (by omega),if_pos (by omega)]
 refine W_seq_skip (W_seq_seq (W_r (R_fk rfl rfl (R_lk rfl rfl rfl rfl (R_len rfl (R_fk rfl rfl (R_lk rfl rfl rfl rfl ?_)))))))
 refine R_len rfl (R_neq rfl rfl (R_e ?_))
 refine W_seq_if rfl (fun c5=>?_) fun c5=>?_
 ·
  refine W_seq_seq (W_r (R_mv rfl (R_e (W_seq_ret ?_))))
  refine Ret_1 (@rfl V (iV (1:Int))) (fz_int ?_)
  · rw [inE2,if_neg (by omega),if_neg (by omega),if_neg (by omega),if_pos (by omega)]
 refine W_seq_skip (W_seq_seq (W_r (R_fk rfl rfl (R_lk rfl rfl rfl rfl (R_len rfl (R_mv rfl (R_e ?_)))))))
 refine W_seq_blockg fun Q6 n6 x6 y6 z6=>?_
 refine W_loop (fun mm T H=> ∃ (k:Nat),mm=x.ou.length - k∧T 1=(iV ((n:Nat):Int))∧T 2=(V.mp 2 1 0 0)∧T 33=(intss x.ou)∧T 34=(iV ((x.ou.length:Nat):Int))∧T 35=(iV ((k:Nat):Int))∧H 2=(bk 1 99 5 [(cN x)])∧(k≤x.ou.length)∧(x.ou.length=x.kd.length)∧(x.ac.length=0)∧(x.sf.length≠0)∧(wchk x.sf 64=0)∧(fe (chE x n) 0 x.ou.length=fe (chE x n) k (x.ou.length - k))) ?_ ?_
 ·
  refine ⟨_,0,rfl,rfl,rfl,rfl,rfl,(Eq.trans (@rfl V (iV (0:Int))) rfl),rfl,?_,?_,?_,?_,?_,?_⟩
  · omega
  · omega
  · omega
  · omega
  · omega
  · rfl
 intro mm T H ⟨k,hmm,t1,t2,t33,t34,t35,h2,hk,hl,ga,gs,gw,hc⟩ Q7 p17 p27 p37
 unfold b150_0
 refine W_r (R_lss t35 t34 (R_e ?_))
 refine W_seq_if rfl (fun c8=>?_) fun c8=>?_
 ·
  refine W_seq_skip (W_seq_blockg fun Q9 n9 x9 y9 z9=>(W_r (R_mv t35 (R_idx (i:=k) t33 t35 (by omega) rfl (R_load_pp rfl rfl (R_mv rfl (R_mv rfl ?_)))))))
  refine R_e (W_seq_seq (W_r (R_mv rfl (R_fk t2 h2 (R_lk rfl h2 rfl rfl (R_callk (values_pure ((nth (x.ou) (k))) x.sf) rfl (R_mv rfl ?_)))))))
  refine R_e (W_seq_seq (W_r (R_mv rfl (R_neq rfl rfl (R_e ?_)))))
  refine W_seq_if rfl (fun c10=>?_) fun c10=>?_
  ·
   refine W_seq_seq (W_r (R_mv rfl (R_mv rfl (R_e (W_seq_ret (y9 _ _ (p27 _ _ ?_)))))))
   refine y6 _ _ ?_
   refine Ret_1 (@rfl V (iV (vlE ((nth (x.ou) (k))) x.sf))) (fz_int ?_)
   · rw [inE2,if_neg (by omega),if_neg (by omega),if_neg (by omega),if_neg (by omega),hc,fe_hit (by rw [chE,if_pos (by omega)]; omega) (by omega),chE,if_pos (by omega)]
  refine W_seq_skip (W_seq_seq (W_r (R_mv rfl (R_gtr rfl rfl (R_mv rfl ?_)))))
  refine Ops_seg 10 (fun T H=>T 1=(iV ((n:Nat):Int))∧T 2=(V.mp 2 1 0 0)∧T 6=(iV ((k:Nat):Int))∧T 33=(intss x.ou)∧T 34=(iV ((x.ou.length:Nat):Int))∧T 35=(iV ((k:Nat):Int))∧T 59=(V.bool (decide (((0:Int) < ((k:Nat):Int))∧((0:Int)≤(lexI ((nth (x.ou) (((k:Nat):Int) - (1:Int)).toNat)) ((nth (x.ou) (k))))))))∧H 2=(bk 1 99 5 [(cN x)])∧True) ?_ ?_
  ·
   by_cases g11:(0:Int) < ((k:Nat):Int)
   ·
    refine G_yes (edT g11 rfl) (R_fk t2 h2 (G_yes (edT g11 rfl) (R_lk rfl h2 rfl rfl (G_yes (edT g11 rfl) (R_mv rfl (G_yes (edT g11 rfl) (R_sub rfl rfl (by omega) (by omega) ?_)))))))
    refine G_yes (edT g11 rfl) (R_idxI (i:=(((k:Nat):Int) - (1:Int))) (@rfl V (intss x.ou)) (@rfl V (iV (((k:Nat):Int) - (1:Int)))) (by omega) (by omega) rfl (G_yes (edT g11 rfl) (R_load_pp rfl rfl (G_yes (edT g11 rfl) (R_mv rfl (G_yes (edT g11 rfl) (R_callk (lex_pure ((nth (x.ou) (((k:Nat):Int) - (1:Int)).toNat)) ((nth (x.ou) (k)))) rfl ?_)))))))
    refine G_yes (edT g11 rfl) (R_geq rfl rfl (R_pickT (edT g11 rfl) rfl ?_))
    exact ⟨t1,t2,rfl,t33,t34,t35,(dec_andT g11),h2,trivial⟩
   ·
    refine G_n (edF g11 rfl) (G_n (edF g11 rfl) (G_n (edF g11 rfl) (G_n (edF g11 rfl) (G_n (edF g11 rfl) (G_n (edF g11 rfl) (G_n (edF g11 rfl) (G_n (edF g11 rfl) ?_)))))))
    refine G_n (edF g11 rfl) (R_pickF (edF g11 rfl) rfl ?_)
    exact ⟨t1,t2,rfl,t33,t34,t35,(dec_andF g11),h2,trivial⟩
  intro T H ⟨t1,t2,t6,t33,t34,t35,t59,h2,_⟩
  refine R_e ?_
  refine W_seq_if t59 (fun c12=>?_) fun c12=>?_
  ·
   have d2:0 < k∧0≤lexI (nth x.ou (k - 1)) (nth x.ou k):=by have q:=c12; rw [show (((k:Nat):Int) - (1:Int)).toNat=k - 1 by omega] at q; omega
   refine W_seq_seq (W_r (R_mv rfl (R_e (W_seq_ret (y9 _ _ (p27 _ _ (y6 _ _ ?_)))))))
   refine Ret_1 (@rfl V (iV (10:Int))) (fz_int ?_)
   · rw [inE2,if_neg (by omega),if_neg (by omega),if_neg (by omega),if_neg (by omega),hc,fe_hit (by rw [chE,if_neg (by omega),if_pos d2]; omega) (by omega),chE,if_neg (by omega),if_pos d2]
  have d2: ¬(0 < k∧0≤lexI (nth x.ou (k - 1)) (nth x.ou k)):=by have q:=c12; rw [show (((k:Nat):Int) - (1:Int)).toNat=k - 1 by omega] at q; omega
  refine W_seq_skip (W_r (R_fk t2 h2 (R_lk rfl h2 rfl rfl (R_mv t6 (R_idx (i:=k) (@rfl V (ints x.kd)) (@rfl V (iV ((k:Nat):Int))) (by omega) rfl (R_load_pp rfl rfl (R_lss rfl rfl ?_)))))))
  refine R_mv rfl ?_
  refine Ops_seg 8 (fun T H=>T 1=(iV ((n:Nat):Int))∧T 2=(V.mp 2 1 0 0)∧T 33=(intss x.ou)∧T 34=(iV ((x.ou.length:Nat):Int))∧T 35=(iV ((k:Nat):Int))∧T 74=(V.bool (decide ((((nth (x.kd) (k))) < (0:Int))∨(((n:Nat):Int)≤((nth (x.kd) (k)))))))∧H 2=(bk 1 99 5 [(cN x)])∧True) ?_ ?_
  ·
   by_cases g13:((nth (x.kd) (k))) < (0:Int)
   ·
    refine G_n (edT g13 rfl) (G_n (edT g13 rfl) (G_n (edT g13 rfl) (G_n (edT g13 rfl) (G_n (edT g13 rfl) (G_n (edT g13 rfl) (G_n (edT g13 rfl) (R_pickT (edT g13 rfl) rfl ?_)))))))
    exact ⟨t1,t2,t33,t34,t35,(dec_orT g13),h2,trivial⟩
   ·
    refine G_yes (edF g13 rfl) (R_fk t2 h2 (G_yes (edF g13 rfl) (R_lk rfl h2 rfl rfl (G_yes (edF g13 rfl) (R_mv t6 (G_yes (edF g13 rfl) (R_idx (i:=k) (@rfl V (ints x.kd)) (@rfl V (iV ((k:Nat):Int))) (by omega) rfl ?_)))))))
    refine G_yes (edF g13 rfl) (R_load_pp rfl rfl (G_yes (edF g13 rfl) (R_mv t1 (G_yes (edF g13 rfl) (R_geq rfl rfl (R_pickF (edF g13 rfl) rfl ?_))))))
    exact ⟨t1,t2,t33,t34,t35,(dec_orF g13),h2,trivial⟩
  intro T H ⟨t1,t2,t33,t34,t35,t74,h2,_⟩
  refine R_e ?_
  refine W_if t74 (fun c14=>?_) fun c14=>?_
  ·
   refine W_r (R_mv rfl (R_e (W_ret (y9 _ _ (p27 _ _ (y6 _ _ ?_))))))
   refine Ret_1 (@rfl V (iV (2:Int))) (fz_int ?_)
   · rw [inE2,if_neg (by omega),if_neg (by omega),if_neg (by omega),if_neg (by omega),hc,fe_hit (by rw [chE,if_neg (by omega),if_neg d2,if_pos (by omega)]; omega) (by omega),chE,if_neg (by omega),if_neg d2,if_pos (by omega)]
  refine W_skip (n9 _ _ (.done (W_t (R_addN t35 (@rfl V (iV ((1:Nat):Int))) (by omega) (R_mv rfl (R_e ?_))))))
  refine p17 _ _ _ ?_ ⟨(k+1),rfl,t1,t2,t33,t34,(Eq.trans (@rfl V (iV ((k+1:Nat):Int))) (by rfl)),h2,?_,?_,?_,?_,?_,?_⟩
  · omega
  · omega
  · omega
  · omega
  · omega
  · omega
  · rw [hc,fe_skip (by rw [chE,if_neg (by omega),if_neg d2,if_neg (by omega)]) (by omega)]
 refine W_seq_exit (p37 _ _ _ (x6 _ _ (.done (W_r (R_mv rfl (R_e (W_ret ?_)))))))
 refine Ret_1 (@rfl V (iV (0:Int))) (fz_int ?_)
 · rw [inE2,if_neg (by omega),if_neg (by omega),if_neg (by omega),if_neg (by omega),hc,fe_end (by omega)]
def r151_10:List SO:=[
 qM 29 4,
 qF 30 0 1,
 ql 31 30,
 qM 32 6,
 qA 33 5 31 32,
 qF 34 4 33,
 ql 35 34,
 sO 36 (.append 3 1 8 (.t 29) (.t 35)),
 qM 4 36]
def b151_0:SC:=.seq (.seq (.reg [qM 12 5,qM 13 4,qN 14 13,qP 15 .lss 12 14]) (.cond (.t 15) (.skip) (.exit 0))) (.seq (.block 1 (.seq (.reg [qM 18 4,qM 19 5,qA 20 1 18 19,ql 21 20,qM 6 21]) (.seq (.seq (.reg [qM 22 3,qM 23 6,qA 24 1 22 23,ql 25 24]) (.cond (.t 25) (.seq (.reg [sO 2 (.mv (.c (.bool false)))]) (.ret)) (.skip))) (.seq (.reg [qM 26 3,qM 27 6,qA 28 1 26 27,sN (.store 1 (.t 28) (.c (.bool true)))]) (.seq (.reg r151_10) (.seq (.reg [qM 37 4,qN 38 37,qF 39 0 1,ql 40 39,qN 41 40,qP 42 .gtr 38 41]) (.cond (.t 42) (.seq (.reg [sO 2 (.mv (.c (.bool false)))]) (.ret)) (.skip)))))))) (.reg [qM 16 5,qC 17 .add 16 1,qM 5 17]))
def r151_13:List SO:=[
 qM 43 4,
 qN 44 43,
 qF 45 0 1,
 ql 46 45,
 qN 47 46,
 qP 48 .eql 44 47,
 qM 2 48]
def s151:SF:=⟨49,[.tmp 2],.seq (.reg [sO 1 (.box 24 1 (.t 0)),sO 2 (.mv (.c (.bool false)))]) (.seq (.reg [qF 7 0 1,ql 8 7,qN 9 8,sO 10 (.mks 4 1 1 [.bool false] (.t 9) (.t 9)),qM 3 10]) (.seq (.reg [sO 11 (.bslice 3 1 true [.int .i64 0] 1 [(0,.c (.int .i64 0))]),qM 4 11]) (.seq (.seq (.reg [qI 5 0]) (.block 0 (.loop b151_0))) (.seq (.reg r151_13) (.ret)))))⟩
theorem s151_ok:slimF Tryz.prog ⟨[107,108,109,116,120,126,127,167,169,170,171,172,194,196,198,209,222,226],[11]⟩ Tryz.f151=some s151:=by kernel_rfl
end Go.Proofs.YtmnjchcoigbngabGreat
namespace Go.Proofs.YtmnjchcoigbngabGreat
open Go Go.Proofs
attribute [local irreducible] mksV
theorem connected_pure (t:Dt) (hk:KI t) (hb:Bd t):PureC Tryz.prog 151 [(V.agg [(V.sl (List.map cN (t.nd)))])] (V.bool (coB t)):=by
 refine pW Tryz.func151 s151_ok fun hB=>?_
 unfold s151
 dsimp only
 have hp:=hk.pos
 have hbn:=hb.n
 refine W_r (R_box (i:=1) (n:=0) (m:=1) (cs:=[(V.sl (List.map cN (t.nd)))]) rfl (congrArg Blk.ver rfl) rfl rfl rfl (R_mv rfl (R_e (W_r (R_fk rfl rfl (R_lk rfl rfl rfl rfl (R_len rfl ?_)))))))
 refine R_mksm (i:=10) (n:=0) (m:=t.nd.length) (q:=t.nd.length) (f:=cB) (x:=false) rfl (congrArg Blk.ver rfl) (@rfl V (iV ((t.nd.length:Nat):Int))) (@rfl V (iV ((t.nd.length:Nat):Int))) rfl (by omega) (by omega) (by omega) (R_mv rfl (R_e (W_r (R_bslice_own (i:=11) (n:=0) (qs:=[(0,(iV (0:Int)))]) (rows:=[[(iV (0:Int))]]) rfl (congrArg Blk.ver rfl) (mcons (congrArg (fun v=>(0,v)) rfl) rfl) rfl (R_mv rfl (R_e (W_seq_seq ?_)))))))
 refine W_r (R_mv rfl (R_e (W_seq_blockg fun Q1 n1 x1 y1 z1=>?_)))
 refine W_loop (fun mm T H=> ∃ (k:Nat) (w:Nat) (P:RS),mm=t.nd.length+1 - k∧T 1=(V.mp 1 1 0 0)∧T 3=(V.ms 10 1 0 (t.nd.length))∧T 4=(V.ms 11 w 0 (P.1.length))∧T 5=(iV ((k:Nat):Int))∧H 1=(bk 1 24 1 [[(V.sl (List.map cN (t.nd)))]])∧H 10=(bk 1 4 1 (List.map cB (P.2)))∧H 11=(bk w 3 1 (List.map cI (P.1)))∧(k≤P.1.length)∧(CI t P)∧(coN t (t.nd.length+1) 0 (co0 t)=coN t (t.nd.length+1 - k) k P)) ?_ ?_
 ·
  refine ⟨_,0,1,(co0 t),rfl,rfl,rfl,(Eq.trans (@rfl V (V.ms 11 1 0 (1))) (by rfl)),(Eq.trans (@rfl V (iV (0:Int))) rfl),rfl,(Eq.trans (@rfl Blk (bk 1 4 1 (List.map cB (List.replicate t.nd.length false)))) (by rfl)),(Eq.trans (@rfl Blk (bk 1 3 1 [[(iV (0:Int))]])) (by rfl)),?_,?_,?_⟩
  · exact Nat.zero_le _
  · exact ci0 hk
  · rfl
 intro mm T H ⟨k,w,P,hmm,t1,t3,t4,t5,h1,h10,h11,hk2,hi,hc⟩ Q2 p12 p22 p32
 unfold b151_0
 have hi1:=hi.l1
 have hi2:=hi.l2
 refine W_seq_seq (W_r (R_mv t5 (R_mv t4 (R_len_ms rfl h11 (by simp) (R_lss rfl rfl (R_e ?_))))))
 refine W_seq_if rfl (fun c3=>?_) fun c3=>?_
 ·
  have r1:=hi.rg _ (nth_mem (show k < P.1.length by omega))
  have r2:=hb.kd _ (show (nth P.1 k).toNat < t.nd.length by omega)
  have r3:(qS t P.1 k).length=P.1.length+(nth t.nd (nth P.1 k).toNat).kd.length:=by unfold qS; rw [List.length_append]
  refine W_seq_skip (W_seq_blockg fun Q4 n4 x4 y4 z4=>(W_r (R_mv t4 (R_mv t5 (R_idx_ms0 (i:=k) (@rfl V (V.ms 11 w 0 (P.1.length))) (@rfl V (iV ((k:Nat):Int))) h11 oB rfl (by omega) (R_load_mp (v:=(iV ((nth (P.1) (k))))) rfl h11 (ldB_map (by omega) (by rfl)) (R_mv rfl ?_)))))))
  refine R_e (W_seq_seq (W_r (R_mv t3 (R_mv rfl (R_idxI_ms0 (i:=((nth (P.1) (k)))) (@rfl V (V.ms 10 1 0 (t.nd.length))) (@rfl V (iV ((nth (P.1) (k))))) h10 oB rfl (by omega) (by omega) (R_load_mp (v:=(V.bool ((nth (P.2) ((((nth (P.1) (k)))).toNat))))) rfl h10 (ldB_map (by omega) (by rfl)) (R_e ?_)))))))
  refine W_seq_ifb rfl (fun c5=>?_) (fun c5=>?_)
  ·
   have d2:nth P.2 (nth P.1 k).toNat=true:=c5
   refine W_seq_seq (W_r (R_mv rfl (R_e (W_seq_ret (y4 _ _ (p22 _ _ (y1 _ _ ?_)))))))
   refine Ret_1 (@rfl V (V.bool false)) (fz_bool ?_)
   · rw [coB_none (by rw [hc]; exact co_yes (by omega) (by omega) d2)]
  have d2:nth P.2 (nth P.1 k).toNat=false:=by simpa using c5
  refine W_seq_skip (W_r (R_mv t3 (R_mv rfl (R_idxI_ms0 (i:=((nth (P.1) (k)))) (@rfl V (V.ms 10 1 0 (t.nd.length))) (@rfl V (iV ((nth (P.1) (k))))) h10 oB rfl (by omega) (by omega) (R_store (vs:=[(V.bool true)]) (B':=(bk 1 4 1 (List.map cB ((P.2).set ((((nth (P.1) (k)))).toNat) true)))) rfl rfl rfl h10 (stB_map (x:=true) (i:=((((nth (P.1) (k)))).toNat)) (by omega) rfl rfl rfl rfl) (R_e (W_r ?_)))))))
  refine R_mv t4 (R_fk t1 h1 (R_lk rfl h1 rfl rfl (R_mv rfl (R_idxI (i:=((nth (P.1) (k)))) (@rfl V (V.sl (List.map cN (t.nd)))) (@rfl V (iV ((nth (P.1) (k))))) (by omega) (by omega) rfl (R_fld_pp (cs':=[(ints (((nth (t.nd) ((nth (P.1) (k))).toNat)).kd))]) rfl rfl (R_load_pp rfl rfl (R_appendS (l:=P.1) (m:=(((nth (t.nd) ((nth (P.1) (k))).toNat)).kd)) (f:=cI) (@rfl V (V.ms 11 w 0 (P.1.length))) h11 (by rfl) (@rfl V (ints (((nth (t.nd) ((nth (P.1) (k))).toNat)).kd))) (fun _=>rfl) (fun _=>rfl) (by omega) (by omega) ?_)))))))
  refine R_mv rfl (R_e (W_r (R_mv rfl (R_len_ms rfl (@rfl Blk (bk (w+1) 3 1 (List.map cI (P.1++(((nth (t.nd) ((nth (P.1) (k))).toNat)).kd))))) (by simp) (R_fk t1 h1 (R_lk rfl h1 rfl rfl (R_len rfl ?_)))))))
  refine R_gtr rfl rfl (R_e ?_)
  refine W_if rfl (fun c6=>?_) fun c6=>?_
  ·
   have d3:=c6
   refine W_r (R_mv rfl (R_e (W_ret (y4 _ _ (p22 _ _ (y1 _ _ ?_))))))
   refine Ret_1 (@rfl V (V.bool false)) (fz_bool ?_)
   · rw [coB_none (by rw [hc]; exact co_big (by omega) (by omega) d2 (by omega))]
  have d3:=c6
  refine W_skip (n4 _ _ (.done (W_t (R_mv t5 (R_addN rfl (@rfl V (iV ((1:Nat):Int))) (by omega) (R_mv rfl (R_e ?_)))))))
  refine p12 _ _ _ ?_ ⟨(k+1),(w+1),(cS t P k),rfl,t1,t3,(Eq.trans (@rfl V (V.ms 11 (w+1) 0 (P.1.length+(((nth (t.nd) ((nth (P.1) (k))).toNat)).kd).length))) (by (rw [show (cS t P k).1.length=(qS t P.1 k).length from rfl,r3]; done))),(Eq.trans (@rfl V (iV ((k+1:Nat):Int))) (by rfl)),h1,(Eq.trans (@rfl Blk (bk 1 4 1 (List.map cB ((P.2).set ((((nth (P.1) (k)))).toNat) true)))) (by rfl)),(Eq.trans (@rfl Blk (bk (w+1) 3 1 (List.map cI (P.1++(((nth (t.nd) ((nth (P.1) (k))).toNat)).kd))))) (by rfl)),?_,?_,?_⟩
  · omega
  · show k+1≤(P.1++_).length; rw [List.length_append]; omega
  · exact hi.step hk (by omega) (by omega)
  · rw [hc,co_go (by omega) (by omega) d2 (by omega)]
 refine W_seq_exit (p32 _ _ _ (x1 _ _ (.done (W_r (R_mv t4 (R_len_ms rfl h11 (by simp) (R_fk t1 h1 ?_)))))))
 refine R_lk rfl h1 rfl rfl (R_len rfl (R_eql rfl rfl (R_mv rfl (R_e (W_ret ?_)))))
 refine Ret_1 (@rfl V (V.bool (decide (((P.1.length:Nat):Int)=((t.nd.length:Nat):Int))))) (fz_bool ?_)
 · rw [coB_some (by rw [hc]; exact co_end (by omega) (by omega))]; exact decide_eq_decide.2 (by omega)
end Go.Proofs.YtmnjchcoigbngabGreat
namespace Go.Proofs.YtmnjchcoigbngabGreat
open Go Go.Proofs
theorem dvalid_pure (t:Dt) (hb:Bd t):PureC Tryz.prog 99 [(V.agg [(V.sl (List.map cN (t.nd)))])] (iV (dvE t)):=by
 refine pW Tryz.func99 s99_ok fun hB=>?_
 unfold s99
 dsimp only
 refine W_r (R_box (i:=1) (n:=0) (m:=1) (cs:=[(V.sl (List.map cN (t.nd)))]) rfl (congrArg Blk.ver rfl) rfl rfl rfl (R_mv rfl (R_e (W_seq_blockg fun Q1 n1 x1 y1 z1=>(W_r (R_fk rfl rfl (R_lk rfl rfl rfl rfl ?_)))))))
 refine R_len rfl (R_eql rfl rfl (R_mv rfl (R_e ?_)))
 refine W_if rfl (fun c2=>?_) fun c2=>?_
 ·
  refine W_r (R_mv rfl (R_e (W_ret (y1 _ _ ?_))))
  refine Ret_1 (@rfl V (iV (19:Int))) (fz_int ?_)
  · rw [dvE,if_pos (by omega)]
 refine W_r (R_fk rfl rfl (R_lk rfl rfl rfl rfl (R_len rfl (R_gtr rfl rfl (R_mv rfl (R_e ?_))))))
 refine W_if rfl (fun c3=>?_) fun c3=>?_
 ·
  refine W_r (R_mv rfl (R_e (W_ret (y1 _ _ ?_))))
  refine Ret_1 (@rfl V (iV (11:Int))) (fz_int ?_)
  · rw [dvE,if_neg (by omega),if_pos (by omega)]
 refine W_skip (n1 _ _ (.done (W_seq_seq (W_r (R_fk rfl rfl (R_lk rfl rfl rfl rfl (R_len rfl ?_)))))))
 refine R_mv rfl (R_e (W_seq_blockg fun Q4 n4 x4 y4 z4=>?_))
 refine W_loop (fun mm T H=> ∃ (k:Nat) (v4:Nat),mm=t.nd.length - k∧T 1=(V.mp 1 1 0 0)∧T 18=(V.sl (List.map cN (t.nd)))∧T 19=(iV ((t.nd.length:Nat):Int))∧T 20=(iV ((k:Nat):Int))∧H 1=(bk 1 24 1 [[(V.sl (List.map cN (t.nd)))]])∧(H 4).ver=v4∧(k≤t.nd.length)∧(0 < t.nd.length)∧(t.nd.length≤4096)∧(∀ j,j < k→ndE (nth t.nd j) t.nd.length=0)∧(fe (fun k=>ndE (nth t.nd k) t.nd.length) 0 t.nd.length=fe (fun k=>ndE (nth t.nd k) t.nd.length) k (t.nd.length - k))) ?_ ?_
 ·
  refine ⟨_,0,0,rfl,rfl,rfl,rfl,(Eq.trans (@rfl V (iV (0:Int))) rfl),rfl,(congrArg Blk.ver rfl),?_,?_,?_,?_,?_⟩
  · omega
  · omega
  · omega
  · intro j hj; omega
  · rfl
 intro mm T H ⟨k,v4,hmm,t1,t18,t19,t20,h1,h4,hk,g0,g1,hp,hc⟩ Q5 p15 p25 p35
 unfold b99_0
 refine W_r (R_lss t20 t19 (R_e ?_))
 refine W_seq_if rfl (fun c6=>?_) fun c6=>?_
 ·
  have r1:=hb.sf k (by omega)
  have r2:=hb.ou k (by omega)
  have r3:=hb.kd k (by omega)
  refine W_seq_skip (W_seq_blockg fun Q7 n7 x7 y7 z7=>(W_r (R_idx (i:=k) t18 t20 (by omega) rfl (R_load_pp rfl rfl (R_alloc (i:=4) (n:=v4) (m:=5) rfl h4 rfl (R_sk rfl rfl rfl rfl rfl rfl rfl rfl rfl (R_e ?_)))))))
  refine W_r (R_mv rfl (R_e (W_seq_seq (W_r (R_fk rfl rfl (R_lk rfl rfl rfl rfl (R_e ?_)))))))
  refine W_seq_ifb rfl (fun c8=>?_) (fun c8=>?_)
  ·
   have d0:(nth t.nd k).lf=true:=c8
   have e0:ndE (nth t.nd k) t.nd.length=lfE (nth t.nd k):=by rw [ndE,if_pos d0]
   refine W_r (R_lk rfl rfl rfl rfl (R_callk (leaf_pure (((nth (t.nd) (k)))) (by omega) (by omega) (by omega)) rfl (R_mv rfl (R_e (W_r (R_mv rfl (R_neq rfl rfl ?_)))))))
   refine R_e ?_
   refine W_if rfl (fun c9=>?_) fun c9=>?_
   ·
    have d1:ndE (nth t.nd k) t.nd.length≠0:=by rw [e0]; exact c9
    refine W_r (R_mv rfl (R_mv rfl (R_e (W_ret (y7 _ _ (p25 _ _ (y4 _ _ ?_)))))))
    refine Ret_1 (@rfl V (iV (lfE (((nth (t.nd) (k))))))) (fz_int ?_)
    · have e:fe (fun k=>ndE (nth t.nd k) t.nd.length) 0 t.nd.length=ndE (nth t.nd k) t.nd.length:=by rw [hc]; exact fe_hit (e:=fun k=>ndE (nth t.nd k) t.nd.length) d1 (by omega)
      rw [dvE,if_neg (by omega),if_neg (by omega),if_pos (by rw [e]; exact d1),e,e0]
   have d1:ndE (nth t.nd k) t.nd.length=0:=by rw [e0]; omega
   refine W_skip (n7 _ _ (.done (W_t (R_addN t20 (@rfl V (iV ((1:Nat):Int))) (by omega) (R_mv rfl (R_e ?_))))))
   refine p15 _ _ _ ?_ ⟨(k+1),(v4+1),rfl,t1,t18,t19,(Eq.trans (@rfl V (iV ((k+1:Nat):Int))) (by rfl)),h1,(congrArg Blk.ver rfl),?_,?_,?_,?_,?_⟩
   · omega
   · omega
   · omega
   · omega
   · intro i hi
     by_cases e:i=k
     · subst e; exact d1
     · exact hp i (by omega)
   · rw [hc,fe_skip (e:=fun k=>ndE (nth t.nd k) t.nd.length) (by exact d1) (by omega)]
  have d0:(nth t.nd k).lf=false:=by simpa using c8
  have e0:ndE (nth t.nd k) t.nd.length=inE2 (nth t.nd k) t.nd.length:=by rw [ndE,if_neg (by simp [d0])]
  refine W_r (R_lk rfl rfl rfl rfl (R_fk t1 h1 (R_lk rfl h1 rfl rfl (R_len rfl (R_callk (inner_pure (((nth (t.nd) (k)))) t.nd.length (by omega)) rfl (R_mv rfl (R_e ?_)))))))
  refine W_r (R_mv rfl (R_neq rfl rfl (R_e ?_)))
  refine W_if rfl (fun c10=>?_) fun c10=>?_
  ·
   have d1:ndE (nth t.nd k) t.nd.length≠0:=by rw [e0]; exact c10
   refine W_r (R_mv rfl (R_mv rfl (R_e (W_ret (y7 _ _ (p25 _ _ (y4 _ _ ?_)))))))
   refine Ret_1 (@rfl V (iV (inE2 (((nth (t.nd) (k)))) t.nd.length))) (fz_int ?_)
   · have e:fe (fun k=>ndE (nth t.nd k) t.nd.length) 0 t.nd.length=ndE (nth t.nd k) t.nd.length:=by rw [hc]; exact fe_hit (e:=fun k=>ndE (nth t.nd k) t.nd.length) d1 (by omega)
     rw [dvE,if_neg (by omega),if_neg (by omega),if_pos (by rw [e]; exact d1),e,e0]
  have d1:ndE (nth t.nd k) t.nd.length=0:=by rw [e0]; omega
  refine W_skip (n7 _ _ (.done (W_t (R_addN t20 (@rfl V (iV ((1:Nat):Int))) (by omega) (R_mv rfl (R_e ?_))))))
  refine p15 _ _ _ ?_ ⟨(k+1),(v4+1),rfl,t1,t18,t19,(Eq.trans (@rfl V (iV ((k+1:Nat):Int))) (by rfl)),h1,(congrArg Blk.ver rfl),?_,?_,?_,?_,?_⟩
  · omega
  · omega
  · omega
  · omega
  · intro i hi
    by_cases e:i=k
    · subst e; exact d1
    · exact hp i (by omega)
  · rw [hc,fe_skip (e:=fun k=>ndE (nth t.nd k) t.nd.length) (by exact d1) (by omega)]
 have hall: ∀ j,j < t.nd.length→ndE (nth t.nd j) t.nd.length=0:=fun j hj=>hp j (by omega)
 have hki:KI t:=nds_ki g0 hall
 have hz:fe (fun k=>ndE (nth t.nd k) t.nd.length) 0 t.nd.length=0:=by rw [hc,fe_end (by omega)]
 have haw: ∀ w∈acL t.nd,w.length≤1048576:=ac_len hb
 have hal:=acL_len t.nd
 refine W_seq_exit (p35 _ _ _ (x4 _ _ (.done (W_seq_seq (W_r (R_lk t1 h1 rfl rfl (R_callk (connected_pure t hki hb) rfl ?_)))))))
 refine R_notb rfl (R_e ?_)
 refine W_seq_ifb rfl (fun c11=>?_) (fun c11=>?_)
 ·
  have d3:whB t=false:=by rw [← co_wh hki]; simpa using c11
  refine W_seq_seq (W_r (R_mv rfl (R_e (W_seq_ret ?_))))
  refine Ret_1 (@rfl V (iV (1:Int))) (fz_int ?_)
  · rw [dvE,if_neg (by omega),if_neg (by omega),if_neg (by rw [hz]; simp),if_pos d3]
 have d3:whB t=true:=by rw [← co_wh hki]; simpa using c11
 refine W_seq_skip (W_seq_seq (W_r (R_lk t1 h1 rfl rfl (R_callk (access_pure t hb) rfl (R_mv rfl (R_e (W_seq_seq ?_)))))))
 refine W_r (R_mv rfl (R_callk (sorted_pure (acL t.nd) (by omega) haw) rfl (R_len rfl (R_mv rfl (R_len rfl (R_neq rfl rfl (R_e ?_)))))))
 refine W_seq_if rfl (fun c12=>?_) fun c12=>?_
 ·
  refine W_seq_seq (W_r (R_mv rfl (R_e (W_seq_ret ?_))))
  refine Ret_1 (@rfl V (iV (7:Int))) (fz_int ?_)
  · rw [dvE,if_neg (by omega),if_neg (by omega),if_neg (by rw [hz]; simp),if_neg (by simp [d3]),if_pos (by omega)]
 refine W_seq_skip (W_r (R_mv rfl (R_e (W_ret ?_))))
 refine Ret_1 (@rfl V (iV (0:Int))) (fz_int ?_)
 · rw [dvE,if_neg (by omega),if_neg (by omega),if_neg (by rw [hz]; simp),if_neg (by simp [d3]),if_neg (by omega)]
theorem tcheck_pure (l:Ts) (o:Ob) (hb:Bd l.t):PureC Tryz.prog 44 [(V.agg [(iV (l.i)),(V.sl (List.map cN (l.t.nd))),(iV (o.i)),(V.sl (List.map cT (o.tr)))])] (iV (tsE l o)):=by
 refine pW Tryz.func44 s44_ok fun hB=>?_
 unfold s44
 dsimp only
 refine W_r (R_box (i:=1) (n:=0) (m:=4) (cs:=[(iV (l.i)),(V.sl (List.map cN (l.t.nd))),(iV (o.i)),(V.sl (List.map cT (o.tr)))]) rfl (congrArg Blk.ver rfl) rfl rfl rfl (R_mv rfl (R_e (W_seq_seq (W_r (R_fk rfl rfl (R_fk rfl rfl ?_)))))))
 refine R_lk rfl rfl rfl rfl (R_lss rfl rfl (R_mv rfl ?_))
 refine Ops_seg 5 (fun T H=>T 1=(V.mp 1 1 0 0)∧T 19=(V.bool (decide (((l.i) < (1:Int))∨((64:Int) < (l.i)))))∧H 1=(bk 1 87 4 [[(iV (l.i)),(V.sl (List.map cN (l.t.nd))),(iV (o.i)),(V.sl (List.map cT (o.tr)))]])∧H 7=(⟨0,false,false,0,0,[]⟩:Blk)∧True) ?_ ?_
 ·
  by_cases g1:(l.i) < (1:Int)
  ·
   refine G_n (edT g1 rfl) (G_n (edT g1 rfl) (G_n (edT g1 rfl) (G_n (edT g1 rfl) (R_pickT (edT g1 rfl) rfl ?_))))
   exact ⟨rfl,(dec_orT g1),rfl,rfl,trivial⟩
  ·
   refine G_yes (edF g1 rfl) (R_fk rfl rfl (G_yes (edF g1 rfl) (R_fk rfl rfl (G_yes (edF g1 rfl) (R_lk rfl rfl rfl rfl (G_yes (edF g1 rfl) (R_gtr rfl rfl ?_)))))))
   refine R_pickF (edF g1 rfl) rfl ?_
   exact ⟨rfl,(dec_orF g1),rfl,rfl,trivial⟩
 intro T H ⟨t1,t19,h1,h7,_⟩
 refine R_e ?_
 refine W_seq_if t19 (fun c2=>?_) fun c2=>?_
 ·
  refine W_seq_seq (W_r (R_mv rfl (R_e (W_seq_ret ?_))))
  refine Ret_1 (@rfl V (iV (2:Int))) (fz_int ?_)
  · have e:=tvE_1 (l:=l) (by omega)
    unfold tsE; rw [if_pos (by rw [e]; first|assumption|decide),e]
 refine W_seq_skip (W_seq_seq (W_r (R_fk t1 h1 (R_fk rfl h1 (R_lk rfl h1 rfl rfl (R_callk (dvalid_pure l.t hb) rfl (R_mv rfl ?_)))))))
 refine R_e (W_seq_seq (W_r (R_mv rfl (R_neq rfl rfl (R_e ?_)))))
 refine W_seq_if rfl (fun c3=>?_) fun c3=>?_
 ·
  refine W_seq_seq (W_r (R_mv rfl (R_mv rfl (R_e (W_seq_ret ?_)))))
  refine Ret_1 (@rfl V (iV (dvE l.t))) (fz_int ?_)
  · have e:=tvE_2 (l:=l) (by omega) (by assumption)
    unfold tsE; rw [if_pos (by rw [e]; first|assumption|decide),e]
 have hv:dvE l.t=0:=by omega
 have hbn:=hb.n
 refine W_seq_skip (W_r (R_mv rfl (R_mv rfl (R_e (W_seq_seq (W_r (R_fk t1 h1 ?_)))))))
 refine R_fk rfl h1 (R_fk rfl h1 (R_lk rfl h1 rfl rfl (R_len rfl (R_mv rfl (R_e (W_seq_blockg fun Q4 n4 x4 y4 z4=>?_))))))
 refine W_loop (fun mm T H=> ∃ (k:Nat) (v7:Nat),mm=l.t.nd.length - k∧T 1=(V.mp 1 1 0 0)∧T 4=(iV (((acL (l.t.nd.take k)).length:Nat):Int))∧T 5=(V.bool (emB l.t k))∧T 30=(V.sl (List.map cN (l.t.nd)))∧T 31=(iV ((l.t.nd.length:Nat):Int))∧T 32=(iV ((k:Nat):Int))∧H 1=(bk 1 87 4 [[(iV (l.i)),(V.sl (List.map cN (l.t.nd))),(iV (o.i)),(V.sl (List.map cT (o.tr)))]])∧(H 7).ver=v7∧(dvE l.t=0)∧(1≤l.i∧l.i≤64)∧(fe (wdE l) 0 l.t.nd.length=fe (wdE l) k (l.t.nd.length - k))) ?_ ?_
 ·
  refine ⟨_,0,0,rfl,t1,(Eq.trans (@rfl V (iV (0:Int))) (by rfl)),(Eq.trans (@rfl V (V.bool false)) (by rfl)),rfl,rfl,(Eq.trans (@rfl V (iV (0:Int))) rfl),h1,(congrArg Blk.ver h7),?_,?_,?_⟩
  · omega
  · omega
  · rfl
 intro mm T H ⟨k,v7,hmm,t1,t4,t5,t30,t31,t32,h1,h7,hv,hr,hc⟩ Q5 p15 p25 p35
 unfold b44_0
 have q1:=acL_len (l.t.nd.take k)
 have q2:(l.t.nd.take k).length≤k:=by simp; omega
 refine W_r (R_lss t32 t31 (R_e ?_))
 refine W_seq_if rfl (fun c6=>?_) fun c6=>?_
 ·
  refine W_seq_skip (W_seq_blockg fun Q7 n7 x7 y7 z7=>(W_r (R_idx (i:=k) t30 t32 (by omega) rfl (R_load_pp rfl rfl (R_alloc (i:=7) (n:=v7) (m:=5) rfl h7 rfl (R_sk rfl rfl rfl rfl rfl rfl rfl rfl rfl (R_e ?_)))))))
  refine W_seq_seq (W_r (R_fk rfl rfl (R_lk rfl rfl rfl rfl (R_fk t1 h1 (R_fk rfl h1 (R_lk rfl h1 rfl rfl (R_callk (check_pure (((nth (l.t.nd) (k))).ac) ((l.i))) rfl ?_)))))))
  refine R_mv rfl (R_e (W_seq_seq (W_r (R_mv rfl (R_neq rfl rfl (R_e ?_))))))
  refine W_seq_if rfl (fun c8=>?_) fun c8=>?_
  ·
   have d1:wdE l k=wchk (nth l.t.nd k).ac l.i:=by unfold wdE; rw [if_pos c8]
   refine W_seq_seq (W_r (R_mv rfl (R_mv rfl (R_e (W_seq_ret (y7 _ _ (p25 _ _ ?_)))))))
   refine y4 _ _ ?_
   refine Ret_1 (@rfl V (iV (wchk (((nth (l.t.nd) (k))).ac) ((l.i))))) (fz_int ?_)
   · have z3:=(hc.trans (fe_hit (e:=wdE l) (by rw [d1]; assumption) (by omega))).trans d1
     have e:=tvE_3 (l:=l) (by omega) (by omega) (by rw [z3]; assumption)
     rw [z3] at e
     unfold tsE; rw [if_pos (by rw [e]; first|assumption|decide),e]
  have d0:=c8
  refine W_seq_skip (W_seq_seq (W_r (R_fk rfl rfl (R_lk rfl rfl rfl rfl (R_fk t1 h1 (R_fk rfl h1 (R_lk rfl h1 rfl rfl ?_)))))))
  refine R_callk (check_pure (((nth (l.t.nd) (k))).sf) ((l.i))) rfl (R_mv rfl (R_e (W_seq_seq (W_r (R_mv rfl (R_neq rfl rfl (R_e ?_)))))))
  refine W_seq_if rfl (fun c9=>?_) fun c9=>?_
  ·
   have d1:wdE l k=wchk (nth l.t.nd k).sf l.i:=by unfold wdE; rw [if_neg d0]
   refine W_seq_seq (W_r (R_mv rfl (R_mv rfl (R_e (W_seq_ret (y7 _ _ (p25 _ _ ?_)))))))
   refine y4 _ _ ?_
   refine Ret_1 (@rfl V (iV (wchk (((nth (l.t.nd) (k))).sf) ((l.i))))) (fz_int ?_)
   · have z3:=(hc.trans (fe_hit (e:=wdE l) (by rw [d1]; assumption) (by omega))).trans d1
     have e:=tvE_3 (l:=l) (by omega) (by omega) (by rw [z3]; assumption)
     rw [z3] at e
     unfold tsE; rw [if_pos (by rw [e]; first|assumption|decide),e]
  have d2:wdE l k=0:=by unfold wdE; rw [if_neg d0]; omega
  refine W_seq_skip (W_r (R_fk rfl rfl (R_lk rfl rfl rfl rfl (R_e ?_))))
  refine W_ifb rfl (fun c10=>?_) (fun c10=>?_)
  ·
   have d5:(nth l.t.nd k).lf=true:=c10
   refine W_r (R_mv t4 (R_addN rfl (@rfl V (iV ((1:Nat):Int))) (by omega) (R_mv rfl (R_e (W_t (R_mv t5 (R_mv rfl ?_)))))))
   refine Ops_seg 5 (fun T H=>T 1=(V.mp 1 1 0 0)∧T 4=(iV ((((acL (l.t.nd.take k)).length)+1:Nat):Int))∧T 5=(V.bool (emB l.t k))∧T 30=(V.sl (List.map cN (l.t.nd)))∧T 31=(iV ((l.t.nd.length:Nat):Int))∧T 32=(iV ((k:Nat):Int))∧T 64=(V.bool (((emB l.t k)||decide ((((((nth (l.t.nd) (k))).ac).length:Nat):Int)=(0:Int)))))∧H 1=(bk 1 87 4 [[(iV (l.i)),(V.sl (List.map cN (l.t.nd))),(iV (o.i)),(V.sl (List.map cT (o.tr)))]])∧H 7=(bk (v7+1) 99 5 [(cN (((nth (l.t.nd) (k)))))])∧True) ?_ ?_
   ·
    by_cases g11:(emB l.t k)=true
    ·
     refine G_n (ebT g11 rfl) (G_n (ebT g11 rfl) (G_n (ebT g11 rfl) (G_n (ebT g11 rfl) (R_pickT (ebT g11 rfl) rfl ?_))))
     exact ⟨t1,rfl,t5,t30,t31,t32,(borT g11),h1,rfl,trivial⟩
    ·
     refine G_yes (ebF g11 rfl) (R_fk rfl rfl (G_yes (ebF g11 rfl) (R_lk rfl rfl rfl rfl (G_yes (ebF g11 rfl) (R_len rfl (G_yes (ebF g11 rfl) (R_eql rfl rfl ?_)))))))
     refine R_pickF (ebF g11 rfl) rfl ?_
     exact ⟨t1,rfl,t5,t30,t31,t32,(borF g11),h1,rfl,trivial⟩
   intro T H ⟨t1,t4,t5,t30,t31,t32,t64,h1,h7,_⟩
   refine R_mv t64 (R_e (n7 _ _ (.done (W_t (R_addN t32 (@rfl V (iV ((1:Nat):Int))) (by omega) (R_mv rfl (R_e ?_)))))))
   refine p15 _ _ _ ?_ ⟨(k+1),(v7+1),rfl,t1,(Eq.trans t4 (by (rw [acL_take (by omega),if_pos d5,List.length_append]; rfl))),(Eq.trans (@rfl V (V.bool (((emB l.t k)||decide ((((((nth (l.t.nd) (k))).ac).length:Nat):Int)=(0:Int)))))) (by (rw [emB_yes (by omega) d5]; done))),t30,t31,(Eq.trans (@rfl V (iV ((k+1:Nat):Int))) (by rfl)),h1,(congrArg Blk.ver h7),?_,?_,?_⟩
   · omega
   · omega
   · omega
   · rw [hc,fe_skip (e:=wdE l) d2 (by omega)]
  have d5:(nth l.t.nd k).lf=false:=by simpa using c10
  refine W_skip (n7 _ _ (.done (W_t (R_addN t32 (@rfl V (iV ((1:Nat):Int))) (by omega) (R_mv rfl (R_e ?_))))))
  refine p15 _ _ _ ?_ ⟨(k+1),(v7+1),rfl,t1,(Eq.trans t4 (by (rw [acL_take (by omega),if_neg (by simp [d5]),List.append_nil]; done))),(Eq.trans t5 (by (rw [emB_no (by omega) d5]; done))),t30,t31,(Eq.trans (@rfl V (iV ((k+1:Nat):Int))) (by rfl)),h1,(congrArg Blk.ver rfl),?_,?_,?_⟩
  · omega
  · omega
  · omega
  · rw [hc,fe_skip (e:=wdE l) d2 (by omega)]
 refine W_seq_exit (p35 _ _ _ (x4 _ _ (.done (W_seq_blockg fun Q12 n12 x12 y12 z12=>(W_r (R_mv t5 (R_notb rfl ?_)))))))
 refine R_mv rfl (R_e ?_)
 refine W_ifb rfl (fun c13=>?_) (fun c13=>?_)
 ·
  have hz:fe (wdE l) 0 l.t.nd.length=0:=by rw [hc,fe_end (by omega)]
  have q8:=emB_end (t:=l.t) (k:=k) (by omega)
  have d3:[]∉acL l.t.nd:=by rw [q8] at c13; simpa using c13
  refine W_r (R_mv rfl (R_e (W_ret (y12 _ _ ?_))))
  refine Ret_1 (@rfl V (iV (1:Int))) (fz_int ?_)
  · have e:=tvE_4 (l:=l) (by omega) (by omega) (by omega) d3
    unfold tsE; rw [if_pos (by rw [e]; first|assumption|decide),e]
 have hz:fe (wdE l) 0 l.t.nd.length=0:=by rw [hc,fe_end (by omega)]
 have q8:=emB_end (t:=l.t) (k:=k) (by omega)
 have q9:l.t.nd.take k=l.t.nd:=List.take_of_length_le (by omega)
 have q10:(acL (l.t.nd.take k)).length=(acL l.t.nd).length:=by rw [q9]
 have d3: ¬([]∉acL l.t.nd):=by rw [q8] at c13; simpa using c13
 refine W_r (R_mv t4 (R_gtr rfl rfl (R_mv rfl (R_e ?_))))
 refine W_if rfl (fun c14=>?_) fun c14=>?_
 ·
  refine W_r (R_mv rfl (R_e (W_ret (y12 _ _ ?_))))
  refine Ret_1 (@rfl V (iV (11:Int))) (fz_int ?_)
  · have e:=tvE_5 (l:=l) (by omega) (by omega) (by omega) d3 (by omega)
    unfold tsE; rw [if_pos (by rw [e]; first|assumption|decide),e]
 refine W_r (R_fk t1 h1 (R_fk rfl h1 (R_lk rfl h1 rfl rfl (R_fk t1 h1 (R_fk rfl h1 (R_lk rfl h1 rfl rfl (R_neq rfl rfl ?_)))))))
 refine R_mv rfl (R_e ?_)
 refine W_if rfl (fun c15=>?_) fun c15=>?_
 ·
  refine W_r (R_mv rfl (R_e (W_ret (y12 _ _ ?_))))
  refine Ret_1 (@rfl V (iV (15:Int))) (fz_int ?_)
  · have e:=tvE_6 (l:=l) (by omega) (by omega) (by omega) d3 (by omega)
    unfold tsE; rw [if_neg (by omega),if_pos (by assumption)]
 refine W_skip (n12 _ _ (.done (W_r (R_mv rfl (R_e (W_ret ?_))))))
 refine Ret_1 (@rfl V (iV (0:Int))) (fz_int ?_)
 · have e:=tvE_6 (l:=l) (by omega) (by omega) (by omega) d3 (by omega)
   unfold tsE; rw [if_neg (by omega),if_neg (by omega)]
def r45_10:List SO:=[
 qF 35 0 1,
 qF 36 1 35,
 qL 37 1 36,
 qF 38 2 1,
 qL 39 2 38,
 qM 40 10,
 sO 41 (.call false 70 [.t 37,.t 39,.t 40]),
 qM 34 41,
 qE 42 34 0,
 qE 43 34 1,
 qE 44 34 2,
 qM 11 42,
 qM 12 43,
 qM 13 44]
def r45_17:List SO:=[
 qM 63 5,
 qM 64 10,
 qM 65 11,
 sO 66 (.build [.nilsl,.int .i64 0] [(0,1,.t 64),(1,1,.t 65)]),
 sO 67 (.bslice 93 2 false [.nilsl,.int .i64 0] 1 [(0,.t 66)]),
 sO 68 (.append 93 2 32 (.t 63) (.t 67)),
 qM 5 68]
def b45_1:SC:=.seq (.reg [qP 27 .lss 26 25]) (.seq (.cond (.t 27) (.skip) (.exit 2)) (.seq (.block 3 (.seq (.reg [qM 28 26,qM 9 28]) (.seq (.reg [qM 29 8,qM 30 9,sO 31 (.bslice 3 1 false [.int .i64 0] 1 [(0,.t 30)]),sO 32 (.bslice 54 1 false [.nilsl] 2 [(0,.t 29),(1,.t 31)]),sO 33 (.call false 69 [.t 32]),qM 10 33]) (.seq (.reg r45_10) (.seq (.seq (.reg [qM 45 13,qC 46 .neq 45 0]) (.cond (.t 46) (.seq (.reg [qM 47 13,sO 2 (.mv (.c (.nilsl))),sO 3 (.mv (.c (.nilsl))),qM 4 47]) (.ret)) (.skip))) (.seq (.seq (.reg [qL 48 4 1,qM 49 10,sO 50 (.call false 71 [.t 48,.t 49]),sO 51 (.un .not (.t 50))]) (.cond (.t 51) (.reg [qM 52 6,qM 53 10,sO 54 (.bslice 54 1 false [.nilsl] 1 [(0,.t 53)]),sO 55 (.append 54 1 24 (.t 52) (.t 54)),qM 6 55]) (.skip))) (.seq (.seq (.reg [qM 56 12,qN 57 56,qC 58 .gtr 57 0]) (.cond (.t 58) (.reg [qM 59 6,qM 60 12,sO 61 (.bslice 54 1 false [.nilsl] 1 [(0,.t 60)]),sO 62 (.append 54 1 24 (.t 59) (.t 61)),qM 6 62]) (.skip))) (.reg r45_17)))))))) (.reg [qC 69 .add 26 1,qM 26 69])))
def b45_0:SC:=.seq (.reg [qP 20 .lss 19 18]) (.seq (.cond (.t 20) (.skip) (.exit 0)) (.seq (.block 1 (.seq (.reg [qA 21 1 17 19,ql 22 21,qM 8 22]) (.seq (.reg [qF 23 0 1,qF 24 0 23,ql 25 24,qI 26 0]) (.block 2 (.loop b45_1))))) (.reg [qC 70 .add 19 1,qM 19 70])))
def s45:SF:=⟨74,[.tmp 2,.tmp 3,.tmp 4],.seq (.reg [sO 1 (.box 87 4 (.t 0)),sO 2 (.mv (.c (.nilsl))),sO 3 (.mv (.c (.nilsl))),qI 4 0]) (.seq (.reg [sO 5 (.lazy 93 2)]) (.seq (.reg [sO 6 (.lazy 54 1)]) (.seq (.seq (.reg [qF 14 0 1,qF 15 1 14,qL 16 1 15,sO 17 (.call false 47 [.t 16]),qN 18 17,qI 19 0]) (.block 0 (.loop b45_0))) (.seq (.reg [qM 71 5,qM 72 6,sO 73 (.call false 72 [.t 72]),qM 2 71,qM 3 73,qI 4 0]) (.ret)))))⟩
theorem s45_ok:slimF Tryz.prog ⟨[107,108,109,116,120,126,127,167,169,170,171,172,194,196,198,209,222,226],[5,6]⟩ Tryz.f45=some s45:=by kernel_rfl
def s47:SF:=⟨9,[.tmp 2],.seq (.reg [sO 1 (.box 24 1 (.t 0)),sO 2 (.mv (.c (.nilsl)))]) (.seq (.seq (.reg [qL 3 1 1,sO 4 (.call false 99 [.t 3]),qC 5 .neq 4 0]) (.cond (.t 5) (.seq (.reg [sO 2 (.mv (.c (.nilsl)))]) (.ret)) (.skip))) (.seq (.reg [qL 6 1 1,sO 7 (.call false 102 [.t 6]),sO 8 (.call false 101 [.t 7]),qM 2 8]) (.ret)))⟩
theorem s47_ok:slimF Tryz.prog ⟨[107,108,109,116,120,126,127,167,169,170,171,172,194,196,198,209,222,226],[]⟩ Tryz.f47=some s47:=by kernel_rfl
theorem dleaves_pure (t:Dt) (hb:Bd t):PureC Tryz.prog 47 [(V.agg [(V.sl (List.map cN (t.nd)))])] (intss ((if dvE t=0 then sdW (acL t.nd) else []))):=by
 refine pW Tryz.func47 s47_ok fun hB=>?_
 unfold s47
 dsimp only
 have hal:=acL_len t.nd
 have hbn:=hb.n
 refine W_r (R_box (i:=1) (n:=0) (m:=1) (cs:=[(V.sl (List.map cN (t.nd)))]) rfl (congrArg Blk.ver rfl) rfl rfl rfl (R_mv rfl (R_e (W_seq_seq (W_r (R_lk rfl rfl rfl rfl (R_callk (dvalid_pure t hb) rfl ?_)))))))
 refine R_neq rfl rfl (R_e ?_)
 refine W_seq_if rfl (fun c1=>?_) fun c1=>?_
 ·
  refine W_seq_seq (W_r (R_mv rfl (R_e (W_seq_ret ?_))))
  refine Ret_1 (@rfl V V.nilsl) (fz_nil ?_)
  · rw [if_neg (by omega)]
 refine W_seq_skip (W_r (R_lk rfl rfl rfl rfl (R_callk (access_pure t hb) rfl (R_callk (sorted_pure (acL t.nd) (by omega) (ac_len hb)) rfl (R_mv rfl (R_e (W_ret ?_)))))))
 refine Ret_1 (@rfl V (intss (sdW (acL t.nd)))) (fz_sl ?_ (fun _=>by simp))
 · rw [if_pos (by omega)]
def r70_8:List SO:=[
 qF 31 0 3,
 ql 32 31,
 qM 33 11,
 qA 34 5 32 33,
 qF 35 0 34,
 ql 36 35,
 sO 37 (.un .not (.t 36))]
def r70_9:List SO:=[
 qF 38 0 3,
 ql 39 38,
 qM 40 11,
 qA 41 5 39 40,
 qL 42 5 41,
 sO 12 (.alloc 99 [.bool false,.nilsl,.nilsl,.nilsl,.nilsl]),
 sN (.store 5 (.t 12) (.t 42))]
def r70_14:List SO:=[
 qL 56 2 4,
 qM 57 13,
 sO 58 (.call false 110 [.t 56,.t 57]),
 qM 55 58,
 qE 59 55 0,
 qE 60 55 1,
 qM 15 59,
 qM 16 60]
def r70_17:List SO:=[
 qL 65 5 12,
 qM 66 15,
 qM 67 2,
 qN 68 67,
 sO 69 (.slice 1 (.t 66) (some (.t 68)) none),
 sO 70 (.call false 105 [.t 65,.t 69]),
 qM 64 70,
 qE 71 64 0,
 qE 72 64 1,
 qM 17 71,
 qM 18 72]
def b70_0:SC:=.seq (.seq (.reg r70_8) (.cond (.t 37) (.skip) (.exit 0))) (.block 1 (.seq (.reg r70_9) (.seq (.reg [qM 43 2,qF 44 2 12,ql 45 44,sO 46 (.bslice 54 1 false [.nilsl] 2 [(0,.t 43),(1,.t 45)]),sO 47 (.call false 69 [.t 46]),qM 13 47]) (.seq (.seq (.reg [qM 48 13,qF 49 0 4,ql 50 49,sO 51 (.call false 100 [.t 48,.t 50]),qM 14 51]) (.seq (.reg [qM 52 14,qC 53 .neq 52 0]) (.cond (.t 53) (.seq (.reg [qM 54 14,qI 6 0,sO 7 (.mv (.c (.nilsl))),qM 8 54]) (.ret)) (.skip)))) (.seq (.reg r70_14) (.seq (.seq (.reg [qM 61 16,sO 62 (.un .not (.t 61))]) (.cond (.t 62) (.seq (.reg [qM 63 13,qI 6 0,qM 7 63,qI 8 0]) (.ret)) (.skip))) (.seq (.reg r70_17) (.seq (.seq (.reg [qM 73 18,sO 74 (.un .not (.t 73))]) (.cond (.t 74) (.exit 0) (.skip))) (.reg [qF 75 4 12,ql 76 75,qM 77 17,qA 78 1 76 77,ql 79 78,qM 11 79])))))))))
def s70:SF:=⟨81,[.tmp 6,.tmp 7,.tmp 8],.seq (.reg [sO 3 (.box 24 1 (.t 0)),sO 4 (.box 29 2 (.t 1)),qI 6 0,sO 7 (.mv (.c (.nilsl))),qI 8 0]) (.seq (.seq (.reg [qL 19 1 3,sO 20 (.call false 99 [.t 19]),qM 9 20]) (.seq (.reg [qM 21 9,qC 22 .neq 21 0]) (.cond (.t 22) (.seq (.reg [qM 23 9,qI 6 0,sO 7 (.mv (.c (.nilsl))),qM 8 23]) (.ret)) (.skip)))) (.seq (.seq (.reg [qM 24 2,qF 25 0 4,ql 26 25,sO 27 (.call false 100 [.t 24,.t 26]),qM 10 27]) (.seq (.reg [qM 28 10,qC 29 .neq 28 0]) (.cond (.t 29) (.seq (.reg [qM 30 10,qI 6 0,sO 7 (.mv (.c (.nilsl))),qM 8 30]) (.ret)) (.skip)))) (.seq (.reg [qI 11 0]) (.seq (.block 0 (.loop b70_0)) (.seq (.reg [qM 80 11,qM 6 80,sO 7 (.mv (.c (.nilsl))),qI 8 0]) (.ret))))))⟩
theorem s70_ok:slimF Tryz.prog ⟨[107,108,109,116,120,126,127,167,169,170,171,172,194,196,198,209,222,226],[]⟩ Tryz.f70=some s70:=by kernel_rfl
def r105_1:List SO:=[
 qF 6 3 2,
 ql 7 6,
 qM 8 1,
 sO 9 (.call false 157 [.t 7,.t 8,.c (.fn 123 [] [])]),
 qE 10 9 0,
 qE 11 9 1,
 qM 4 10,
 qM 5 11]
def s105:SF:=⟨12,[.tmp 4,.tmp 5],.seq (.reg [sO 2 (.box 99 5 (.t 0)),qI 4 0,sO 5 (.mv (.c (.bool false)))]) (.seq (.reg r105_1) (.ret))⟩
theorem s105_ok:slimF Tryz.prog ⟨[107,108,109,116,120,126,127,167,169,170,171,172,194,196,198,209,222,226],[]⟩ Tryz.f105=some s105:=by kernel_rfl
def r157_4:List SO:=[
 qM 18 9,
 qM 19 10,
 qP 20 .add 18 19,
 sO 21 (.conv .u64 (.t 20)),
 sO 22 (.bin .shr (.t 21) (.c (.int .u64 1))),
 sO 23 (.conv .i64 (.t 22)),
 qM 11 23]
def r157_5:List SO:=[
 qM 24 2,
 qM 25 0,
 qM 26 11,
 qA 27 1 25 26,
 ql 28 27,
 qM 29 1,
 sO 30 (.callv false (.t 24) [.t 28,.t 29]),
 qC 31 .lss 30 0]
def b157_0:SC:=.seq (.seq (.reg [qM 15 9,qM 16 10,qP 17 .lss 15 16]) (.cond (.t 17) (.skip) (.exit 0))) (.block 1 (.seq (.reg r157_4) (.seq (.reg r157_5) (.cond (.t 31) (.reg [qM 32 11,qC 33 .add 32 1,qM 9 33]) (.reg [qM 34 11,qM 10 34])))))
def r157_8:List SO:=[
 qM 35 9,
 qM 36 9,
 qM 37 8,
 qP 38 .lss 36 37,
 qM 39 38,
 ⟨some (39,true),some 40,.mv (.t 2)⟩,
 ⟨some (39,true),some 41,.mv (.t 0)⟩,
 ⟨some (39,true),some 42,.mv (.t 9)⟩,
 ⟨some (39,true),some 43,.idx 1 (.t 41) (.t 42)⟩,
 ⟨some (39,true),some 44,.load false 1 (.t 43)⟩,
 ⟨some (39,true),some 45,.mv (.t 1)⟩,
 ⟨some (39,true),some 46,.callv false (.t 40) [.t 44,.t 45]⟩,
 ⟨some (39,true),some 47,.bin .eql (.t 46) (.c (.int .i64 0))⟩,
 sO 48 (.pick (.t 39) (.t 47) (.c (.bool false))),
 qM 6 35,
 qM 7 48]
def s157:SF:=⟨49,[.tmp 6,.tmp 7],.seq (.reg [qI 6 0,sO 7 (.mv (.c (.bool false)))]) (.seq (.reg [qM 12 0,qN 13 12,qM 8 13]) (.seq (.reg [qM 14 8,qI 9 0,qM 10 14]) (.seq (.block 0 (.loop b157_0)) (.seq (.reg r157_8) (.ret)))))⟩
theorem s157_ok:slimF Tryz.prog ⟨[107,108,109,116,120,126,127,167,169,170,171,172,194,196,198,209,222,226],[]⟩ Tryz.f157=some s157:=by kernel_rfl
theorem bsw_pure (l:List (List Int)) (t:List Int) (hs:SrtL l) (hl:l.length≤1048576):PureC Tryz.prog 157 [(intss l),(ints t),(V.fn 123 [] [])] (V.tup [(iV ((lxN l t:Nat):Int)),(V.bool (decide (lxH l t)))]):=by
 refine pW Tryz.func157 s157_ok fun hB=>?_
 unfold s157
 dsimp only
 have q0:=lx_le (w:=t) l
 refine W_r (R_mv rfl (R_mv rfl (R_e (W_r (R_mv rfl (R_len rfl (R_mv rfl ?_)))))))
 refine R_e (W_r (R_mv rfl (R_mv rfl (R_mv rfl (R_e (W_seq_blockg fun Q1 n1 x1 y1 z1=>?_))))))
 refine W_loop (fun mm T H=> ∃ (i:Nat) (j:Nat),mm=j - i∧T 0=(intss l)∧T 1=(ints t)∧T 2=(V.fn 123 [] [])∧T 8=(iV ((l.length:Nat):Int))∧T 9=(iV ((i:Nat):Int))∧T 10=(iV ((j:Nat):Int))∧(i≤lxN l t)∧(lxN l t≤j)∧(j≤l.length)) ?_ ?_
 ·
  refine ⟨_,0,l.length,rfl,rfl,rfl,rfl,rfl,(Eq.trans (@rfl V (iV (0:Int))) rfl),rfl,?_,?_,?_⟩
  · omega
  · omega
  · omega
 intro mm T H ⟨i,j,hmm,t0,t1,t2,t8,t9,t10,h1,h2,h3⟩ Q2 p12 p22 p32
 unfold b157_0
 refine W_seq_seq (W_r (R_mv t9 (R_mv t10 (R_lss rfl rfl (R_e ?_)))))
 refine W_seq_if rfl (fun c3=>?_) fun c3=>?_
 ·
  refine W_seq_skip (W_block fun Q4 n4 x4 y4 z4=>(W_r (R_mv t9 (R_mv t10 (R_addN rfl rfl (by omega) (R_convU (n:=(i+j)) (@rfl V (iV ((i+j:Nat):Int))) (by omega) (R_shr1 (n:=(i+j)) rfl rfl ?_)))))))
  refine R_convI (n:=((i+j) / 2)) (@rfl V (V.int .u64 ((((i+j) / 2:Nat):Int)))) (by omega) (R_mv rfl (R_e (W_r (R_mv t2 (R_mv t0 (R_mv rfl (R_idx (i:=((i+j) / 2)) (@rfl V (intss l)) (@rfl V (iV (((i+j) / 2:Nat):Int))) (by omega) rfl ?_)))))))
  refine R_load_pp rfl rfl (R_mv t1 (R_callv (@rfl V (V.fn 123 [] [])) (evcons (@rfl V (ints ((nth (l) ((i+j) / 2))))) (evcons (@rfl V (ints t)) evnil)) (lex_pure ((nth (l) ((i+j) / 2))) t) (fzv_mapcanon _ _ (by simp [-List.map_take,-List.map_drop,-List.map_append,-List.map_reverse])) (by simp [-List.map_take,-List.map_drop,-List.map_append,-List.map_reverse]) (Or.inl (by simp [-List.map_take,-List.map_drop,-List.map_append,-List.map_reverse])) (R_lss rfl rfl (R_e ?_))))
  refine W_if rfl (fun c5=>?_) fun c5=>?_
  ·
   have d1:=(lx_iff hs (by omega)).1 c5
   refine W_t (R_mv rfl (R_addN rfl (@rfl V (iV ((1:Nat):Int))) (by omega) (R_mv rfl (R_e (n4 _ _ ?_)))))
   refine p12 _ _ _ ?_ ⟨(((i+j) / 2)+1),j,rfl,t0,t1,t2,t8,(Eq.trans (@rfl V (iV ((((i+j) / 2)+1:Nat):Int))) (by rfl)),t10,?_,?_,?_⟩
   · omega
   · omega
   · omega
   · omega
  have d1: ¬((i+j) / 2 < lxN l t):=fun e=>c5 ((lx_iff hs (by omega)).2 e)
  refine W_t (R_mv rfl (R_mv rfl (R_e (n4 _ _ ?_))))
  refine p12 _ _ _ ?_ ⟨i,((i+j) / 2),rfl,t0,t1,t2,t8,t9,(Eq.trans (@rfl V (iV (((i+j) / 2:Nat):Int))) (by rfl)),?_,?_,?_⟩
  · omega
  · omega
  · omega
  · omega
 refine W_seq_exit (p32 _ _ _ (x1 _ _ (.done (W_r (R_mv t9 (R_mv t9 (R_mv t8 ?_)))))))
 refine R_lss rfl rfl (R_mv rfl ?_)
 refine Ops_seg 9 (fun T H=>T 35=(iV ((i:Nat):Int))∧T 48=(V.bool (decide ((((i:Nat):Int) < ((l.length:Nat):Int))∧((lexI ((nth (l) (i))) t)=(0:Int)))))∧True) ?_ ?_
 ·
  by_cases g6:((i:Nat):Int) < ((l.length:Nat):Int)
  ·
   refine G_yes (edT g6 rfl) (R_mv t2 (G_yes (edT g6 rfl) (R_mv t0 (G_yes (edT g6 rfl) (R_mv t9 (G_yes (edT g6 rfl) (R_idx (i:=i) (@rfl V (intss l)) (@rfl V (iV ((i:Nat):Int))) (by omega) rfl ?_)))))))
   refine G_yes (edT g6 rfl) (R_load_pp rfl rfl (G_yes (edT g6 rfl) (R_mv t1 (G_yes (edT g6 rfl) (R_callv (@rfl V (V.fn 123 [] [])) (evcons (@rfl V (ints ((nth (l) (i))))) (evcons (@rfl V (ints t)) evnil)) (lex_pure ((nth (l) (i))) t) (fzv_mapcanon _ _ (by simp [-List.map_take,-List.map_drop,-List.map_append,-List.map_reverse])) (by simp [-List.map_take,-List.map_drop,-List.map_append,-List.map_reverse]) (Or.inl (by simp [-List.map_take,-List.map_drop,-List.map_append,-List.map_reverse])) (G_yes (edT g6 rfl) (R_eql rfl rfl ?_)))))))
   refine R_pickT (edT g6 rfl) rfl ?_
   exact ⟨rfl,(dec_andT g6),trivial⟩
  ·
   refine G_n (edF g6 rfl) (G_n (edF g6 rfl) (G_n (edF g6 rfl) (G_n (edF g6 rfl) (G_n (edF g6 rfl) (G_n (edF g6 rfl) (G_n (edF g6 rfl) (G_n (edF g6 rfl) ?_)))))))
   refine R_pickF (edF g6 rfl) rfl ?_
   exact ⟨rfl,(dec_andF g6),trivial⟩
 intro T H ⟨t35,t48,_⟩
 refine R_mv t35 (R_mv t48 (R_e (W_ret ?_)))
 refine Ret_2 (@rfl V (iV ((i:Nat):Int))) (@rfl V (V.bool (decide ((((i:Nat):Int) < ((l.length:Nat):Int))∧((lexI ((nth (l) (i))) t)=(0:Int)))))) (fz_int ?_) (fz_bool ?_)
 · have e:i=lxN l t:=by omega
   rw [e]
 · have e:i=lxN l t:=by omega
   rw [e]; exact decide_eq_decide.2 (by unfold lxH; omega)
theorem dchild_pure (x:Nd) (outs:List Int) (hs:SrtL x.ou) (hl:x.ou.length≤1048576):PureC Tryz.prog 105 [(V.agg (cN x)),(ints outs)] (V.tup [(iV ((lxN x.ou outs:Nat):Int)),(V.bool (decide (lxH x.ou outs)))]):=by
 refine pW Tryz.func105 s105_ok fun hB=>?_
 unfold s105
 dsimp only
 refine W_r (R_box (i:=2) (n:=0) (m:=5) (cs:=[(V.bool x.lf),(ints x.ac),(ints x.sf),(intss x.ou),(ints x.kd)]) rfl (congrArg Blk.ver rfl) rfl rfl rfl (R_mv rfl (R_mv rfl (R_e (W_r (R_fk rfl rfl (R_lk rfl rfl rfl rfl ?_)))))))
 refine R_mv rfl (R_callk (bsw_pure x.ou outs hs hl) rfl (R_ext rfl rfl (R_ext rfl rfl (R_mv rfl (R_mv rfl (R_e (W_ret ?_)))))))
 refine Ret_2 (@rfl V (iV ((lxN x.ou outs:Nat):Int))) (@rfl V (V.bool (decide (lxH x.ou outs)))) (fz_canon (by simp) rfl) (fz_canon (by simp) rfl)
def r110_6:List SO:=[
 qF 17 1 2,
 ql 18 17,
 qM 19 6,
 qA 20 2 18 19,
 qF 21 1 20,
 ql 22 21,
 qM 7 22]
def r110_7:List SO:=[
 qM 23 7,
 ql 24 3,
 qN 25 24,
 qM 26 7,
 qN 27 26,
 sO 28 (.mn (.t 25) (.t 27)),
 sO 29 (.slice 1 (.t 23) none (some (.t 28))),
 sO 30 (.call false 159 [.t 29]),
 qM 4 30,
 sO 5 (.mv (.c (.bool true)))]
def s110:SF:=⟨31,[.tmp 4,.tmp 5],.seq (.reg [sO 2 (.box 29 2 (.t 0)),sO 3 (.box 54 1 (.t 1)),sO 4 (.mv (.c (.nilsl))),sO 5 (.mv (.c (.bool false)))]) (.seq (.seq (.reg [ql 8 3,qN 9 8,qC 10 .eql 9 0]) (.cond (.t 10) (.seq (.reg [sO 4 (.mv (.c (.nilsl))),sO 5 (.mv (.c (.bool true)))]) (.ret)) (.skip))) (.seq (.reg [qF 11 1 2,ql 12 11,sO 13 (.mkf 165 [.t 3]),sO 14 (.call false 164 [.t 12,.t 13]),qM 6 14]) (.seq (.seq (.reg [qM 15 6,qC 16 .lss 15 0]) (.cond (.t 16) (.seq (.reg [sO 4 (.mv (.c (.nilsl))),sO 5 (.mv (.c (.bool false)))]) (.ret)) (.skip))) (.seq (.reg r110_6) (.seq (.reg r110_7) (.ret))))))⟩
theorem s110_ok:slimF Tryz.prog ⟨[107,108,109,116,120,126,127,167,169,170,171,172,194,196,198,209,222,226],[]⟩ Tryz.f110=some s110:=by kernel_rfl
def b164_0:SC:=.seq (.reg [qP 9 .lss 8 7]) (.seq (.cond (.t 9) (.skip) (.exit 0)) (.seq (.block 1 (.seq (.reg [qM 10 8,qM 5 10]) (.seq (.reg [qM 11 1,qM 12 0,qM 13 5,qA 14 2 12 13,qL 15 2 14,sO 16 (.callv false (.t 11) [.t 15])]) (.cond (.t 16) (.seq (.reg [qM 17 5,qM 4 17]) (.ret)) (.skip))))) (.reg [qC 18 .add 8 1,qM 8 18])))
def s164:SF:=⟨19,[.tmp 4],.seq (.reg [qI 4 0]) (.seq (.seq (.reg [qM 6 0,qN 7 6,qI 8 0]) (.block 0 (.loop b164_0))) (.seq (.reg [sO 4 (.mv (.c (.int .i64 (-1))))]) (.ret)))⟩
theorem s164_ok:slimF Tryz.prog ⟨[107,108,109,116,120,126,127,167,169,170,171,172,194,196,198,209,222,226],[]⟩ Tryz.f164=some s164:=by kernel_rfl
theorem idxt_pure (p:Tr→Bool) (w:List Tr) (g:Nat) (caps:List V) (hca:canonL caps=true) (hpu:pureL caps=true) (hq: ∀ k,k < w.length→PureC Tryz.prog g (tV (nth w k)::caps) (.bool (p (nth w k)))):PureC Tryz.prog 164 [(V.sl (List.map cT (w))),(V.fn g [] caps)] (iV (fi (fun jx=>p (nth w jx)) 0 w.length)):=by
 refine pure_of_Wb true 6 Tryz.func164 s164_ok (by kernel_rfl) (by simp [s164]) (by simp [hpu]) (by simp) fun hB=>?_
 simp only [bnd_map,bnd_int,bnd_bool,bnd_str,bnd_agg,bnd_pp,bnd_nil,bnd_cons,implies_true,and_true,true_and] at hB
 unfold s164
 dsimp only
 refine W_r (R_mv rfl (R_e (W_seq_seq (W_r (R_mv rfl (R_len rfl (R_mv rfl ?_)))))))
 refine R_e (W_seq_blockg fun Q1 n1 x1 y1 z1=>?_)
 refine W_loop (fun mm T H=> ∃ (k:Nat),mm=w.length - k∧T 0=(V.sl (List.map cT (w)))∧T 1=(V.fn g [] caps)∧T 7=(iV ((w.length:Nat):Int))∧T 8=(iV ((k:Nat):Int))∧(k≤w.length)∧(fi (fun j=>p (nth w j)) 0 w.length=fi (fun j=>p (nth w j)) k (w.length - k))) ?_ ?_
 ·
  refine ⟨_,0,rfl,rfl,rfl,rfl,(Eq.trans (@rfl V (iV (0:Int))) rfl),?_,?_⟩
  · omega
  · rfl
 intro mm T H ⟨k,hmm,t0,t1,t7,t8,hk,hc⟩ Q2 p12 p22 p32
 unfold b164_0
 refine W_r (R_lss t8 t7 (R_e ?_))
 refine W_seq_if rfl (fun c3=>?_) fun c3=>?_
 ·
  refine W_seq_skip (W_seq_blockg fun Q4 n4 x4 y4 z4=>(W_r (R_mv t8 (R_mv rfl (R_e (W_r (R_mv t1 ?_)))))))
  refine R_mv t0 (R_mv rfl (R_idx (i:=k) (@rfl V (V.sl (List.map cT (w)))) (@rfl V (iV ((k:Nat):Int))) (by omega) rfl (R_load_pp rfl rfl (R_callv (@rfl V (V.fn g [] caps)) (evcons (@rfl V (V.agg [(ints ((nth (w) (k)).ni)),(ints ((nth (w) (k)).no))])) evnil) (hq k (by omega)) (fzv_mapcanon _ _ (by simp [hca])) (by simp [hpu]) (Or.inl (by simp [hpu])) (R_e ?_)))))
  refine W_ifb rfl (fun c5=>?_) (fun c5=>?_)
  ·
   have d1:=c5
   refine W_r (R_mv rfl (R_mv rfl (R_e (W_ret (y4 _ _ (p22 _ _ (y1 _ _ ?_)))))))
   refine Ret_1 (@rfl V (iV ((k:Nat):Int))) (fz_int ?_)
   · rw [hc,fi_hit (by exact d1) (by omega)]
  have d1:=c5
  refine W_skip (n4 _ _ (.done (W_t (R_addN t8 (@rfl V (iV ((1:Nat):Int))) (by omega) (R_mv rfl (R_e ?_))))))
  refine p12 _ _ _ ?_ ⟨(k+1),rfl,t0,t1,t7,(Eq.trans (@rfl V (iV ((k+1:Nat):Int))) (by rfl)),?_,?_⟩
  · omega
  · omega
  · rw [hc,fi_skip (by exact d1) (by omega)]
 refine W_seq_exit (p32 _ _ _ (x1 _ _ (.done (W_r (R_mv rfl (R_e (W_ret ?_)))))))
 refine Ret_1 (@rfl V (iV (-1:Int))) (fz_int ?_)
 · rw [hc,fi_end (by omega)]
def s165:SF:=⟨8,[.tmp 3],.seq (.reg [sO 2 (.box 84 2 (.t 0)),sO 3 (.mv (.c (.bool false)))]) (.seq (.reg [qF 4 0 2,ql 5 4,ql 6 1,sO 7 (.call false 124 [.t 5,.t 6]),qM 3 7]) (.ret))⟩
theorem s165_ok:slimF Tryz.prog ⟨[107,108,109,116,120,126,127,167,169,170,171,172,194,196,198,209,222,226],[]⟩ Tryz.f165=some s165:=by kernel_rfl
def r124_1:List SO:=[
 qM 5 0,
 qM 6 1,
 sO 7 (.call false 175 [.t 5,.t 6]),
 qM 8 1,
 qN 9 8,
 qP 10 .eql 7 9,
 qM 4 10]
def s124:SF:=⟨11,[.tmp 4],.seq (.reg [sO 4 (.mv (.c (.bool false)))]) (.seq (.reg r124_1) (.ret))⟩
theorem s124_ok:slimF Tryz.prog ⟨[107,108,109,116,120,126,127,167,169,170,171,172,194,196,198,209,222,226],[]⟩ Tryz.f124=some s124:=by kernel_rfl
def r175_4:List SO:=[
 qM 14 0,
 qM 15 5,
 qA 16 1 14 15,
 ql 17 16,
 qM 18 1,
 qM 19 5,
 qA 20 1 18 19,
 ql 21 20,
 qP 22 .neq 17 21]
def b175_0:SC:=.seq (.reg [qP 12 .lss 11 10]) (.seq (.cond (.t 12) (.skip) (.exit 0)) (.seq (.block 1 (.seq (.reg [qM 13 11,qM 5 13]) (.seq (.reg r175_4) (.cond (.t 22) (.seq (.reg [qM 23 5,qM 4 23]) (.ret)) (.skip))))) (.reg [qC 24 .add 11 1,qM 11 24])))
def s175:SF:=⟨30,[.tmp 4],.seq (.reg [qI 4 0]) (.seq (.seq (.reg [qM 6 0,qN 7 6,qM 8 1,qN 9 8,sO 10 (.mn (.t 7) (.t 9)),qI 11 0]) (.block 0 (.loop b175_0))) (.seq (.reg [qM 25 0,qN 26 25,qM 27 1,qN 28 27,sO 29 (.mn (.t 26) (.t 28)),qM 4 29]) (.ret)))⟩
theorem s175_ok:slimF Tryz.prog ⟨[107,108,109,116,120,126,127,167,169,170,171,172,194,196,198,209,222,226],[]⟩ Tryz.f175=some s175:=by kernel_rfl
theorem common_pure (a b:List Int):PureC Tryz.prog 175 [(ints a),(ints b)] (iV ((cmn a b:Nat):Int)):=by
 refine pW Tryz.func175 s175_ok fun hB=>?_
 unfold s175
 dsimp only
 refine W_r (R_mv rfl (R_e (W_seq_seq (W_r (R_mv rfl (R_len rfl (R_mv rfl ?_)))))))
 refine R_len rfl (R_mnN (m:=a.length) (n:=b.length) rfl rfl (R_mv rfl (R_e (W_seq_blockg fun Q1 n1 x1 y1 z1=>?_))))
 refine W_loop (fun mm T H=> ∃ (k:Nat),mm=(min a.length b.length) - k∧T 0=(ints a)∧T 1=(ints b)∧T 10=(iV ((min a.length b.length:Nat):Int))∧T 11=(iV ((k:Nat):Int))∧(k≤min a.length b.length)∧(k≤cmn a b)) ?_ ?_
 ·
  refine ⟨_,0,rfl,rfl,rfl,rfl,(Eq.trans (@rfl V (iV (0:Int))) rfl),?_,?_⟩
  · omega
  · exact Nat.zero_le _
 intro mm T H ⟨k,hmm,t0,t1,t10,t11,hk,hc⟩ Q2 p12 p22 p32
 unfold b175_0
 refine W_r (R_lss t11 t10 (R_e ?_))
 refine W_seq_if rfl (fun c3=>?_) fun c3=>?_
 ·
  refine W_seq_skip (W_seq_blockg fun Q4 n4 x4 y4 z4=>(W_r (R_mv t11 (R_mv rfl (R_e (W_r (R_mv t0 ?_)))))))
  refine R_mv rfl (R_idx (i:=k) (@rfl V (ints a)) (@rfl V (iV ((k:Nat):Int))) (by omega) rfl (R_load_pp rfl rfl (R_mv t1 (R_mv rfl (R_idx (i:=k) (@rfl V (ints b)) (@rfl V (iV ((k:Nat):Int))) (by omega) rfl (R_load_pp rfl rfl (R_neq rfl rfl ?_)))))))
  refine R_e ?_
  refine W_if rfl (fun c5=>?_) fun c5=>?_
  ·
   refine W_r (R_mv rfl (R_mv rfl (R_e (W_ret (y4 _ _ (p22 _ _ (y1 _ _ ?_)))))))
   refine Ret_1 (@rfl V (iV ((k:Nat):Int))) (fz_int ?_)
   · rw [cmn_at hc (by omega)]
  refine W_skip (n4 _ _ (.done (W_t (R_addN t11 (@rfl V (iV ((1:Nat):Int))) (by omega) (R_mv rfl (R_e ?_))))))
  refine p12 _ _ _ ?_ ⟨(k+1),rfl,t0,t1,t10,(Eq.trans (@rfl V (iV ((k+1:Nat):Int))) (by rfl)),?_,?_⟩
  · omega
  · omega
  · exact cmn_next hc (by omega) (by omega) (by omega)
 refine W_seq_exit (p32 _ _ _ (x1 _ _ (.done (W_r (R_mv t0 (R_len rfl (R_mv t1 ?_)))))))
 refine R_len rfl (R_mnN (m:=a.length) (n:=b.length) rfl rfl (R_mv rfl (R_e (W_ret ?_))))
 refine Ret_1 (@rfl V (iV ((min a.length b.length:Nat):Int))) (fz_int ?_)
 · rw [cmn_at hc (by omega)]; omega
theorem hp_pure (w p:List Int):PureC Tryz.prog 124 [(ints w),(ints p)] (V.bool (hp w p)):=by
 refine pW Tryz.func124 s124_ok fun hB=>?_
 unfold s124
 dsimp only
 refine W_r (R_mv rfl (R_e (W_r (R_mv rfl (R_mv rfl ?_)))))
 have q1:=cmn_l w p
 have q2:=cmn_r w p
 refine R_callk (common_pure w p) rfl (R_mv rfl (R_len rfl (R_eql rfl rfl (R_mv rfl (R_e ?_)))))
 have q3:=cmn_l w p
 have q4:=cmn_r w p
 refine W_ret ?_
 refine Ret_1 (@rfl V (V.bool (decide (((cmn w p:Nat):Int)=((p.length:Nat):Int))))) (fz_bool ?_)
 · unfold hp; exact decide_eq_decide.2 (by omega)
theorem answer1_pure (t:Tr) (w:List Int):PureC Tryz.prog 165 [(V.agg [(ints t.ni),(ints t.no)]),(V.pp [(ints w)])] (V.bool (hp t.ni w)):=by
 refine pW Tryz.func165 s165_ok fun hB=>?_
 unfold s165
 dsimp only
 refine W_r (R_box (i:=2) (n:=0) (m:=2) (cs:=[(ints t.ni),(ints t.no)]) rfl (congrArg Blk.ver rfl) rfl rfl rfl (R_mv rfl (R_e (W_r (R_fk rfl rfl (R_lk rfl rfl rfl rfl (R_load_pp rfl rfl ?_)))))))
 refine R_callk (hp_pure t.ni w) rfl (R_mv rfl (R_e (W_ret ?_)))
 refine Ret_1 (@rfl V (V.bool (hp t.ni w))) (fz_canon (by simp) rfl)
theorem answer_pure (o:Ob) (w:List Int) (ho:oval o=0):PureC Tryz.prog 110 [(V.agg [(iV (o.i)),(V.sl (List.map cT (o.tr)))]),(ints w)] (V.tup [(ints ((ans o w).getD [])),(V.bool ((ans o w).isSome))]):=by
 refine pW Tryz.func110 s110_ok fun hB=>?_
 unfold s110
 dsimp only
 have u2:=oval_ok ho
 refine W_r (R_box (i:=2) (n:=0) (m:=2) (cs:=[(iV (o.i)),(V.sl (List.map cT (o.tr)))]) rfl (congrArg Blk.ver rfl) rfl rfl rfl (R_box (i:=3) (n:=0) (m:=1) (cs:=[(ints w)]) rfl (congrArg Blk.ver rfl) rfl rfl rfl (R_mv rfl (R_mv rfl (R_e (W_seq_seq (W_r ?_)))))))
 refine R_lk rfl rfl rfl rfl (R_len rfl (R_eql rfl rfl (R_e ?_)))
 refine W_seq_if rfl (fun c1=>?_) fun c1=>?_
 ·
  refine W_seq_seq (W_r (R_mv rfl (R_mv rfl (R_e (W_seq_ret ?_)))))
  refine Ret_2 (@rfl V V.nilsl) (@rfl V (V.bool true)) (fz_nil ?_) (fz_bool ?_)
  · rw [List.length_eq_zero_iff.1 (show w.length=0 by omega)]; rfl
  · rw [List.length_eq_zero_iff.1 (show w.length=0 by omega)]; rfl
 have hw:w≠[]:=by intro e; subst e; simp at*
 refine W_seq_skip (W_r (R_fk rfl rfl (R_lk rfl rfl rfl rfl (R_mkf (evcons rfl evnil) (R_call (evcons (@rfl V (V.sl (List.map cT (o.tr)))) (evcons (@rfl V (V.fn 165 [] [(V.mp 3 1 0 0)])) evnil)) (idxt_pure (fun t:Tr=>hp t.ni w) o.tr 165 ([(V.pp [(ints w)])]) (by simp) (by simp) (fun j _=>answer1_pure (nth o.tr j) w)) (mcons (fzv_canon 6 _ (by simp [-List.map_take,-List.map_drop,-List.map_append,-List.map_reverse])) (mcons (by simp [fzv,Blk.own]) rfl)) (by simp [-List.map_take,-List.map_drop,-List.map_append,-List.map_reverse]) (Or.inr rfl) (R_mv rfl (R_e ?_)))))))
 refine W_seq_seq (W_r (R_mv rfl (R_lss rfl rfl (R_e ?_))))
 refine W_seq_if (p:=(fi (fun jx=>(fun t:Tr=>hp t.ni w) (nth o.tr jx)) 0 o.tr.length) < (0:Int)) rfl (fun c2=>?_) (fun c2=>?_)
 ·
  have d1:ansL o.tr w=none:=ansL_miss (l:=o.tr) (w:=w) c2
  refine W_seq_seq (W_r (R_mv rfl (R_mv rfl (R_e (W_seq_ret ?_)))))
  refine Ret_2 (@rfl V V.nilsl) (@rfl V (V.bool false)) (fz_nil ?_) (fz_bool ?_)
  · rw [ans,if_neg hw,d1]; rfl
  · rw [ans,if_neg hw,d1]; rfl
 have d1:=ansL_hit (l:=o.tr) (w:=w) (by omega)
 have d2:=(u2.pr _ d1.1).1.len
 have d3:=(u2.pr _ d1.1).1.lel
 have d4:=hp_len d1.2.1
 refine W_seq_skip (W_r (R_fk rfl rfl (R_lk rfl rfl rfl rfl (R_mv rfl (R_idxI (i:=(fi (fun jx=>(fun t:Tr=>hp t.ni w) (nth o.tr jx)) 0 o.tr.length)) (@rfl V (V.sl (List.map cT (o.tr)))) (@rfl V (iV (fi (fun jx=>(fun t:Tr=>hp t.ni w) (nth o.tr jx)) 0 o.tr.length))) (by omega) (by omega) rfl (R_fld_pp (cs':=[(ints ((nth (o.tr) (fi (fun jx=>(fun t:Tr=>hp t.ni w) (nth o.tr jx)) 0 o.tr.length).toNat).no))]) rfl rfl (R_load_pp rfl rfl ?_)))))))
 refine R_mv rfl (R_e (W_r (R_mv rfl (R_lk rfl rfl rfl rfl (R_len rfl (R_mv rfl (R_len rfl ?_)))))))
 refine R_mnN (m:=w.length) (n:=(((nth (o.tr) (fi (fun jx=>(fun t:Tr=>hp t.ni w) (nth o.tr jx)) 0 o.tr.length).toNat).no).length)) rfl rfl (R_slice_hi (n:=(min w.length (((nth (o.tr) (fi (fun jx=>(fun t:Tr=>hp t.ni w) (nth o.tr jx)) 0 o.tr.length).toNat).no).length))) (@rfl V (ints ((nth (o.tr) (fi (fun jx=>(fun t:Tr=>hp t.ni w) (nth o.tr jx)) 0 o.tr.length).toNat).no))) (@rfl V (iV ((min w.length (((nth (o.tr) (fi (fun jx=>(fun t:Tr=>hp t.ni w) (nth o.tr jx)) 0 o.tr.length).toNat).no).length):Nat):Int))) (by omega) (fun _=>rfl) (R_callk (clone_pure (List.take (min w.length (((nth (o.tr) (fi (fun jx=>(fun t:Tr=>hp t.ni w) (nth o.tr jx)) 0 o.tr.length).toNat).no).length)) ((nth (o.tr) (fi (fun jx=>(fun t:Tr=>hp t.ni w) (nth o.tr jx)) 0 o.tr.length).toNat).no)) (by simp; omega)) rfl (R_mv rfl (R_mv rfl (R_e (W_ret ?_))))))
 refine Ret_2 (@rfl V (ints ((List.take (min w.length (((nth (o.tr) (fi (fun jx=>(fun t:Tr=>hp t.ni w) (nth o.tr jx)) 0 o.tr.length).toNat).no).length)) ((nth (o.tr) (fi (fun jx=>(fun t:Tr=>hp t.ni w) (nth o.tr jx)) 0 o.tr.length).toNat).no))))) (@rfl V (V.bool true)) (fz_sl ?_ (fun _=>by simp)) (fz_bool ?_)
 · rw [ans,if_neg hw,d1.2.2,Nat.min_eq_left (by omega)]; rfl
 · rw [ans,if_neg hw,d1.2.2]; rfl
theorem sift_pure (t:Dt) (o:Ob) (w:List Int) (hb:Bd t) (ho:oval o=0) (hw:w.length≤1048576):PureC Tryz.prog 70 [(V.agg [(V.sl (List.map cN (t.nd)))]),(V.agg [(iV (o.i)),(V.sl (List.map cT (o.tr)))]),(ints w)] (V.tup [(iV ((sftR t o w).1)),(ints ((sftR t o w).2.1)),(iV ((sftR t o w).2.2))]):=by
 refine pW Tryz.func70 s70_ok fun hB=>?_
 unfold s70
 dsimp only
 refine W_r (R_box (i:=3) (n:=0) (m:=1) (cs:=[(V.sl (List.map cN (t.nd)))]) rfl (congrArg Blk.ver rfl) rfl rfl rfl (R_box (i:=4) (n:=0) (m:=2) (cs:=[(iV (o.i)),(V.sl (List.map cT (o.tr)))]) rfl (congrArg Blk.ver rfl) rfl rfl rfl (R_mv rfl (R_mv rfl (R_mv rfl (R_e (W_seq_seq ?_)))))))
 refine W_r (R_lk rfl rfl rfl rfl (R_callk (dvalid_pure t hb) rfl (R_mv rfl (R_e (W_seq_seq (W_r (R_mv rfl ?_)))))))
 refine R_neq rfl rfl (R_e ?_)
 refine W_seq_if rfl (fun c1=>?_) fun c1=>?_
 ·
  refine W_seq_seq (W_r (R_mv rfl (R_mv rfl (R_mv rfl (R_mv rfl (R_e (W_seq_ret ?_)))))))
  refine Ret_3 (@rfl V (iV (0:Int))) (@rfl V V.nilsl) (@rfl V (iV (dvE t))) (fz_int ?_) (fz_nil ?_) (fz_int ?_)
  · unfold sftR; rw [if_pos (by omega)]
  · unfold sftR; rw [if_pos (by omega)]
  · unfold sftR; rw [if_pos (by omega)]
 have hv:dvE t=0:=by omega
 refine W_seq_skip (W_seq_seq (W_r (R_mv rfl (R_fk rfl rfl (R_lk rfl rfl rfl rfl (R_callk (check_pure w ((o.i))) rfl (R_mv rfl ?_)))))))
 refine R_e (W_seq_seq (W_r (R_mv rfl (R_neq rfl rfl (R_e ?_)))))
 refine W_seq_if rfl (fun c2=>?_) fun c2=>?_
 ·
  refine W_seq_seq (W_r (R_mv rfl (R_mv rfl (R_mv rfl (R_mv rfl (R_e (W_seq_ret ?_)))))))
  refine Ret_3 (@rfl V (iV (0:Int))) (@rfl V V.nilsl) (@rfl V (iV (wchk w ((o.i))))) (fz_int ?_) (fz_nil ?_) (fz_int ?_)
  · unfold sftR; rw [if_neg (by omega),if_pos (by omega)]
  · unfold sftR; rw [if_neg (by omega),if_pos (by omega)]
  · unfold sftR; rw [if_neg (by omega),if_pos (by omega)]
 refine W_seq_skip (W_r (R_mv rfl (R_e (W_seq_blockg fun Q3 n3 x3 y3 z3=>?_))))
 refine W_loop (fun mm T H=> ∃ (a:Int) (f:Nat) (v12:Nat),mm=f∧T 2=(ints w)∧T 3=(V.mp 3 1 0 0)∧T 4=(V.mp 4 1 0 0)∧T 11=(iV (a))∧H 3=(bk 1 24 1 [[(V.sl (List.map cN (t.nd)))]])∧H 4=(bk 1 29 2 [[(iV (o.i)),(V.sl (List.map cT (o.tr)))]])∧(H 12).ver=v12∧(0≤a)∧(Rk t f a.toNat)∧(sftN t o w t.nd.length 0=sftN t o w f a.toNat)) ?_ ?_
 ·
  refine ⟨_,0,t.nd.length,0,rfl,rfl,rfl,rfl,rfl,rfl,rfl,(congrArg Blk.ver rfl),?_,?_,?_⟩
  · omega
  · exact rk0 hv
  · rfl
 intro mm T H ⟨a,f,v12,hmm,t2,t3,t4,t11,h3,h4,h12,ha,hr,hc⟩ Q4 p14 p24 p34
 unfold b70_0
 have hlt:=hr.lt hv
 have hsf:=hb.sf _ hlt
 have hbn:=hb.n
 refine W_seq_seq (W_r (R_fk t3 h3 (R_lk rfl h3 rfl rfl (R_mv t11 (R_idxI (i:=(a)) (@rfl V (V.sl (List.map cN (t.nd)))) (@rfl V (iV (a))) (by omega) (by omega) rfl (R_fld_pp (cs':=(cN (((nth (t.nd) (a).toNat))))) rfl rfl (R_load_pp rfl rfl ?_)))))))
 refine R_notb rfl (R_e ?_)
 refine W_seq_ifb rfl (fun c5=>?_) (fun c5=>?_)
 ·
  have d1:(nth t.nd a.toNat).lf=false:=by simpa using c5
  have hin:=nd_in hv hlt d1
  have hou:=hb.ou _ hlt
  refine W_seq_skip (W_block fun Q6 n6 x6 y6 z6=>(W_r (R_fk t3 h3 (R_lk rfl h3 rfl rfl (R_mv t11 (R_idxI (i:=(a)) (@rfl V (V.sl (List.map cN (t.nd)))) (@rfl V (iV (a))) (by omega) (by omega) rfl (R_load_pp rfl rfl ?_)))))))
  refine R_alloc (i:=12) (n:=v12) (m:=5) rfl h12 rfl (R_sk rfl rfl rfl rfl rfl rfl rfl rfl rfl (R_e (W_r (R_mv t2 (R_fk rfl rfl (R_lk rfl rfl rfl rfl (R_bslice rfl rfl ?_)))))))
  refine R_callk (pjoin_pure ([w,((nth (t.nd) (a).toNat)).sf]) (by simp only [cat,List.append_nil,List.length_append]; omega)) rfl (R_mv rfl (R_e (W_seq_seq (W_r (R_mv rfl (R_fk t4 h4 (R_lk rfl h4 rfl rfl ?_)))))))
  refine R_callk (check_pure (cat ([w,((nth (t.nd) (a).toNat)).sf])) ((o.i))) rfl (R_mv rfl (R_e (W_seq_seq (W_r (R_mv rfl (R_neq rfl rfl (R_e ?_)))))))
  refine W_seq_if rfl (fun c7=>?_) fun c7=>?_
  ·
   have d2:wchk (cat [w,(nth t.nd a.toNat).sf]) o.i≠0:=c7
   refine W_seq_seq (W_r (R_mv rfl (R_mv rfl (R_mv rfl (R_mv rfl (R_e (W_seq_ret ?_)))))))
   refine y6 _ _ (p24 _ _ (y3 _ _ ?_))
   refine Ret_3 (@rfl V (iV (0:Int))) (@rfl V V.nilsl) (@rfl V (iV (wchk (cat ([w,((nth (t.nd) (a).toNat)).sf])) ((o.i))))) (fz_int ?_) (fz_nil ?_) (fz_int ?_)
   · have e0:sftR t o w=sftN t o w f a.toNat:=by unfold sftR; rw [if_neg (by omega),if_neg (by omega),hc]
     rw [e0,sft_err hr.pos d1 d2]
   · have e0:sftR t o w=sftN t o w f a.toNat:=by unfold sftR; rw [if_neg (by omega),if_neg (by omega),hc]
     rw [e0,sft_err hr.pos d1 d2]
   · have e0:sftR t o w=sftN t o w f a.toNat:=by unfold sftR; rw [if_neg (by omega),if_neg (by omega),hc]
     rw [e0,sft_err hr.pos d1 d2]
  have d2: ¬wchk (cat [w,(nth t.nd a.toNat).sf]) o.i≠0:=c7
  refine W_seq_skip (W_r (R_lk t4 h4 rfl rfl (R_mv rfl (R_callk (answer_pure o (cat ([w,((nth (t.nd) (a).toNat)).sf])) ho) rfl (R_mv rfl (R_ext rfl rfl (R_ext rfl rfl ?_)))))))
  refine R_mv rfl (R_mv rfl (R_e (W_seq_seq (W_r (R_mv rfl (R_notb rfl (R_e ?_)))))))
  refine W_seq_ifb rfl (fun c8=>?_) (fun c8=>?_)
  ·
   have d3:(ans o (cat [w,(nth t.nd a.toNat).sf])).isSome=false:=by simpa using c8
   refine W_seq_seq ?_
   refine W_seq_regc (fun T H=>T 6=(iV (0:Int))∧T 7=(ints (cat ([w,((nth (t.nd) (a).toNat)).sf])))∧T 8=(iV (0:Int))∧H 3=(bk 1 24 1 [[(V.sl (List.map cN (t.nd)))]])∧H 4=(bk 1 29 2 [[(iV (o.i)),(V.sl (List.map cT (o.tr)))]])∧H 12=(bk (v12+1) 99 5 [(cN (((nth (t.nd) (a).toNat))))])∧True) ?_ ?_
   ·
    refine R_mv rfl (R_mv rfl (R_mv rfl (R_mv rfl ?_)))
    exact R_nil ⟨rfl,rfl,rfl,h3,h4,rfl,trivial⟩
   intro T H ⟨t6,t7,t8,h3,h4,h12,_⟩
   refine W_seq_ret (y6 _ _ (p24 _ _ (y3 _ _ ?_)))
   refine Ret_3 t6 t7 t8 (fz_int ?_) (fz_sl ?_ (fun _=>by simp)) (fz_int ?_)
   · have e0:sftR t o w=sftN t o w f a.toNat:=by unfold sftR; rw [if_neg (by omega),if_neg (by omega),hc]
     rw [e0,sft_ask hr.pos d1 d2 d3]
   · have e0:sftR t o w=sftN t o w f a.toNat:=by unfold sftR; rw [if_neg (by omega),if_neg (by omega),hc]
     rw [e0,sft_ask hr.pos d1 d2 d3]
   · have e0:sftR t o w=sftN t o w f a.toNat:=by unfold sftR; rw [if_neg (by omega),if_neg (by omega),hc]
     rw [e0,sft_ask hr.pos d1 d2 d3]
  have d3:(ans o (cat [w,(nth t.nd a.toNat).sf])).isSome=true:=by simpa using c8
  have d4:=ans_len (oval_ok ho) d3
  have d5:(cat [w,(nth t.nd a.toNat).sf]).length=w.length+(nth t.nd a.toNat).sf.length:=by simp [cat]
  refine W_seq_skip ?_
  refine W_seq_regc (fun T H=>T 2=(ints w)∧T 3=(V.mp 3 1 0 0)∧T 4=(V.mp 4 1 0 0)∧T 11=(iV (a))∧T 12=(V.mp 12 (v12+1) 0 0)∧T 17=(iV ((lxN (((nth (t.nd) (a).toNat))).ou (List.drop (w.length) ((ans o (cat ([w,((nth (t.nd) (a).toNat)).sf]))).getD [])):Nat):Int))∧T 18=(V.bool (decide (lxH (((nth (t.nd) (a).toNat))).ou (List.drop (w.length) ((ans o (cat ([w,((nth (t.nd) (a).toNat)).sf]))).getD [])))))∧H 3=(bk 1 24 1 [[(V.sl (List.map cN (t.nd)))]])∧H 4=(bk 1 29 2 [[(iV (o.i)),(V.sl (List.map cT (o.tr)))]])∧H 12=(bk (v12+1) 99 5 [(cN (((nth (t.nd) (a).toNat))))])∧True) ?_ ?_
  ·
   refine R_lk rfl rfl rfl rfl (R_mv rfl (R_mv t2 (R_len rfl (R_slice_lo (n:=w.length) (@rfl V (ints ((ans o (cat ([w,((nth (t.nd) (a).toNat)).sf]))).getD []))) (@rfl V (iV ((w.length:Nat):Int))) (by omega) (fun _=>rfl) (R_callk (dchild_pure (((nth (t.nd) (a).toNat))) (List.drop (w.length) ((ans o (cat ([w,((nth (t.nd) (a).toNat)).sf]))).getD [])) hin.srt hou) rfl (R_mv rfl (R_ext rfl rfl ?_)))))))
   refine R_ext rfl rfl (R_mv rfl (R_mv rfl ?_))
   exact R_nil ⟨t2,t3,t4,t11,rfl,rfl,rfl,h3,h4,rfl,trivial⟩
  intro T H ⟨t2,t3,t4,t11,t12,t17,t18,h3,h4,h12,_⟩
  refine W_seq_seq (W_r (R_mv t18 (R_not rfl (R_e ?_))))
  refine W_seq_if rfl (fun c9=>?_) fun c9=>?_
  ·
   have d6: ¬lxH (nth t.nd a.toNat).ou (((ans o (cat [w,(nth t.nd a.toNat).sf])).getD []).drop w.length):=c9
   refine W_seq_exit (z6 _ _ _ (by decide) (p34 _ _ _ (x3 _ _ (.done (W_r (R_mv t11 (R_mv rfl ?_)))))))
   refine R_mv rfl (R_mv rfl (R_e (W_ret ?_)))
   refine Ret_3 (@rfl V (iV (a))) (@rfl V V.nilsl) (@rfl V (iV (0:Int))) (fz_int ?_) (fz_nil ?_) (fz_int ?_)
   · have e0:sftR t o w=sftN t o w f a.toNat:=by unfold sftR; rw [if_neg (by omega),if_neg (by omega),hc]
     rw [e0,sft_no hr.pos d1 d2 d3 d6]; exact (Int.toNat_of_nonneg ha).symm
   · have e0:sftR t o w=sftN t o w f a.toNat:=by unfold sftR; rw [if_neg (by omega),if_neg (by omega),hc]
     rw [e0,sft_no hr.pos d1 d2 d3 d6]
   · have e0:sftR t o w=sftN t o w f a.toNat:=by unfold sftR; rw [if_neg (by omega),if_neg (by omega),hc]
     rw [e0,sft_no hr.pos d1 d2 d3 d6]
  have d6:lxH (nth t.nd a.toNat).ou (((ans o (cat [w,(nth t.nd a.toNat).sf])).getD []).drop w.length):=Decidable.not_not.1 c9
  have d7:(nth (nth t.nd a.toNat).kd (lxN (nth t.nd a.toNat).ou (((ans o (cat [w,(nth t.nd a.toNat).sf])).getD []).drop w.length)))∈(nth t.nd a.toNat).kd:=nth_mem (by have:=d6.1; have:=hin.len; omega)
  have d8:=hin.kr _ d7
  have d9:lxN (nth t.nd a.toNat).ou (((ans o (cat [w,(nth t.nd a.toNat).sf])).getD []).drop w.length) < (nth t.nd a.toNat).kd.length:=by have:=d6.1; have:=hin.len; omega
  refine W_seq_skip (W_t (R_fk t12 h12 (R_lk rfl h12 rfl rfl (R_mv t17 (R_idx (i:=(lxN (((nth (t.nd) (a).toNat))).ou (List.drop (w.length) ((ans o (cat ([w,((nth (t.nd) (a).toNat)).sf]))).getD [])))) (@rfl V (ints (((nth (t.nd) (a).toNat)).kd))) (@rfl V (iV ((lxN (((nth (t.nd) (a).toNat))).ou (List.drop (w.length) ((ans o (cat ([w,((nth (t.nd) (a).toNat)).sf]))).getD [])):Nat):Int))) (by omega) rfl (R_load_pp rfl rfl (R_mv rfl ?_)))))))
  refine R_e (n6 _ _ ?_)
  refine p14 _ _ _ ?_ ⟨(nth (nth t.nd a.toNat).kd (lxN (nth t.nd a.toNat).ou (((ans o (cat [w,(nth t.nd a.toNat).sf])).getD []).drop w.length))),(f - 1),(v12+1),rfl,t2,t3,t4,(Eq.trans (@rfl V (iV ((nth (((nth (t.nd) (a).toNat)).kd) (lxN (((nth (t.nd) (a).toNat))).ou (List.drop (w.length) ((ans o (cat ([w,((nth (t.nd) (a).toNat)).sf]))).getD []))))))) (by rfl)),h3,h4,(congrArg Blk.ver h12),?_,?_,?_⟩
  · have:=hr.pos; omega
  · exact d8.1
  · exact hr.step d7 d8.1
  · rw [hc,sft_go hr.pos d1 d2 d3 d6]
 have d1:(nth t.nd a.toNat).lf=true:=by simpa using c5
 refine W_seq_exit (p34 _ _ _ (x3 _ _ (.done (W_r (R_mv t11 (R_mv rfl (R_mv rfl ?_)))))))
 refine R_mv rfl (R_e (W_ret ?_))
 refine Ret_3 (@rfl V (iV (a))) (@rfl V V.nilsl) (@rfl V (iV (0:Int))) (fz_int ?_) (fz_nil ?_) (fz_int ?_)
 · have e0:sftR t o w=sftN t o w f a.toNat:=by unfold sftR; rw [if_neg (by omega),if_neg (by omega),hc]
   rw [e0,sft_leaf hr.pos d1]; exact (Int.toNat_of_nonneg ha).symm
 · have e0:sftR t o w=sftN t o w f a.toNat:=by unfold sftR; rw [if_neg (by omega),if_neg (by omega),hc]
   rw [e0,sft_leaf hr.pos d1]
 · have e0:sftR t o w=sftN t o w f a.toNat:=by unfold sftR; rw [if_neg (by omega),if_neg (by omega),hc]
   rw [e0,sft_leaf hr.pos d1]
def r71_1:List SO:=[
 qF 8 2 2,
 qL 9 2 8,
 qM 10 1,
 sO 11 (.call false 110 [.t 9,.t 10]),
 qM 7 11,
 qE 12 7 0,
 qE 13 7 1,
 qM 5 12,
 qM 6 13]
def s71:SF:=⟨15,[.tmp 4],.seq (.reg [sO 2 (.box 87 4 (.t 0)),sO 4 (.mv (.c (.bool false)))]) (.seq (.reg r71_1) (.seq (.reg [qM 14 6,qM 4 14]) (.ret)))⟩
theorem s71_ok:slimF Tryz.prog ⟨[107,108,109,116,120,126,127,167,169,170,171,172,194,196,198,209,222,226],[]⟩ Tryz.f71=some s71:=by kernel_rfl
theorem tknown_pure (l:Ts) (o:Ob) (w:List Int) (ho:oval o=0):PureC Tryz.prog 71 [(V.agg [(iV (l.i)),(V.sl (List.map cN (l.t.nd))),(iV (o.i)),(V.sl (List.map cT (o.tr)))]),(ints w)] (V.bool ((ans o w).isSome)):=by
 refine pW Tryz.func71 s71_ok fun hB=>?_
 unfold s71
 dsimp only
 refine W_r (R_box (i:=2) (n:=0) (m:=4) (cs:=[(iV (l.i)),(V.sl (List.map cN (l.t.nd))),(iV (o.i)),(V.sl (List.map cT (o.tr)))]) rfl (congrArg Blk.ver rfl) rfl rfl rfl (R_mv rfl (R_e (W_r (R_fk rfl rfl (R_lk rfl rfl rfl rfl (R_mv rfl ?_)))))))
 refine R_callk (answer_pure o w ho) rfl (R_mv rfl (R_ext rfl rfl (R_ext rfl rfl (R_mv rfl (R_mv rfl (R_e (W_r ?_)))))))
 refine R_mv rfl (R_mv rfl (R_e (W_ret ?_)))
 refine Ret_1 (@rfl V (V.bool ((ans o w).isSome))) (fz_canon (by simp) rfl)
def r72_6:List SO:=[
 qM 16 5,
 qC 17 .add 16 1,
 qM 18 3,
 qN 19 18,
 qP 20 .eql 17 19,
 qM 21 20,
 ⟨some (21,false),some 22,.mv (.t 3)⟩,
 ⟨some (21,false),some 23,.mv (.t 5)⟩,
 ⟨some (21,false),some 24,.bin .add (.t 23) (.c (.int .i64 1))⟩,
 ⟨some (21,false),some 25,.idx 1 (.t 22) (.t 24)⟩,
 ⟨some (21,false),some 26,.load false 1 (.t 25)⟩,
 ⟨some (21,false),some 27,.mv (.t 6)⟩,
 ⟨some (21,false),some 28,.call false 124 [.t 26,.t 27]⟩,
 ⟨some (21,false),some 29,.un .not (.t 28)⟩,
 sO 30 (.pick (.t 21) (.c (.bool true)) (.t 29))]
def b72_0:SC:=.seq (.reg [qP 12 .lss 11 10]) (.seq (.cond (.t 12) (.skip) (.exit 0)) (.seq (.block 1 (.seq (.reg [qM 13 11,qA 14 1 9 11,ql 15 14,qM 5 13,qM 6 15]) (.seq (.reg r72_6) (.cond (.t 30) (.reg [qM 31 4,qM 32 6,sO 33 (.bslice 54 1 false [.nilsl] 1 [(0,.t 32)]),sO 34 (.append 54 1 24 (.t 31) (.t 33)),qM 4 34]) (.skip))))) (.reg [qC 35 .add 11 1,qM 11 35])))
def s72:SF:=⟨38,[.tmp 2],.seq (.reg [sO 2 (.mv (.c (.nilsl)))]) (.seq (.reg [qM 7 0,sO 8 (.call false 122 [.t 7,.c (.fn 123 [] [])]),qM 3 8]) (.seq (.reg [sO 4 (.lazy 54 1)]) (.seq (.seq (.reg [qM 9 3,qN 10 9,qI 11 0]) (.block 0 (.loop b72_0))) (.seq (.reg [qM 36 4,sO 37 (.call false 101 [.t 36]),qM 2 37]) (.ret)))))⟩
theorem s72_ok:slimF Tryz.prog ⟨[107,108,109,116,120,126,127,167,169,170,171,172,194,196,198,209,222,226],[4]⟩ Tryz.f72=some s72:=by kernel_rfl
theorem maximal_pure (l:List (List Int)) (hl:l.length≤1073741824) (hw: ∀ w∈l,w.length≤1048576):PureC Tryz.prog 72 [(intss l)] (intss (mxW l)):=by
 refine pW Tryz.func72 s72_ok fun hB=>?_
 unfold s72
 dsimp only
 refine W_r (R_mv rfl (R_e (W_r (R_mv rfl (R_callk (orderedL_pure l (by omega) (by omega)) rfl (R_mv rfl (R_e ?_)))))))
 refine W_r (R_lazy (i:=4) (n:=0) rfl (congrArg Blk.ver rfl) (R_e (W_seq_seq (W_r (R_mv rfl (R_len rfl (R_mv rfl ?_)))))))
 refine R_e (W_seq_blockg fun Q1 n1 x1 y1 z1=>?_)
 refine W_loop (fun mm T H=> ∃ (k:Nat) (v:Nat),mm=(sdX l).length - k∧T 3=(intss (sdX l))∧T 4=(V.ms 4 v 0 ((mxO (sdX l) k).length))∧T 9=(intss (sdX l))∧T 10=(iV (((sdX l).length:Nat):Int))∧T 11=(iV ((k:Nat):Int))∧H 4=(bz v 54 1 (List.map cL (mxO (sdX l) k)))∧(k≤(sdX l).length)) ?_ ?_
 ·
  refine ⟨_,0,1,rfl,rfl,(Eq.trans (@rfl V (V.ms 4 1 0 (0))) (by rfl)),rfl,rfl,(Eq.trans (@rfl V (iV (0:Int))) rfl),(Eq.trans (@rfl Blk (bz 1 54 1 [])) (by rfl)),?_⟩
  · omega
 intro mm T H ⟨k,v,hmm,t3,t4,t9,t10,t11,h4,hk⟩ Q2 p12 p22 p32
 unfold b72_0
 have q1:=mxO_len (sdX l) k
 have q2:=sdX_len l
 refine W_r (R_lss t11 t10 (R_e ?_))
 refine W_seq_if rfl (fun c3=>?_) fun c3=>?_
 ·
  refine W_seq_skip (W_seq_blockg fun Q4 n4 x4 y4 z4=>(W_r (R_mv t11 (R_idx (i:=k) t9 t11 (by omega) rfl (R_load_pp rfl rfl (R_mv rfl (R_mv rfl ?_)))))))
  refine R_e (W_r (R_mv rfl (R_addN rfl (@rfl V (iV ((1:Nat):Int))) (by omega) (R_mv t3 (R_len rfl (R_eql rfl rfl (R_mv rfl ?_)))))))
  refine Ops_seg 9 (fun T H=>T 3=(intss (sdX l))∧T 4=(V.ms 4 v 0 ((mxO (sdX l) k).length))∧T 6=(ints ((nth (sdX l) (k))))∧T 9=(intss (sdX l))∧T 10=(iV (((sdX l).length:Nat):Int))∧T 11=(iV ((k:Nat):Int))∧T 30=(V.bool ((decide (((k+1:Nat):Int)=(((sdX l).length:Nat):Int))||((!hp ((nth (sdX l) (k+1))) ((nth (sdX l) (k))))))))∧H 4=(bz v 54 1 (List.map cL (mxO (sdX l) k)))∧True) ?_ ?_
  ·
   by_cases g5:((k+1:Nat):Int)=(((sdX l).length:Nat):Int)
   ·
    refine G_n (edT g5 rfl) (G_n (edT g5 rfl) (G_n (edT g5 rfl) (G_n (edT g5 rfl) (G_n (edT g5 rfl) (G_n (edT g5 rfl) (G_n (edT g5 rfl) (G_n (edT g5 rfl) ?_)))))))
    refine R_pickT (edT g5 rfl) rfl ?_
    exact ⟨t3,t4,rfl,t9,t10,t11,(dborT g5),h4,trivial⟩
   ·
    refine G_yes (edF g5 rfl) (R_mv t3 (G_yes (edF g5 rfl) (R_mv rfl (G_yes (edF g5 rfl) (R_addN rfl (@rfl V (iV ((1:Nat):Int))) (by omega) (G_yes (edF g5 rfl) (R_idx (i:=(k+1)) (@rfl V (intss (sdX l))) (@rfl V (iV ((k+1:Nat):Int))) (by omega) rfl ?_)))))))
    refine G_yes (edF g5 rfl) (R_load_pp rfl rfl (G_yes (edF g5 rfl) (R_mv rfl (G_yes (edF g5 rfl) (R_callk (hp_pure ((nth (sdX l) (k+1))) ((nth (sdX l) (k)))) rfl (G_yes (edF g5 rfl) (R_notb rfl ?_)))))))
    refine R_pickF (edF g5 rfl) rfl ?_
    exact ⟨t3,t4,rfl,t9,t10,t11,(dborF g5),h4,trivial⟩
  intro T H ⟨t3,t4,t6,t9,t10,t11,t30,h4,_⟩
  refine R_e ?_
  refine W_ifb t30 (fun c6=>?_) (fun c6=>?_)
  ·
   have d1:mxC (sdX l) k=true:=c6
   refine W_t (R_mv t4 (R_mv t6 (R_bslice rfl rfl (R_append1 (l:=(mxO (sdX l) k)) (f:=cL) (x:=((nth (sdX l) (k)))) (@rfl V (V.ms 4 v 0 ((mxO (sdX l) k).length))) h4 (by rfl) (@rfl V (V.sl [[(ints ((nth (sdX l) (k))))]])) rfl rfl (by omega) (by omega) (R_mv rfl (R_e (n4 _ _ ?_)))))))
   refine .done (W_t (R_addN t11 (@rfl V (iV ((1:Nat):Int))) (by omega) (R_mv rfl (R_e ?_))))
   refine p12 _ _ _ ?_ ⟨(k+1),(v+1),rfl,t3,(Eq.trans (@rfl V (V.ms 4 (v+1) 0 (((mxO (sdX l) k).length)+1))) (by (rw [mxO_yes d1,List.length_append]; rfl))),t9,t10,(Eq.trans (@rfl V (iV ((k+1:Nat):Int))) (by rfl)),(Eq.trans (@rfl Blk (bz (v+1) 54 1 (List.map cL (mxO (sdX l) k++[(nth (sdX l) (k))])))) (by (rw [mxO_yes d1]; done))),?_⟩
   · omega
   · omega
  have d1:mxC (sdX l) k=false:=by unfold mxC; simpa using c6
  refine W_skip (n4 _ _ (.done (W_t (R_addN t11 (@rfl V (iV ((1:Nat):Int))) (by omega) (R_mv rfl (R_e ?_))))))
  refine p12 _ _ _ ?_ ⟨(k+1),v,rfl,t3,(Eq.trans t4 (by (rw [mxO_no d1]; done))),t9,t10,(Eq.trans (@rfl V (iV ((k+1:Nat):Int))) (by rfl)),(Eq.trans h4 (by (rw [mxO_no d1]; done))),?_⟩
  · omega
  · omega
 refine W_seq_exit (p32 _ _ _ (x1 _ _ (fork_ (R:=fun T H=>T 3=(intss (sdX l))∧T 4=(V.ms 4 v 0 ((mxO (sdX l) k).length))∧T 9=(intss (sdX l))∧T 10=(iV (((sdX l).length:Nat):Int))∧T 11=(iV ((k:Nat):Int))∧T 12=(V.bool (decide (((k:Nat):Int) < (((sdX l).length:Nat):Int))))∧H 4=(bz v 54 1 (List.map cL (mxO (sdX l) k)))∧True) ⟨t3,t4,t9,t10,t11,(@rfl V (V.bool (decide (((k:Nat):Int) < (((sdX l).length:Nat):Int))))),h4,trivial⟩ ?_)))
 intro T H ⟨t3,t4,t9,t10,t11,t12,h4,_⟩
 refine .freeze 4 (.done ?_)
 refine fork_ (R:=fun T H=>T 3=(intss (sdX l))∧T 4=(intss (mxO (sdX l) k))∧T 9=(intss (sdX l))∧T 10=(iV (((sdX l).length:Nat):Int))∧T 11=(iV ((k:Nat):Int))∧T 12=(V.bool (decide (((k:Nat):Int) < (((sdX l).length:Nat):Int))))∧((H 4).ver=v∧(H 4).live=false)∧True) ⟨(fzT_q t3 rfl),(fzT_q t4 (fzq_own h4 (by simp) (l:=(mxO (sdX l) k)) rfl (by rfl))),(fzT_q t9 rfl),(fzT_q t10 rfl),(fzT_q t11 rfl),(fzT_q t12 rfl),(kill_self (congrArg Blk.ver h4)),trivial⟩ ?_
 intro T H ⟨t3,t4,t9,t10,t11,t12,h4,_⟩
 refine W_r (R_mv t4 (R_callk (sorted_pure (mxO (sdX l) k) (by omega) (fun w h=>by obtain ⟨i,i1,_,i3⟩:=mem_mxO.1 h; rw [← i3]; exact hw _ (mem_sdX.1 (nth_mem (by omega))))) rfl (R_mv rfl (R_e (W_ret ?_)))))
 refine Ret_1 (@rfl V (intss (sdW (mxO (sdX l) k)))) (fz_sl ?_ (fun _=>by simp))
 · rw [show k=(sdX l).length by omega,mx_eq]
end Go.Proofs.YtmnjchcoigbngabGreat
namespace Go.Proofs.YtmnjchcoigbngabGreat
open Go
def tbl {α:Type} (f:Nat→α) (n:Nat):List α:=(List.range n).map f
theorem tbl_len {α:Type} (f:Nat→α) (n:Nat):(tbl f n).length=n:=by simp [tbl]
theorem tbl_succ {α:Type} (f:Nat→α) (n:Nat):tbl f (n+1)=tbl f n++[f n]:=by simp [tbl,List.range_succ]
theorem tbl_nth {α:Type} [Inhabited α] {f:Nat→α} {n k:Nat} (h:k < n):nth (tbl f n) k=f k:=by
  unfold tbl
  rw [nth_map (by simpa using h)]
  congr 1
  rw [← nth_getElem (by simpa using h)]; simp
def plI (L:List (List Int)) (w:List Int):Int:=fi (fun j=>decide (nth L j=w)) 0 L.length
def hyA (l:Ts) (o:Ob) (k:Nat):List Int:=(nth l.t.nd (sftR l.t o (nth (exs l) k)).1.toNat).ac
def hyN (l:Ts) (o:Ob) (k:Nat):Int:=plI (lvs l.t) (hyA l o k)
def exI (l:Ts) (m:Nat):List Int:=(nth (exs l) m).take ((nth (exs l) m).length - 1)
def exL (l:Ts) (m:Nat):List Int:=(nth (exs l) m).drop ((nth (exs l) m).length - 1)
def hyO (l:Ts) (o:Ob) (m:Nat):Int:=nth (bho o (exI l m) (exL l m)) 0
def hyRow (f:Nat→Int) (i k:Nat):List Int:=tbl (fun a=>f (k*i+a)) i
def hyM (l:Ts) (o:Ob):M:=⟨l.i,0,tbl (hyRow (hyN l o) l.i.toNat) (lvs l.t).length,tbl (hyRow (hyO l o) l.i.toNat) (lvs l.t).length⟩
def hyH (l:Ts) (o:Ob):Hy:=⟨hyM l o,lvs l.t⟩
def zM:M:=⟨0,0,[],[]⟩
def zH:Hy:=⟨zM,[]⟩
def hyE (l:Ts) (o:Ob):Int:=if tsE l o≠0 then tsE l o else if sfE l o≠0 then sfE l o else if 0 < (mxW (qra l o)).length then 12 else if 0≤tsN l o then 10 else if hval (hyH l o)≠0 then 15 else 0
def hyR (l:Ts) (o:Ob):Hy:=if hyE l o≠0 then zH else hyH l o
section
variable {l:Ts} {o:Ob}
theorem hyE_1 (h:tsE l o≠0):hyE l o=tsE l o:=if_pos h
theorem hyE_2 (h: ¬tsE l o≠0) (h2:sfE l o≠0):hyE l o=sfE l o:=by unfold hyE; rw [if_neg h,if_pos h2]
theorem hyE_3 (h: ¬tsE l o≠0) (h2: ¬sfE l o≠0) (h3:0 < (mxW (qra l o)).length):hyE l o=12:=by unfold hyE; rw [if_neg h,if_neg h2,if_pos h3]
theorem hyE_4 (h: ¬tsE l o≠0) (h2: ¬sfE l o≠0) (h3: ¬0 < (mxW (qra l o)).length) (h4:0≤tsN l o):hyE l o=10:=by unfold hyE; rw [if_neg h,if_neg h2,if_neg h3,if_pos h4]
theorem hyE_5 (h: ¬tsE l o≠0) (h2: ¬sfE l o≠0) (h3: ¬0 < (mxW (qra l o)).length) (h4: ¬0≤tsN l o) (h5:hval (hyH l o)≠0):hyE l o=15:=by unfold hyE; rw [if_neg h,if_neg h2,if_neg h3,if_neg h4,if_pos h5]
theorem hyE_6 (h: ¬tsE l o≠0) (h2: ¬sfE l o≠0) (h3: ¬0 < (mxW (qra l o)).length) (h4: ¬0≤tsN l o) (h5: ¬hval (hyH l o)≠0):hyE l o=0:=by unfold hyE; rw [if_neg h,if_neg h2,if_neg h3,if_neg h4,if_neg h5]
theorem hyR_no (h:hyE l o≠0):hyR l o=zH:=if_pos h
theorem hyR_yes (h:hyE l o=0):hyR l o=hyH l o:=if_neg (by rw [h]; simp)
end
theorem ex_cat (l:Ts) (m:Nat):cat [exI l m,exL l m]=nth (exs l) m:=by simp [cat,exI,exL]
theorem hyO_one {l:Ts} {o:Ob} (ho:oval o=0) {m:Nat} (hn:0 < (nth (exs l) m).length) (hs:(ans o (nth (exs l) m)).isSome=true):bho o (exI l m) (exL l m)=[hyO l o m]:=by
  have h1:=ans_len (oval_ok ho) hs
  have h2:(bho o (exI l m) (exL l m)).length=1:=by
    unfold bho
    rw [ex_cat,List.length_drop,h1]
    unfold exI
    rw [List.length_take]; omega
  unfold hyO
  cases hb:bho o (exI l m) (exL l m) with
  |nil=>rw [hb] at h2; simp at h2
  |cons a r=>cases r with
    |nil=>rfl
    |cons b r=>rw [hb] at h2; simp at h2
theorem mulc {i:Int} (h:0≤i) (k:Nat):(k:Int)*i=((k*i.toNat:Nat):Int):=by rw [Int.natCast_mul,Int.toNat_of_nonneg h]
theorem Hy.eq_iff {a b:Hy}:a=b↔a.m.i=b.m.i∧a.m.s=b.m.s∧a.m.nx=b.m.nx∧a.m.ot=b.m.ot∧a.acc=b.acc:=by
  rcases a with ⟨⟨a1,a2,a3,a4⟩,a5⟩; rcases b with ⟨⟨b1,b2,b3,b4⟩,b5⟩; simp [and_assoc]
theorem M.eq_iff {a b:M}:a=b↔a.i=b.i∧a.s=b.s∧a.nx=b.nx∧a.ot=b.ot:=by
  rcases a with ⟨a1,a2,a3,a4⟩; rcases b with ⟨b1,b2,b3,b4⟩; simp
instance:DecidableEq M:=fun _ _=>decidable_of_iff _ M.eq_iff.symm
instance:DecidableEq Hy:=fun _ _=>decidable_of_iff _ Hy.eq_iff.symm
def prS (s:Spl) (i:Int):Int:=if wchk s.p i≠0 then wchk s.p i else if s.a < 0∨i≤s.a then 2 else if s.x.length=0 then 19 else wchk s.x i
def rfW (s:Spl):List Int:=cat [s.p,[s.a]]
def rfN (l:Ts) (o:Ob) (s:Spl):Nd:=nth l.t.nd (sftR l.t o (rfW s)).1.toNat
def msW (o:Ob) (l:List (List Int)):List (List Int):=l.filter fun w=> !(ans o w).isSome
def rfB (l:Ts) (o:Ob) (s:Spl):List (List Int):=[cat [(rfN l o s).ac,s.x],cat [rfW s,s.x]]
def rfG (l:Ts) (o:Ob) (s:Spl):Int:=spE l.t (sftR l.t o (rfW s)).1 s.x (bho o (rfN l o s).ac s.x) (rfW s) (bho o (rfW s) s.x)
def rfT (l:Ts) (o:Ob) (s:Spl):Ts:=⟨l.i,spT l.t (sftR l.t o (rfW s)).1 s.x (bho o (rfN l o s).ac s.x) (rfW s) (bho o (rfW s) s.x)⟩
def rfR (l:Ts) (o:Ob) (s:Spl):Ts×List (List Int)×Int:=
  if tsE l o≠0 then (l,[],tsE l o) else if prS s l.i≠0 then (l,[],prS s l.i) else if (sftR l.t o (rfW s)).2.2≠0 then (l,[],(sftR l.t o (rfW s)).2.2) else if 0 < (sftR l.t o (rfW s)).2.1.length then (l,[(sftR l.t o (rfW s)).2.1],0) else if (rfN l o s).lf=false then (l,[],10) else if 1024 < (rfN l o s).ac.length+s.x.length∨1024 < (rfW s).length+s.x.length then (l,[],3) else if 0 < (msW o (rfB l o s)).length then (l,mxW (msW o (rfB l o s)),0) else if 128≤(acL l.t.nd).length then (l,[],11) else if rfG l o s≠0 then (l,[],rfG l o s) else (rfT l o s,[],0)
theorem rfR_1 {l:Ts} {o:Ob} {s:Spl} (h1:tsE l o≠0):rfR l o s=(l,[],tsE l o):=by
  unfold rfR; rw [if_pos h1]
theorem rfR_2 {l:Ts} {o:Ob} {s:Spl} (h1: ¬(tsE l o≠0)) (h2:prS s l.i≠0):rfR l o s=(l,[],prS s l.i):=by
  unfold rfR; rw [if_neg h1,if_pos h2]
theorem rfR_3 {l:Ts} {o:Ob} {s:Spl} (h1: ¬(tsE l o≠0)) (h2: ¬(prS s l.i≠0)) (h3:(sftR l.t o (rfW s)).2.2≠0):rfR l o s=(l,[],(sftR l.t o (rfW s)).2.2):=by
  unfold rfR; rw [if_neg h1,if_neg h2,if_pos h3]
theorem rfR_4 {l:Ts} {o:Ob} {s:Spl} (h1: ¬(tsE l o≠0)) (h2: ¬(prS s l.i≠0)) (h3: ¬((sftR l.t o (rfW s)).2.2≠0)) (h4:0 < (sftR l.t o (rfW s)).2.1.length):rfR l o s=(l,[(sftR l.t o (rfW s)).2.1],0):=by
  unfold rfR; rw [if_neg h1,if_neg h2,if_neg h3,if_pos h4]
theorem rfR_5 {l:Ts} {o:Ob} {s:Spl} (h1: ¬(tsE l o≠0)) (h2: ¬(prS s l.i≠0)) (h3: ¬((sftR l.t o (rfW s)).2.2≠0)) (h4: ¬(0 < (sftR l.t o (rfW s)).2.1.length)) (h5:(rfN l o s).lf=false):rfR l o s=(l,[],10):=by
  unfold rfR; rw [if_neg h1,if_neg h2,if_neg h3,if_neg h4,if_pos h5]
theorem rfR_6 {l:Ts} {o:Ob} {s:Spl} (h1: ¬(tsE l o≠0)) (h2: ¬(prS s l.i≠0)) (h3: ¬((sftR l.t o (rfW s)).2.2≠0)) (h4: ¬(0 < (sftR l.t o (rfW s)).2.1.length)) (h5: ¬((rfN l o s).lf=false)) (h6:1024 < (rfN l o s).ac.length+s.x.length∨1024 < (rfW s).length+s.x.length):rfR l o s=(l,[],3):=by
  unfold rfR; rw [if_neg h1,if_neg h2,if_neg h3,if_neg h4,if_neg h5,if_pos h6]
theorem rfR_7 {l:Ts} {o:Ob} {s:Spl} (h1: ¬(tsE l o≠0)) (h2: ¬(prS s l.i≠0)) (h3: ¬((sftR l.t o (rfW s)).2.2≠0)) (h4: ¬(0 < (sftR l.t o (rfW s)).2.1.length)) (h5: ¬((rfN l o s).lf=false)) (h6: ¬(1024 < (rfN l o s).ac.length+s.x.length∨1024 < (rfW s).length+s.x.length)) (h7:0 < (msW o (rfB l o s)).length):rfR l o s=(l,mxW (msW o (rfB l o s)),0):=by
  unfold rfR; rw [if_neg h1,if_neg h2,if_neg h3,if_neg h4,if_neg h5,if_neg h6,if_pos h7]
theorem rfR_8 {l:Ts} {o:Ob} {s:Spl} (h1: ¬(tsE l o≠0)) (h2: ¬(prS s l.i≠0)) (h3: ¬((sftR l.t o (rfW s)).2.2≠0)) (h4: ¬(0 < (sftR l.t o (rfW s)).2.1.length)) (h5: ¬((rfN l o s).lf=false)) (h6: ¬(1024 < (rfN l o s).ac.length+s.x.length∨1024 < (rfW s).length+s.x.length)) (h7: ¬(0 < (msW o (rfB l o s)).length)) (h8:128≤(acL l.t.nd).length):rfR l o s=(l,[],11):=by
  unfold rfR; rw [if_neg h1,if_neg h2,if_neg h3,if_neg h4,if_neg h5,if_neg h6,if_neg h7,if_pos h8]
theorem rfR_9 {l:Ts} {o:Ob} {s:Spl} (h1: ¬(tsE l o≠0)) (h2: ¬(prS s l.i≠0)) (h3: ¬((sftR l.t o (rfW s)).2.2≠0)) (h4: ¬(0 < (sftR l.t o (rfW s)).2.1.length)) (h5: ¬((rfN l o s).lf=false)) (h6: ¬(1024 < (rfN l o s).ac.length+s.x.length∨1024 < (rfW s).length+s.x.length)) (h7: ¬(0 < (msW o (rfB l o s)).length)) (h8: ¬(128≤(acL l.t.nd).length)) (h9:rfG l o s≠0):rfR l o s=(l,[],rfG l o s):=by
  unfold rfR; rw [if_neg h1,if_neg h2,if_neg h3,if_neg h4,if_neg h5,if_neg h6,if_neg h7,if_neg h8,if_pos h9]
theorem rfR_10 {l:Ts} {o:Ob} {s:Spl} (h1: ¬(tsE l o≠0)) (h2: ¬(prS s l.i≠0)) (h3: ¬((sftR l.t o (rfW s)).2.2≠0)) (h4: ¬(0 < (sftR l.t o (rfW s)).2.1.length)) (h5: ¬((rfN l o s).lf=false)) (h6: ¬(1024 < (rfN l o s).ac.length+s.x.length∨1024 < (rfW s).length+s.x.length)) (h7: ¬(0 < (msW o (rfB l o s)).length)) (h8: ¬(128≤(acL l.t.nd).length)) (h9: ¬(rfG l o s≠0)):rfR l o s=(rfT l o s,[],0):=by
  unfold rfR; rw [if_neg h1,if_neg h2,if_neg h3,if_neg h4,if_neg h5,if_neg h6,if_neg h7,if_neg h8,if_neg h9]
theorem prS_ok {s:Spl} {i:Int} (h: ¬prS s i≠0):wchk s.p i=0∧0≤s.a∧s.a < i∧0 < s.x.length∧wchk s.x i=0:=by
  have h:=Decidable.not_not.1 h
  unfold prS at h
  split at h
  · rename_i q; exact (q h).elim
  · rename_i q
    split at h
    · omega
    · split at h
      · omega
      · exact ⟨Decidable.not_not.1 q,by omega,by omega,by omega,h⟩
def xtK (l:Ts) (o:Ob) (m:Nat):Xt:=⟨nth (exs l) m,(sftR l.t o (nth (exs l) m)).1⟩
def xts (l:Ts) (o:Ob):List Xt:=tbl (xtK l o) (exs l).length
theorem xts_len (l:Ts) (o:Ob):(xts l o).length=(exs l).length:=tbl_len _ _
theorem xts_nth {l:Ts} {o:Ob} {k:Nat} (h:k < (exs l).length):nth (xts l o) k=⟨nth (exs l) k,(sftR l.t o (nth (exs l) k)).1⟩:=tbl_nth h
def msK (o:Ob) (l:List (List Int)) (k:Nat):List (List Int):=msW o (l.take k)
theorem msK_yes {o:Ob} {l:List (List Int)} {k:Nat} (hk:k < l.length) (h:(ans o (nth l k)).isSome=false):msK o l (k+1)=msK o l k++[nth l k]:=by
  unfold msK msW; rw [take_succ_nth hk,List.filter_append,List.filter_cons_of_pos (by simp [h])]; rfl
theorem msK_no {o:Ob} {l:List (List Int)} {k:Nat} (hk:k < l.length) (h:(ans o (nth l k)).isSome=true):msK o l (k+1)=msK o l k:=by
  unfold msK msW; rw [take_succ_nth hk,List.filter_append,List.filter_cons_of_neg (by simp [h])]; simp
theorem msK_end {o:Ob} {l:List (List Int)} {k:Nat} (hk:l.length≤k):msK o l k=msW o l:=by unfold msK; rw [List.take_of_length_le hk]
theorem msK_len (o:Ob) (l:List (List Int)) (k:Nat):(msK o l k).length≤l.length:=Nat.le_trans (List.length_filter_le _ _) (by rw [List.length_take]; omega)
theorem msW_two {o:Ob} {a b:List Int}:msW o [a,b]=(if (ans o a).isSome=true then [] else [a])++(if (ans o b).isSome=true then [] else [b]):=by
  unfold msW
  cases ha:(ans o a).isSome <;> cases hb:(ans o b).isSome <;> simp only [List.filter,ha,hb,Bool.not_false,Bool.not_true,if_true,if_false,Bool.false_eq_true] <;> rfl
theorem exs_40 {l:Ts} (h:bgT l.t=false) (hi:l.i≤4):(exs l).length≤5000:=by
  have h1:=(bg_ok h).1
  have h2:(lvs l.t).length≤40:=by
    unfold lvs
    split
    · have:=sdW_len (acL l.t.nd); have:=acL_len l.t.nd; omega
    · simp
  rw [exs_len]
  exact Nat.le_trans (Nat.mul_le_mul h2 (show l.i.toNat≤4 by omega)) (by decide)
end Go.Proofs.YtmnjchcoigbngabGreat
namespace Go.Proofs.YtmnjchcoigbngabGreat
open Go Go.Proofs
theorem tsift_pure (l:Ts) (o:Ob) (hb:Bd l.t) (h:tvE l=0) (ho:oval o=0) (hx:(exs l).length≤5000):PureC Tryz.prog 45 [(V.agg [(iV (l.i)),(V.sl (List.map cN (l.t.nd))),(iV (o.i)),(V.sl (List.map cT (o.tr)))])] (V.tup [(V.sl (List.map cXt (if sfE l o=0 then xts l o else []))),(intss (if sfE l o=0 then mxW (qra l o) else [])),(iV (sfE l o))]):=by
 refine pW Tryz.func45 s45_ok fun hB=>?_
 unfold s45
 dsimp only
 obtain ⟨hi1,hi2,hv,hw0,_,hl0⟩:=tv_ok h
 have hbn:=hb.n
 have hal:=acL_len l.t.nd
 have hxl:=exs_len l
 have hll:=lvs_len hv

 refine W_r (R_box (i:=1) (n:=0) (m:=4) (cs:=[(iV (l.i)),(V.sl (List.map cN (l.t.nd))),(iV (o.i)),(V.sl (List.map cT (o.tr)))]) rfl (congrArg Blk.ver rfl) rfl rfl rfl (R_mv rfl (R_mv rfl (R_mv rfl (R_e (W_r (R_lazy (i:=5) (n:=0) rfl (congrArg Blk.ver rfl) ?_)))))))
 refine R_e (W_r (R_lazy (i:=6) (n:=0) rfl (congrArg Blk.ver rfl) (R_e (W_seq_seq (W_r (R_fk rfl rfl (R_fk rfl rfl ?_)))))))
 refine R_lk rfl rfl rfl rfl (R_callk (dleaves_pure l.t hb) rfl (R_len rfl (R_mv rfl (R_e (W_seq_blockg fun Q1 n1 x1 y1 z1=>?_)))))
 refine W_loop (fun mm T H=> ∃ (k:Nat) (v:Nat) (w:Nat) (n:Nat),mm=(lvs l.t).length - k∧T 1=(V.mp 1 1 0 0)∧T 5=(V.ms 5 v 0 (n))∧T 6=(V.ms 6 w 0 ((qrs l o n).length))∧T 17=(intss (lvs l.t))∧T 18=(iV (((lvs l.t).length:Nat):Int))∧T 19=(iV ((k:Nat):Int))∧H 1=(bk 1 87 4 [[(iV (l.i)),(V.sl (List.map cN (l.t.nd))),(iV (o.i)),(V.sl (List.map cT (o.tr)))]])∧H 5=(bz v 93 2 (List.map cXt (tbl (xtK l o) n)))∧H 6=(bz w 54 1 (List.map cL (qrs l o n)))∧(k≤(lvs l.t).length)∧(n=k*l.i.toNat)∧(n≤(exs l).length)∧(sfE l o=fe (sqE l o) n ((exs l).length - n))) ?_ ?_
 ·
  refine ⟨_,0,1,1,0,rfl,rfl,rfl,(Eq.trans (@rfl V (V.ms 6 1 0 (0))) (by rfl)),(Eq.trans (@rfl V (intss ((if dvE l.t=0 then sdW (acL l.t.nd) else [])))) (by rfl)),(Eq.trans (@rfl V (iV ((((if dvE l.t=0 then sdW (acL l.t.nd) else [])).length:Nat):Int))) (by rfl)),(Eq.trans (@rfl V (iV (0:Int))) rfl),rfl,(Eq.trans (@rfl Blk (bz 1 93 2 [])) (by rfl)),(Eq.trans (@rfl Blk (bz 1 54 1 [])) (by rfl)),?_,?_,?_,?_⟩
  · omega
  · omega
  · omega
  · rfl
 intro mm T H ⟨k,v,w,n,hmm,t1,t5,t6,t17,t18,t19,h1,h5,h6,hk,hn,hn2,hc⟩ Q2 p12 p22 p32
 unfold b45_0
 refine W_r (R_lss t19 t18 (R_e ?_))
 refine W_seq_if rfl (fun c3=>?_) fun c3=>?_
 ·
  refine W_seq_skip (W_seq_blockg fun Q4 n4 x4 y4 z4=>(W_r (R_idx (i:=k) t17 t19 (by omega) rfl (R_load_pp rfl rfl (R_mv rfl (R_e (W_r ?_)))))))
  refine R_fk t1 h1 (R_fk rfl h1 (R_lk rfl h1 rfl rfl (R_mv rfl (R_e (W_block fun Q5 n5 x5 y5 z5=>?_)))))
  refine W_loop (fun mm T H=> ∃ (j:Nat) (v2:Nat) (w2:Nat) (m:Nat),mm=l.i.toNat - j∧T 1=(V.mp 1 1 0 0)∧T 5=(V.ms 5 v2 0 (m))∧T 6=(V.ms 6 w2 0 ((qrs l o m).length))∧T 8=(ints (nth (lvs l.t) k))∧T 17=(intss (lvs l.t))∧T 18=(iV (((lvs l.t).length:Nat):Int))∧T 19=(iV ((k:Nat):Int))∧T 25=(iV (l.i))∧T 26=(iV ((j:Nat):Int))∧H 1=(bk 1 87 4 [[(iV (l.i)),(V.sl (List.map cN (l.t.nd))),(iV (o.i)),(V.sl (List.map cT (o.tr)))]])∧H 5=(bz v2 93 2 (List.map cXt (tbl (xtK l o) m)))∧H 6=(bz w2 54 1 (List.map cL (qrs l o m)))∧(j≤l.i.toNat)∧(m=k*l.i.toNat+j)∧(m≤(exs l).length)∧(sfE l o=fe (sqE l o) m ((exs l).length - m))) ?_ ?_
  ·
   refine ⟨_,0,v,w,n,rfl,t1,t5,t6,(Eq.trans (@rfl V (ints ((nth (lvs l.t) (k))))) (by rfl)),t17,t18,t19,rfl,(Eq.trans (@rfl V (iV (0:Int))) rfl),h1,h5,h6,?_,?_,?_,?_⟩
   · omega
   · omega
   · omega
   · exact hc
  intro mm T H ⟨j,v2,w2,m,hmm,t1,t5,t6,t8,t17,t18,t19,t25,t26,h1,h5,h6,hj,hm,hm2,hc2⟩ Q6 p16 p26 p36
  unfold b45_1
  have q2:(k+1)*l.i.toNat≤(lvs l.t).length*l.i.toNat:=Nat.mul_le_mul_right _ (by omega)
  rw [Nat.succ_mul] at q2
  have q1:=qrs_le l o m
  refine W_r (R_lss t26 t25 (R_e ?_))
  refine W_seq_if rfl (fun c7=>?_) fun c7=>?_
  ·
   have d0:nth (exs l) m=cat [nth (lvs l.t) k,[(j:Int)]]:=by rw [hm]; exact exs_nth (by omega) (by omega)
   have r1:=exs_word h (nth_mem (show m < (exs l).length by omega))
   have r2:=(lvs_word h (nth_mem (show k < (lvs l.t).length by omega))).1
   refine W_seq_skip (W_seq_blockg fun Q8 n8 x8 y8 z8=>(W_r (R_mv t26 (R_mv rfl (R_e (W_r (R_mv t8 ?_)))))))
   refine R_mv rfl (R_bslice rfl rfl (R_bslice rfl rfl (R_callc (evcons rfl evnil) ((by have q:=pjoin_pure [nth (lvs l.t) k,[(j:Int)]] (by simp only [cat,List.append_nil,List.length_append,List.length_cons,List.length_nil]; omega); rw [← d0] at q; exact q)) (R_mv rfl (R_e (W_r (R_fk t1 h1 ?_)))))))
   refine R_fk rfl h1 (R_lk rfl h1 rfl rfl (R_fk t1 h1 (R_lk rfl h1 rfl rfl (R_mv rfl (R_callk (sift_pure l.t o (nth (exs l) m) hb ho (by omega)) rfl (R_mv rfl (R_ext rfl rfl ?_)))))))
   refine R_ext rfl rfl (R_ext rfl rfl (R_mv rfl (R_mv rfl (R_mv rfl (R_e (W_seq_seq (W_r ?_)))))))
   refine R_mv rfl (R_neq rfl rfl (R_e ?_))
   refine W_seq_if rfl (fun c9=>?_) fun c9=>?_
   ·
    have d1:sqE l o m≠0:=c9
    refine W_seq_seq (W_r (R_mv rfl (R_mv rfl (R_mv rfl (R_mv rfl (R_e (W_seq_ret ?_)))))))
    refine y8 _ _ (p26 _ _ (y5 _ _ (y4 _ _ (p22 _ _ (y1 _ _ ?_)))))
    refine Ret_3 (@rfl V V.nilsl) (@rfl V V.nilsl) (@rfl V (iV ((sftR l.t o (nth (exs l) m)).2.2))) (fz_nil ?_) (fz_nil ?_) (fz_int ?_)
    · rw [if_neg (by rw [hc2,fe_hit (e:=sqE l o) d1 (by omega)]; exact d1)]
    · rw [if_neg (by rw [hc2,fe_hit (e:=sqE l o) d1 (by omega)]; exact d1)]
    · rw [hc2,fe_hit (e:=sqE l o) d1 (by omega)]; rfl
   have d1:sqE l o m=0:=Decidable.not_not.1 c9
   refine W_seq_skip (W_seq_seq (W_r (R_lk t1 h1 rfl rfl (R_mv rfl (R_callk (tknown_pure l o (nth (exs l) m) ho) rfl (R_notb rfl (R_e ?_)))))))
   refine W_seq_ifb rfl (fun c10=>?_) (fun c10=>?_)
   ·
    have d2: ¬(ans o (nth (exs l) m)).isSome=true:=by simpa using c10
    refine W_r (R_mv t6 (R_mv rfl (R_bslice rfl rfl (R_append1 (l:=(qrs l o m)) (f:=cL) (x:=(nth (exs l) m)) (@rfl V (V.ms 6 w2 0 ((qrs l o m).length))) h6 (by rfl) (@rfl V (V.sl [[(ints (nth (exs l) m))]])) rfl rfl (by omega) (by omega) (R_mv rfl (R_e (W_seq_seq ?_)))))))
    refine W_r (R_mv rfl (R_len rfl (R_gtr rfl rfl (R_e ?_))))
    refine W_seq_if rfl (fun c11=>?_) fun c11=>?_
    ·
     have d3:0 < (sftR l.t o (nth (exs l) m)).2.1.length:=by omega
     refine W_seq_regc (fun T H=>T 1=(V.mp 1 1 0 0)∧T 5=(V.ms 5 v2 0 (m))∧T 6=(V.ms 6 (w2+2) 0 (((qrs l o m).length)+2))∧T 8=(ints (nth (lvs l.t) k))∧T 10=(ints (nth (exs l) m))∧T 11=(iV ((sftR l.t o (nth (exs l) m)).1))∧T 17=(intss (lvs l.t))∧T 18=(iV (((lvs l.t).length:Nat):Int))∧T 19=(iV ((k:Nat):Int))∧T 25=(iV (l.i))∧T 26=(iV ((j:Nat):Int))∧H 1=(bk 1 87 4 [[(iV (l.i)),(V.sl (List.map cN (l.t.nd))),(iV (o.i)),(V.sl (List.map cT (o.tr)))]])∧H 5=(bz v2 93 2 (List.map cXt (tbl (xtK l o) m)))∧H 6=(bz (w2+2) 54 1 (List.map cL (qrs l o m++[nth (exs l) m]++[(sftR l.t o (nth (exs l) m)).2.1])))∧True) ?_ ?_
     ·
      refine R_mv rfl (R_mv rfl (R_bslice rfl rfl (R_append1 (l:=(qrs l o m++[nth (exs l) m])) (f:=cL) (x:=((sftR l.t o (nth (exs l) m)).2.1)) (@rfl V (V.ms 6 (w2+1) 0 (((qrs l o m).length)+1))) (@rfl Blk (bz (w2+1) 54 1 (List.map cL (qrs l o m++[nth (exs l) m])))) (by simp) (@rfl V (V.sl [[(ints ((sftR l.t o (nth (exs l) m)).2.1))]])) rfl rfl (by omega) (by omega) (R_mv rfl ?_))))
      exact R_nil ⟨t1,t5,rfl,t8,rfl,rfl,t17,t18,t19,t25,t26,h1,h5,rfl,trivial⟩
     intro T H ⟨t1,t5,t6,t8,t10,t11,t17,t18,t19,t25,t26,h1,h5,h6,_⟩
     refine W_t (R_mv t5 (R_mv t10 (R_mv t11 (R_build rfl rfl (R_bslice rfl rfl (R_append1 (l:=(tbl (xtK l o) m)) (f:=cXt) (x:=((⟨nth (exs l) m,(sftR l.t o (nth (exs l) m)).1⟩:Xt))) (@rfl V (V.ms 5 v2 0 (m))) h5 (by exact (tbl_len _ _).symm) (@rfl V (V.sl [[(ints (nth (exs l) m)),(iV ((sftR l.t o (nth (exs l) m)).1))]])) rfl rfl (by omega) (by omega) (R_mv rfl ?_)))))))
     refine R_e (n8 _ _ (.done (W_t (R_addN t26 (@rfl V (iV ((1:Nat):Int))) (by omega) (R_mv rfl (R_e ?_))))))
     refine p16 _ _ _ ?_ ⟨(j+1),(v2+1),(w2+2),(m+1),rfl,t1,(Eq.trans (@rfl V (V.ms 5 (v2+1) 0 (m+1))) (by rfl)),(Eq.trans t6 (by (rw [qrs_step (by omega)]; unfold qr1; simp only [d2,d3,if_true,if_false,List.length_append]; rfl))),t8,t17,t18,t19,t25,(Eq.trans (@rfl V (iV ((j+1:Nat):Int))) (by rfl)),h1,(Eq.trans (@rfl Blk (bz (v2+1) 93 2 (List.map cXt (tbl (xtK l o) m++[(⟨nth (exs l) m,(sftR l.t o (nth (exs l) m)).1⟩:Xt)])))) (by (rw [tbl_succ]; rfl))),(Eq.trans h6 (by (rw [qrs_step (by omega)]; unfold qr1; simp [d2,d3]; done))),?_,?_,?_,?_⟩
     · omega
     · omega
     · omega
     · omega
     · rw [hc2,fe_skip (e:=sqE l o) (by exact d1) (by omega)]
    have d3: ¬0 < (sftR l.t o (nth (exs l) m)).2.1.length:=by omega
    refine W_seq_skip ?_
    refine W_regc (fun T H=>T 1=(V.mp 1 1 0 0)∧T 5=(V.ms 5 (v2+1) 0 (m+1))∧T 6=(V.ms 6 (w2+1) 0 (((qrs l o m).length)+1))∧T 8=(ints (nth (lvs l.t) k))∧T 17=(intss (lvs l.t))∧T 18=(iV (((lvs l.t).length:Nat):Int))∧T 19=(iV ((k:Nat):Int))∧T 25=(iV (l.i))∧T 26=(iV ((j:Nat):Int))∧H 1=(bk 1 87 4 [[(iV (l.i)),(V.sl (List.map cN (l.t.nd))),(iV (o.i)),(V.sl (List.map cT (o.tr)))]])∧H 5=(bz (v2+1) 93 2 (List.map cXt (tbl (xtK l o) m++[(⟨nth (exs l) m,(sftR l.t o (nth (exs l) m)).1⟩:Xt)])))∧H 6=(bz (w2+1) 54 1 (List.map cL (qrs l o m++[nth (exs l) m])))∧True) ?_ ?_
    ·
     refine R_mv t5 (R_mv rfl (R_mv rfl (R_build rfl rfl (R_bslice rfl rfl (R_append1 (l:=(tbl (xtK l o) m)) (f:=cXt) (x:=((⟨nth (exs l) m,(sftR l.t o (nth (exs l) m)).1⟩:Xt))) (@rfl V (V.ms 5 v2 0 (m))) h5 (by exact (tbl_len _ _).symm) (@rfl V (V.sl [[(ints (nth (exs l) m)),(iV ((sftR l.t o (nth (exs l) m)).1))]])) rfl rfl (by omega) (by omega) (R_mv rfl ?_))))))
     exact R_nil ⟨t1,rfl,rfl,t8,t17,t18,t19,t25,t26,h1,rfl,rfl,trivial⟩
    intro T H ⟨t1,t5,t6,t8,t17,t18,t19,t25,t26,h1,h5,h6,_⟩
    refine n8 _ _ (.done (W_t (R_addN t26 (@rfl V (iV ((1:Nat):Int))) (by omega) (R_mv rfl (R_e ?_)))))
    refine p16 _ _ _ ?_ ⟨(j+1),(v2+1),(w2+1),(m+1),rfl,t1,(Eq.trans t5 (by rfl)),(Eq.trans t6 (by (rw [qrs_step (by omega)]; unfold qr1; simp only [d2,d3,if_true,if_false,List.length_append]; rfl))),t8,t17,t18,t19,t25,(Eq.trans (@rfl V (iV ((j+1:Nat):Int))) (by rfl)),h1,(Eq.trans h5 (by (rw [tbl_succ]; rfl))),(Eq.trans h6 (by (rw [qrs_step (by omega)]; unfold qr1; simp [d2,d3]; done))),?_,?_,?_,?_⟩
    · omega
    · omega
    · omega
    · omega
    · rw [hc2,fe_skip (e:=sqE l o) (by exact d1) (by omega)]
   have d2:(ans o (nth (exs l) m)).isSome=true:=by simpa using c10
   refine W_seq_skip (W_seq_seq (W_r (R_mv rfl (R_len rfl (R_gtr rfl rfl (R_e ?_))))))
   refine W_seq_if rfl (fun c12=>?_) fun c12=>?_
   ·
    have d3:0 < (sftR l.t o (nth (exs l) m)).2.1.length:=by omega
    refine W_r (R_mv t6 (R_mv rfl (R_bslice rfl rfl (R_append1 (l:=(qrs l o m)) (f:=cL) (x:=((sftR l.t o (nth (exs l) m)).2.1)) (@rfl V (V.ms 6 w2 0 ((qrs l o m).length))) h6 (by rfl) (@rfl V (V.sl [[(ints ((sftR l.t o (nth (exs l) m)).2.1))]])) rfl rfl (by omega) (by omega) (R_mv rfl (R_e ?_))))))
    refine W_regc (fun T H=>T 1=(V.mp 1 1 0 0)∧T 5=(V.ms 5 (v2+1) 0 (m+1))∧T 6=(V.ms 6 (w2+1) 0 (((qrs l o m).length)+1))∧T 8=(ints (nth (lvs l.t) k))∧T 17=(intss (lvs l.t))∧T 18=(iV (((lvs l.t).length:Nat):Int))∧T 19=(iV ((k:Nat):Int))∧T 25=(iV (l.i))∧T 26=(iV ((j:Nat):Int))∧H 1=(bk 1 87 4 [[(iV (l.i)),(V.sl (List.map cN (l.t.nd))),(iV (o.i)),(V.sl (List.map cT (o.tr)))]])∧H 5=(bz (v2+1) 93 2 (List.map cXt (tbl (xtK l o) m++[(⟨nth (exs l) m,(sftR l.t o (nth (exs l) m)).1⟩:Xt)])))∧H 6=(bz (w2+1) 54 1 (List.map cL (qrs l o m++[(sftR l.t o (nth (exs l) m)).2.1])))∧True) ?_ ?_
    ·
     refine R_mv t5 (R_mv rfl (R_mv rfl (R_build rfl rfl (R_bslice rfl rfl (R_append1 (l:=(tbl (xtK l o) m)) (f:=cXt) (x:=((⟨nth (exs l) m,(sftR l.t o (nth (exs l) m)).1⟩:Xt))) (@rfl V (V.ms 5 v2 0 (m))) h5 (by exact (tbl_len _ _).symm) (@rfl V (V.sl [[(ints (nth (exs l) m)),(iV ((sftR l.t o (nth (exs l) m)).1))]])) rfl rfl (by omega) (by omega) (R_mv rfl ?_))))))
     exact R_nil ⟨t1,rfl,rfl,t8,t17,t18,t19,t25,t26,h1,rfl,rfl,trivial⟩
    intro T H ⟨t1,t5,t6,t8,t17,t18,t19,t25,t26,h1,h5,h6,_⟩
    refine n8 _ _ (.done (W_t (R_addN t26 (@rfl V (iV ((1:Nat):Int))) (by omega) (R_mv rfl (R_e ?_)))))
    refine p16 _ _ _ ?_ ⟨(j+1),(v2+1),(w2+1),(m+1),rfl,t1,(Eq.trans t5 (by rfl)),(Eq.trans t6 (by (rw [qrs_step (by omega)]; unfold qr1; simp only [d2,d3,if_true,if_false,List.length_append]; rfl))),t8,t17,t18,t19,t25,(Eq.trans (@rfl V (iV ((j+1:Nat):Int))) (by rfl)),h1,(Eq.trans h5 (by (rw [tbl_succ]; rfl))),(Eq.trans h6 (by (rw [qrs_step (by omega)]; unfold qr1; simp [d2,d3]; done))),?_,?_,?_,?_⟩
    · omega
    · omega
    · omega
    · omega
    · rw [hc2,fe_skip (e:=sqE l o) (by exact d1) (by omega)]
   have d3: ¬0 < (sftR l.t o (nth (exs l) m)).2.1.length:=by omega
   refine W_seq_skip (W_t (R_mv t5 (R_mv rfl (R_mv rfl (R_build rfl rfl (R_bslice rfl rfl (R_append1 (l:=(tbl (xtK l o) m)) (f:=cXt) (x:=((⟨nth (exs l) m,(sftR l.t o (nth (exs l) m)).1⟩:Xt))) (@rfl V (V.ms 5 v2 0 (m))) h5 (by exact (tbl_len _ _).symm) (@rfl V (V.sl [[(ints (nth (exs l) m)),(iV ((sftR l.t o (nth (exs l) m)).1))]])) rfl rfl (by omega) (by omega) ?_)))))))
   refine R_mv rfl (R_e (n8 _ _ (.done ?_)))
   refine W_regc (fun T H=>T 1=(V.mp 1 1 0 0)∧T 5=(V.ms 5 (v2+1) 0 (m+1))∧T 6=(V.ms 6 w2 0 ((qrs l o m).length))∧T 8=(ints (nth (lvs l.t) k))∧T 17=(intss (lvs l.t))∧T 18=(iV (((lvs l.t).length:Nat):Int))∧T 19=(iV ((k:Nat):Int))∧T 25=(iV (l.i))∧T 26=(iV ((j+1:Nat):Int))∧H 1=(bk 1 87 4 [[(iV (l.i)),(V.sl (List.map cN (l.t.nd))),(iV (o.i)),(V.sl (List.map cT (o.tr)))]])∧H 5=(bz (v2+1) 93 2 (List.map cXt (tbl (xtK l o) m++[(⟨nth (exs l) m,(sftR l.t o (nth (exs l) m)).1⟩:Xt)])))∧H 6=(bz w2 54 1 (List.map cL (qrs l o m)))∧True) ?_ ?_
   ·
    refine R_addN t26 (@rfl V (iV ((1:Nat):Int))) (by omega) (R_mv rfl ?_)
    exact R_nil ⟨t1,rfl,t6,t8,t17,t18,t19,t25,rfl,h1,rfl,h6,trivial⟩
   intro T H ⟨t1,t5,t6,t8,t17,t18,t19,t25,t26,h1,h5,h6,_⟩
   refine p16 _ _ _ ?_ ⟨(j+1),(v2+1),w2,(m+1),rfl,t1,(Eq.trans t5 (by rfl)),(Eq.trans t6 (by (rw [qrs_step (by omega)]; unfold qr1; simp only [d2,d3,if_true,if_false,List.length_append]; rfl))),t8,t17,t18,t19,t25,(Eq.trans t26 (by rfl)),h1,(Eq.trans h5 (by (rw [tbl_succ]; rfl))),(Eq.trans h6 (by (rw [qrs_step (by omega)]; unfold qr1; simp [d2,d3]; done))),?_,?_,?_,?_⟩
   · omega
   · omega
   · omega
   · omega
   · rw [hc2,fe_skip (e:=sqE l o) (by exact d1) (by omega)]
  refine W_seq_exit (p36 _ _ _ (x5 _ _ (n4 _ _ (.done (W_t (R_addN t19 (@rfl V (iV ((1:Nat):Int))) (by omega) (R_mv rfl ?_)))))))
  refine R_e ?_
  refine p12 _ _ _ ?_ ⟨(k+1),v2,w2,m,rfl,t1,t5,t6,t17,t18,(Eq.trans (@rfl V (iV ((k+1:Nat):Int))) (by rfl)),h1,h5,h6,?_,?_,?_,?_⟩
  · omega
  · omega
  · rw [Nat.succ_mul]; omega
  · omega
  · exact hc2
 have hz:sfE l o=0:=by rw [hc,fe_end (by rw [hxl,hn,show k=(lvs l.t).length by omega]; exact Nat.le_refl _)]
 have hnx:n=(exs l).length:=by rw [hxl,hn,show k=(lvs l.t).length by omega]
 have hq:=qrs_end (l:=l) (o:=o) (k:=n) (by omega)
 have hql:=qra_len o h
 refine W_seq_exit (p32 _ _ _ (x1 _ _ (fork_ (R:=fun T H=>T 1=(V.mp 1 1 0 0)∧T 5=(V.ms 5 v 0 (n))∧T 6=(V.ms 6 w 0 ((qrs l o n).length))∧T 17=(intss (lvs l.t))∧T 18=(iV (((lvs l.t).length:Nat):Int))∧T 19=(iV ((k:Nat):Int))∧T 20=(V.bool (decide (((k:Nat):Int) < (((lvs l.t).length:Nat):Int))))∧H 1=(bk 1 87 4 [[(iV (l.i)),(V.sl (List.map cN (l.t.nd))),(iV (o.i)),(V.sl (List.map cT (o.tr)))]])∧H 5=(bz v 93 2 (List.map cXt (tbl (xtK l o) n)))∧H 6=(bz w 54 1 (List.map cL (qrs l o n)))∧True) ⟨t1,t5,t6,t17,t18,t19,(@rfl V (V.bool (decide (((k:Nat):Int) < (((lvs l.t).length:Nat):Int))))),h1,h5,h6,trivial⟩ ?_)))
 intro T H ⟨t1,t5,t6,t17,t18,t19,t20,h1,h5,h6,_⟩
 refine .freeze 6 (.done ?_)
 refine fork_ (R:=fun T H=>T 1=(V.mp 1 1 0 0)∧T 5=(V.ms 5 v 0 (n))∧T 6=(intss (qrs l o n))∧T 17=(intss (lvs l.t))∧T 18=(iV (((lvs l.t).length:Nat):Int))∧T 19=(iV ((k:Nat):Int))∧T 20=(V.bool (decide (((k:Nat):Int) < (((lvs l.t).length:Nat):Int))))∧H 1=(bk 1 87 4 [[(iV (l.i)),(V.sl (List.map cN (l.t.nd))),(iV (o.i)),(V.sl (List.map cT (o.tr)))]])∧H 5=(bz v 93 2 (List.map cXt (tbl (xtK l o) n)))∧((H 6).ver=w∧(H 6).live=false)∧True) ⟨(fzT_q t1 rfl),(fzT_q t5 (fzq_other (by decide))),(fzT_q t6 (fzq_own h6 (by simp) (l:=(qrs l o n)) rfl (by rfl))),(fzT_q t17 rfl),(fzT_q t18 rfl),(fzT_q t19 rfl),(fzT_q t20 rfl),(kill_ne h1 (by decide)),(kill_ne h5 (by decide)),(kill_self (congrArg Blk.ver h6)),trivial⟩ ?_
 intro T H ⟨t1,t5,t6,t17,t18,t19,t20,h1,h5,h6,_⟩
 refine W_r (R_mv t5 (R_mv t6 (R_callk (maximal_pure (qrs l o n) (by rw [hq]; omega) (by rw [hq]; exact fun w hw=>qra_word h hw)) rfl (R_mv rfl (R_mv rfl (R_mv rfl (R_e ?_)))))))
 refine W_ret ?_
 refine Ret_3 (@rfl V (V.ms 5 v 0 (n))) (@rfl V (intss (mxW (qrs l o n)))) (@rfl V (iV (0:Int))) (fz_ms h5 (by simp) (l:=(tbl (xtK l o) n)) rfl (by exact (tbl_len _ _).symm) (fun _=>by simp) ?_) (fz_sl ?_ (fun _=>by simp)) (fz_int ?_)
 · rw [if_pos hz,hnx]; rfl
 · rw [if_pos hz,hq]
 · exact hz.symm
def r46_1:List SO:=[
 qF 5 0 2,
 qF 6 1 5,
 qF 7 0 6,
 ql 8 7,
 qM 9 1,
 qA 10 5 8 9,
 qF 11 0 10,
 ql 12 11,
 qM 4 12]
def s46:SF:=⟨13,[.tmp 4],.seq (.reg [sO 2 (.box 87 4 (.t 0)),sO 4 (.mv (.c (.bool false)))]) (.seq (.reg r46_1) (.ret))⟩
theorem s46_ok:slimF Tryz.prog ⟨[107,108,109,116,120,126,127,167,169,170,171,172,194,196,198,209,222,226],[]⟩ Tryz.f46=some s46:=by kernel_rfl
theorem tleaf_pure (l:Ts) (o:Ob) (n:Int) (h0:0≤n) (h1:n < l.t.nd.length):PureC Tryz.prog 46 [(V.agg [(iV (l.i)),(V.sl (List.map cN (l.t.nd))),(iV (o.i)),(V.sl (List.map cT (o.tr)))]),(iV (n))] (V.bool ((nth l.t.nd n.toNat).lf)):=by
 refine pW Tryz.func46 s46_ok fun hB=>?_
 unfold s46
 dsimp only
 refine W_r (R_box (i:=2) (n:=0) (m:=4) (cs:=[(iV (l.i)),(V.sl (List.map cN (l.t.nd))),(iV (o.i)),(V.sl (List.map cT (o.tr)))]) rfl (congrArg Blk.ver rfl) rfl rfl rfl (R_mv rfl (R_e (W_r (R_fk rfl rfl (R_fk rfl rfl (R_fk rfl rfl ?_)))))))
 refine R_lk rfl rfl rfl rfl (R_mv rfl (R_idxI (i:=(n)) (@rfl V (V.sl (List.map cN (l.t.nd)))) (@rfl V (iV (n))) (by omega) (by omega) rfl (R_fld_pp (cs':=(cN (((nth (l.t.nd) (n).toNat))))) rfl rfl (R_load_pp rfl rfl (R_mv rfl (R_e (W_ret ?_)))))))
 refine Ret_1 (@rfl V (V.bool (((nth (l.t.nd) (n).toNat)).lf))) (fz_bool ?_)
 · rfl
def r48_7:List SO:=[
 qM 31 2,
 qF 32 0 4,
 ql 33 32,
 qM 34 1,
 qA 35 5 33 34,
 qF 36 2 35,
 ql 37 36,
 sO 38 (.call false 104 [.t 31,.t 37]),
 qM 12 38]
def r48_10:List SO:=[
 qF 44 0 4,
 ql 45 44,
 qM 46 1,
 qA 47 5 45 46,
 qL 48 5 47,
 qM 49 2,
 sO 50 (.call false 105 [.t 48,.t 49]),
 qM 43 50,
 qE 51 43 0,
 qE 52 43 1,
 qM 13 51,
 qM 14 52]
def r48_20:List SO:=[
 qM 73 17,
 qM 74 17,
 sO 75 (.nilck (.t 74)),
 qF 76 3 75,
 ql 77 76,
 qM 78 13,
 qM 79 2,
 sO 80 (.bslice 54 1 false [.nilsl] 1 [(0,.t 79)]),
 sO 81 (.call false 69 [.t 80]),
 sO 82 (.bslice 54 1 true [.nilsl] 1 [(0,.t 81)]),
 sO 83 (.call true 108 [.t 77,.t 78,.t 82]),
 sO 84 (.nilck (.t 73)),
 qF 85 3 84,
 sN (.store 1 (.t 85) (.t 83))]
def r48_21:List SO:=[
 qM 86 17,
 qM 87 17,
 sO 88 (.nilck (.t 87)),
 qF 89 4 88,
 ql 90 89,
 qM 91 13,
 qF 92 0 4,
 ql 93 92,
 qN 94 93,
 sO 95 (.bslice 3 1 true [.int .i64 0] 1 [(0,.t 94)]),
 sO 96 (.call true 109 [.t 90,.t 91,.t 95]),
 sO 97 (.nilck (.t 86)),
 qF 98 4 97,
 sN (.store 1 (.t 98) (.t 96))]
def r48_22:List SO:=[
 qF 99 0 16,
 ql 100 99,
 qM 101 3,
 sO 102 (.bslice 54 1 false [.nilsl] 1 [(0,.t 101)]),
 sO 103 (.call false 69 [.t 102]),
 sO 104 (.build [.bool false,.nilsl,.nilsl,.nilsl,.nilsl] [(0,1,.c (.bool true)),(1,1,.t 103)]),
 sO 105 (.bslice 99 5 false [.bool false,.nilsl,.nilsl,.nilsl,.nilsl] 1 [(0,.t 104)]),
 sO 106 (.append 99 5 104 (.t 100) (.t 105)),
 qF 107 0 16,
 sN (.store 1 (.t 107) (.t 106))]
def s48:SF:=⟨109,[.cell 8 true 1,.tmp 9],.seq (.reg [sO 4 (.box 24 1 (.t 0)),sO 8 (.alloc 24 [.nilsl]),qI 9 0]) (.seq (.seq (.reg [qL 18 1 4,sO 19 (.call false 99 [.t 18]),qM 10 19]) (.seq (.reg [qM 20 10,qC 21 .neq 20 0]) (.cond (.t 21) (.seq (.reg [qL 22 1 4,qM 23 10,sN (.store 1 (.t 8) (.t 22)),qM 9 23]) (.ret)) (.skip)))) (.seq (.seq (.reg [qL 24 1 4,qM 25 1,sO 26 (.call false 103 [.t 24,.t 25,.c (.bool false)]),qM 11 26]) (.seq (.reg [qM 27 11,qC 28 .neq 27 0]) (.cond (.t 28) (.seq (.reg [qL 29 1 4,qM 30 11,sN (.store 1 (.t 8) (.t 29)),qM 9 30]) (.ret)) (.skip)))) (.seq (.seq (.reg r48_7) (.seq (.reg [qM 39 12,qC 40 .neq 39 0]) (.cond (.t 40) (.seq (.reg [qL 41 1 4,qM 42 12,sN (.store 1 (.t 8) (.t 41)),qM 9 42]) (.ret)) (.skip)))) (.seq (.reg r48_10) (.seq (.seq (.reg [qM 53 14]) (.cond (.t 53) (.seq (.reg [qL 54 1 4,sN (.store 1 (.t 8) (.t 54)),qI 9 7]) (.ret)) (.skip))) (.seq (.seq (.reg [qL 55 1 4,qM 56 3,sO 57 (.call false 106 [.t 55,.t 56]),qM 15 57]) (.seq (.reg [qM 58 15,qC 59 .neq 58 0]) (.cond (.t 59) (.seq (.reg [qL 60 1 4,qM 61 15,sN (.store 1 (.t 8) (.t 60)),qM 9 61]) (.ret)) (.skip)))) (.seq (.seq (.reg [qF 62 0 4,ql 63 62,qN 64 63,qC 65 .geq 64 4096]) (.cond (.t 65) (.seq (.reg [qL 66 1 4,sN (.store 1 (.t 8) (.t 66)),qI 9 11]) (.ret)) (.skip))) (.seq (.reg [qL 67 1 4,sO 68 (.call true 107 [.t 67]),sO 16 (.alloc 24 [.nilsl]),sN (.store 1 (.t 16) (.t 68))]) (.seq (.reg [qF 69 0 16,ql 70 69,qM 71 1,qA 72 5 70 71,qM 17 72]) (.seq (.dreg [82] r48_20) (.seq (.dreg [95] r48_21) (.seq (.reg r48_22) (.seq (.reg [qL 108 1 16,sN (.store 1 (.t 8) (.t 108)),qI 9 0]) (.ret))))))))))))))⟩
theorem s48_ok:slimF Tryz.prog ⟨[107,108,109,116,120,126,127,167,169,170,171,172,194,196,198,209,222,226],[82,95]⟩ Tryz.f48=some s48:=by kernel_rfl
def r103_1:List SO:=[
 qM 8 1,
 qC 9 .lss 8 0,
 qM 10 9,
 ⟨some (10,false),some 11,.mv (.t 1)⟩,
 ⟨some (10,false),some 12,.fld 0 (.t 3)⟩,
 ⟨some (10,false),some 13,.load false 1 (.t 12)⟩,
 ⟨some (10,false),some 14,.len (.t 13)⟩,
 ⟨some (10,false),some 15,.bin .geq (.t 11) (.t 14)⟩,
 sO 16 (.pick (.t 10) (.c (.bool true)) (.t 15)),
 qM 7 16]
def r103_3:List SO:=[
 qF 18 0 3,
 ql 19 18,
 qM 20 1,
 qA 21 5 19 20,
 qF 22 0 21,
 ql 23 22,
 qM 24 2,
 sO 25 (.bbin .neq (.t 23) (.t 24)),
 qM 17 25]
def s103:SF:=⟨26,[.tmp 6],.seq (.reg [sO 3 (.box 24 1 (.t 0)),qI 6 0]) (.seq (.block 0 (.seq (.reg r103_1) (.cond (.t 7) (.seq (.reg [qI 6 2]) (.ret)) (.seq (.reg r103_3) (.cond (.t 17) (.seq (.reg [qI 6 10]) (.ret)) (.skip)))))) (.seq (.reg [qI 6 0]) (.ret)))⟩
theorem s103_ok:slimF Tryz.prog ⟨[107,108,109,116,120,126,127,167,169,170,171,172,194,196,198,209,222,226],[]⟩ Tryz.f103=some s103:=by kernel_rfl
end Go.Proofs.YtmnjchcoigbngabGreat
