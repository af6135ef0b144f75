/- Contracts of the functions that the law MW reaches, and the law itself, for every input; no condition. -/
import Derived.KernelRfl
import Derived.Shelf.SlSortCmp.KitK
import Derived.Shelf.SlSortCmp.NoneTotal
import Derived.Test.YteehaobohaecmaaDoorProg
import Derived.Shelf.Spec.SlicesGrow
import Derived.Test.YteehaobohaecmaaDoorMW1
set_option linter.unusedSimpArgs false
set_option linter.unusedVariables false
namespace Go.Proofs.YteehaobohaecmaaDoor
open Go
def trF (b:Bool):Fm:=if b=true then yesF else noF
def ntB (g:Fm) (a o:Int):Bool:=decide ((g.op=2∧g.arg≠a)∨(g.op=3∧g.arg≠o))
def stO (f:Fm) (a o:Int) (K:List Fm):Fm:=
  if f.op=2 then trF (decide (f.arg=a)) else if f.op=3 then trF (decide (f.arg=o)) else if f.op=4 then trF (ntB (nth f.kids 0) a o)
  else if f.op=7∨f.op=9 then nth f.kids 0 else if f.op=8 then .nd 6 0 [nth K 1,.nd 5 0 [nth K 0,f]] else if f.op=10 then .nd 5 0 [nth K 1,.nd 6 0 [nth K 0,f]]
  else .nd f.op 0 K
mutual
def mst:Fm→Int→Int→Fm
  | .nd p r k,a,o=>stO (.nd p r k) a o (mstL k a o)
def mstL:List Fm→Int→Int→List Fm
  |[],_,_=>[]
  |f::l,a,o=>mst f a o::mstL l a o
end
theorem mstL_map (a o:Int): ∀ l:List Fm,mstL l a o=l.map fun f=>mst f a o
  |[]=>by rw [mstL]; rfl
  |f::l=>by rw [mstL,mstL_map a o l]; rfl
theorem mst_eq (f:Fm) (a o:Int):mst f a o=stO f a o (f.kids.map fun g=>mst g a o):=by cases f; rw [mst,mstL_map]; rfl
section
variable {f:Fm} {a o:Int}
theorem mst_2 (h:f.op=2):mst f a o=trF (decide (f.arg=a)):=by rw [mst_eq,stO,if_pos h]
theorem mst_3 (h:f.op=3):mst f a o=trF (decide (f.arg=o)):=by rw [mst_eq,stO,if_neg (by omega),if_pos h]
theorem mst_4 (h:f.op=4):mst f a o=trF (ntB (nth f.kids 0) a o):=by rw [mst_eq,stO,if_neg (by omega),if_neg (by omega),if_pos h]
theorem mst_79 (h:f.op=7∨f.op=9):mst f a o=nth f.kids 0:=by rw [mst_eq,stO,if_neg (by omega),if_neg (by omega),if_neg (by omega),if_pos h]
theorem mst_8 (h:f.op=8) (hk:f.kids.length=2):mst f a o=.nd 6 0 [mst (nth f.kids 1) a o,.nd 5 0 [mst (nth f.kids 0) a o,f]]:=by
  rw [mst_eq,stO,if_neg (by omega),if_neg (by omega),if_neg (by omega),if_neg (by omega),if_pos h,nthM (by omega),nthM (by omega)]
theorem mst_10 (h:f.op=10) (hk:f.kids.length=2):mst f a o=.nd 5 0 [mst (nth f.kids 1) a o,.nd 6 0 [mst (nth f.kids 0) a o,f]]:=by
  rw [mst_eq,stO,if_neg (by omega),if_neg (by omega),if_neg (by omega),if_neg (by omega),if_neg (by omega),if_pos h,nthM (by omega),nthM (by omega)]
theorem mst_n (h: ¬(f.op=2∨f.op=3∨f.op=4∨f.op=7∨f.op=8∨f.op=9∨f.op=10)):mst f a o=.nd f.op 0 (f.kids.map fun g=>mst g a o):=by
  rw [mst_eq,stO,if_neg (by omega),if_neg (by omega),if_neg (by omega),if_neg (by omega),if_neg (by omega),if_neg (by omega)]
end
theorem okT_ (b:Bool):okF (trF b)=true∧nnf (trF b)=true∧(trF b).op≤4:=by cases b <;> exact ⟨by decide+kernel,by decide+kernel,by decide+kernel⟩
theorem nnf_nd {o:Int} {l:List Fm} (h:o≠4) (hk: ∀ x∈l,nnf x=true):nnf (.nd o 0 l)=true:=
  nnf_of fun k hl=>⟨fun e=>absurd (show o=4 from e) h,hk _ (nth_mem hl)⟩
theorem mst_ok (f:Fm) (a o:Int):okF f=true→nnf f=true→okF (mst f a o)=true∧nnf (mst f a o)=true:=by
  refine fm_ind (p:=fun f=>okF f=true→nnf f=true→okF (mst f a o)=true∧nnf (mst f a o)=true) (fun f ih hf hn=>?_) f
  obtain ⟨hr,hk⟩:=okF_parts hf
  obtain ⟨r1,r2,r3,r4,r5,r6,r7,r8,r9⟩:=rgt_ok hr
  have K: ∀ k,k < f.kids.length→okF (mst (nth f.kids k) a o)=true∧nnf (mst (nth f.kids k) a o)=true:=fun k h=>ih k h (hk k h) (nnf_kid hn h).1
  by_cases h2:f.op=2
  · rw [mst_2 h2]; exact ⟨(okT_ _).1,(okT_ _).2.1⟩
  by_cases h3:f.op=3
  · rw [mst_3 h3]; exact ⟨(okT_ _).1,(okT_ _).2.1⟩
  by_cases h4:f.op=4
  · rw [mst_4 h4]; exact ⟨(okT_ _).1,(okT_ _).2.1⟩
  by_cases h79:f.op=7∨f.op=9
  · rw [mst_79 h79]; have:=r4 (by omega); exact ⟨hk 0 (by omega),(nnf_kid hn (by omega)).1⟩
  have bin: ∀ (p q:Int),(p=6∧q=5)∨(p=5∧q=6)→f.kids.length=2→okF (.nd p 0 [mst (nth f.kids 1) a o,.nd q 0 [mst (nth f.kids 0) a o,f]])=true∧nnf (.nd p 0 [mst (nth f.kids 1) a o,.nd q 0 [mst (nth f.kids 0) a o,f]])=true:=fun p q hpq h=>by
    have k0:=K 0 (by omega)
    have k1:=K 1 (by omega)
    have i1:okF (.nd q 0 [mst (nth f.kids 0) a o,f])=true:=okF_nd (.inr (.inr ⟨by omega,by simp⟩)) (by simp [k0.1,hf])
    have i2:nnf (.nd q 0 [mst (nth f.kids 0) a o,f])=true:=nnf_nd (by omega) (by simp [k0.2,hn])
    exact ⟨okF_nd (.inr (.inr ⟨by omega,by simp⟩)) (by simp [k1.1,i1]),nnf_nd (by omega) (by simp [k1.2,i2])⟩
  by_cases h8:f.op=8
  · rw [mst_8 h8 (r6 (.inl h8))]; exact bin 6 5 (.inl ⟨rfl,rfl⟩) (r6 (.inl h8))
  by_cases h10:f.op=10
  · rw [mst_10 h10 (r6 (.inr h10))]; exact bin 5 6 (.inr ⟨rfl,rfl⟩) (r6 (.inr h10))
  rw [mst_n (by omega)]
  by_cases h1:f.op=1
  · have e:f.kids=[]:=List.length_eq_zero_iff.1 (r3 (.inl h1))
    rw [e,h1]; exact (show okF (Fm.nd 1 0 [])=true∧nnf (Fm.nd 1 0 [])=true from ⟨by decide+kernel,by decide+kernel⟩)
  · have hl:=r5 (by omega)
    refine ⟨okF_nd (.inr (.inr ⟨by omega,by simpa using hl⟩)) (List.all_eq_true.2 fun x hx=>?_),nnf_nd h4 fun x hx=>?_⟩
    · obtain ⟨y,hy,rfl⟩:=List.mem_map.1 hx
      obtain ⟨j,hj,rfl⟩:=mem_nth hy
      exact (K j hj).1
    · obtain ⟨y,hy,rfl⟩:=List.mem_map.1 hx
      obtain ⟨j,hj,rfl⟩:=mem_nth hy
      exact (K j hj).2
theorem sat_tr (t:Tr) (b:Bool) (i:Nat):sat t (trF b) i=b:=by
  cases b
  · show sat t noF i=false; rw [sat_eq]; rfl
  · show sat t yesF i=true; rw [sat_eq]; rfl
theorem sat_or2 (t:Tr) (x y:Fm) (i:Nat):sat t (.nd 6 0 [x,y]) i=(sat t x i||sat t y i):=by
  rw [sat_eq]; show List.any [sat t x,sat t y] (fun g=>g i)=_; simp
theorem sat_and2 (t:Tr) (x y:Fm) (i:Nat):sat t (.nd 5 0 [x,y]) i=(sat t x i&&sat t y i):=by
  rw [sat_eq]; show List.all [sat t x,sat t y] (fun g=>g i)=_; simp
theorem sat_mst {t:Tr} {i:Nat} (hi:i < t.ni.length) (f:Fm):okF f=true→nnf f=true→sat t (mst f (nth t.ni i) (nth t.no i)) (i+1)=sat t f i:=by
  refine fm_ind (p:=fun f=>okF f=true→nnf f=true→sat t (mst f (nth t.ni i) (nth t.no i)) (i+1)=sat t f i) (fun f ih hf hn=>?_) f
  obtain ⟨hr,hk⟩:=okF_parts hf
  obtain ⟨r1,r2,r3,r4,r5,r6,r7,r8,r9⟩:=rgt_ok hr
  have K: ∀ k,k < f.kids.length→sat t (mst (nth f.kids k) (nth t.ni i) (nth t.no i)) (i+1)=sat t (nth f.kids k) i:=fun k h=>ih k h (hk k h) (nnf_kid hn h).1
  have hd:decide (i < t.ni.length)=true:=decide_eq_true hi
  have hd':decide (¬i < t.ni.length)=false:=decide_eq_false fun q=>q hi
  by_cases h2:f.op=2
  · rw [mst_2 h2,sat_tr,sat_eq,h2]
    show _=(decide (i < t.ni.length)&&decide (nth t.ni i=f.arg))
    rw [hd,Bool.true_and]; exact decide_eq_decide.2 eq_comm
  by_cases h3:f.op=3
  · rw [mst_3 h3,sat_tr,sat_eq,h3]
    show _=(decide (i < t.ni.length)&&decide (nth t.no i=f.arg))
    rw [hd,Bool.true_and]; exact decide_eq_decide.2 eq_comm
  by_cases h4:f.op=4
  · have hl:=r4 (.inl h4)
    have h5:=(nnf_kid hn (k:=0) (by omega)).2 h4
    rw [mst_4 h4,sat_tr,sat_eq t f,h4]
    show ntB (nth f.kids 0) _ _= !(nth (f.kids.map (sat t)) 0 i)
    rw [nthM (by omega),sat_eq]
    have hr0:=rgt_ok (okF_parts (hk 0 (by omega))).1
    unfold ntB
    have e:(nth f.kids 0).op=1∨(nth f.kids 0).op=2∨(nth f.kids 0).op=3:=by omega
    rcases e with e|e|e
    · rw [e]; show decide _= !true; exact decide_eq_false (by omega)
    · rw [e]
      show decide _= !(decide (i < t.ni.length)&&decide (nth t.ni i=(nth f.kids 0).arg))
      rw [hd,Bool.true_and]
      by_cases q:nth t.ni i=(nth f.kids 0).arg
      · rw [decide_eq_true q,decide_eq_false (by rintro (⟨_,z⟩|⟨z,_⟩); exact z q.symm; omega)]; rfl
      · rw [decide_eq_false q,decide_eq_true (.inl ⟨rfl,fun z=>q z.symm⟩)]; rfl
    · rw [e]
      show decide _= !(decide (i < t.ni.length)&&decide (nth t.no i=(nth f.kids 0).arg))
      rw [hd,Bool.true_and]
      by_cases q:nth t.no i=(nth f.kids 0).arg
      · rw [decide_eq_true q,decide_eq_false (by rintro (⟨z,_⟩|⟨_,z⟩); omega; exact z q.symm)]; rfl
      · rw [decide_eq_false q,decide_eq_true (.inr ⟨rfl,fun z=>q z.symm⟩)]; rfl
  by_cases h7:f.op=7
  · have hl:=r4 (.inr (.inl h7))
    rw [mst_79 (.inl h7),sat_eq t f,h7]
    show _=(decide (i < t.ni.length)&&nth (f.kids.map (sat t)) 0 (i+1))
    rw [hd,Bool.true_and,nthM (by omega)]
  by_cases h9:f.op=9
  · have hl:=r4 (.inr (.inr h9))
    rw [mst_79 (.inr h9),sat_eq t f,h9]
    show _=(decide (¬i < t.ni.length)||nth (f.kids.map (sat t)) 0 (i+1))
    rw [hd',Bool.false_or,nthM (by omega)]
  by_cases h8:f.op=8
  · have hl:=r6 (.inl h8)
    have e1:=sat_eq t f (i+1)
    have e2:=sat_eq t f i
    rw [h8] at e1 e2
    rw [mst_8 h8 hl,sat_or2,sat_and2,K 1 (by omega),K 0 (by omega),e1,e2]
    show (_||(_&&untB (nth (f.kids.map (sat t)) 0) (nth (f.kids.map (sat t)) 1) (t.ni.length - (i+1)) (i+1)))=untB (nth (f.kids.map (sat t)) 0) (nth (f.kids.map (sat t)) 1) (t.ni.length - i) i
    rw [untB_at (n:=t.ni.length) (i:=i) (by omega),nthM (by omega),nthM (by omega),hd,Bool.true_and]
  by_cases h10:f.op=10
  · have hl:=r6 (.inr h10)
    have e1:=sat_eq t f (i+1)
    have e2:=sat_eq t f i
    rw [h10] at e1 e2
    rw [mst_10 h10 hl,sat_and2,sat_or2,K 1 (by omega),K 0 (by omega),e1,e2]
    show (_&&(_||relB (nth (f.kids.map (sat t)) 0) (nth (f.kids.map (sat t)) 1) (t.ni.length - (i+1)) (i+1)))=relB (nth (f.kids.map (sat t)) 0) (nth (f.kids.map (sat t)) 1) (t.ni.length - i) i
    rw [relB_at (n:=t.ni.length) (i:=i) (by omega),nthM (by omega),nthM (by omega),hd',Bool.false_or]
  rw [mst_n (by omega),sat_eq,sat_eq t f]
  show satO t f.op 0 ((f.kids.map fun g=>mst g (nth t.ni i) (nth t.no i)).map (sat t)) (i+1)=_
  rw [List.map_map]
  have e:f.op=1∨f.op=5∨f.op=6:=by omega
  rcases e with e|e|e
  · rw [e]; rfl
  · rw [e]; show List.all _ _=List.all _ _
    rw [List.all_map,List.all_map]; exact all_nth fun k h=>K k h
  · rw [e]; show List.any _ _=List.any _ _
    rw [List.any_map,List.any_map]; exact any_nth fun k h=>K k h
abbrev t0:Tr:=⟨[],[]⟩
theorem sat_end {t:Tr} (f:Fm):okF f=true→sat t f t.ni.length=sat t0 f 0:=by
  have far: ∀ (f:Fm),okF f=true→ ∀ i,t.ni.length≤i→sat t f i=sat t0 f 0:=by
    intro f
    refine fm_ind (p:=fun f=>okF f=true→ ∀ i,t.ni.length≤i→sat t f i=sat t0 f 0) (fun f ih hf i hi=>?_) f
    obtain ⟨hr,hk⟩:=okF_parts hf
    obtain ⟨r1,r2,r3,r4,r5,r6,r7,r8,r9⟩:=rgt_ok hr
    have K: ∀ k,k < f.kids.length→sat t (nth f.kids k) i=sat t0 (nth f.kids k) 0:=fun k h=>ih k h (hk k h) i hi
    have hd:decide (i < t.ni.length)=false:=decide_eq_false (by omega)
    have hd':decide (¬i < t.ni.length)=true:=decide_eq_true (by omega)
    rw [sat_eq,sat_eq t0]
    have e:f.op=1∨f.op=2∨f.op=3∨f.op=4∨f.op=5∨f.op=6∨f.op=7∨f.op=8∨f.op=9∨f.op=10:=by omega
    rcases e with e|e|e|e|e|e|e|e|e|e <;> rw [e]
    · rfl
    · show (decide (i < t.ni.length)&&decide (nth t.ni i=f.arg))=(decide (0 < t0.ni.length)&&decide (nth t0.ni 0=f.arg)); rw [hd]; rfl
    · show (decide (i < t.ni.length)&&decide (nth t.no i=f.arg))=(decide (0 < t0.ni.length)&&decide (nth t0.no 0=f.arg)); rw [hd]; rfl
    · have hl:=r4 (.inl e)
      show (!nth (f.kids.map (sat t)) 0 i)= !nth (f.kids.map (sat t0)) 0 0
      rw [nthM (by omega),nthM (by omega),K 0 (by omega)]
    · show List.all _ _=List.all _ _; rw [List.all_map,List.all_map]; exact all_nth fun k h=>K k h
    · show List.any _ _=List.any _ _; rw [List.any_map,List.any_map]; exact any_nth fun k h=>K k h
    · show (decide (i < t.ni.length)&&nth (f.kids.map (sat t)) 0 (i+1))=(decide (0 < t0.ni.length)&&nth (f.kids.map (sat t0)) 0 (0+1)); rw [hd]; rfl
    · have hl:=r6 (.inl e)
      show untB _ (nth (f.kids.map (sat t)) 1) (t.ni.length - i) i=nth (f.kids.map (sat t0)) 1 0
      rw [show t.ni.length - i=0 by omega,untB,nthM (by omega),nthM (by omega),K 1 (by omega)]
    · show (decide (¬i < t.ni.length)||nth (f.kids.map (sat t)) 0 (i+1))=(decide (¬0 < t0.ni.length)||nth (f.kids.map (sat t0)) 0 (0+1)); rw [hd']; rfl
    · have hl:=r6 (.inr e)
      show relB _ (nth (f.kids.map (sat t)) 1) (t.ni.length - i) i=nth (f.kids.map (sat t0)) 1 0
      rw [show t.ni.length - i=0 by omega,relB,nthM (by omega),nthM (by omega),K 1 (by omega)]
  exact fun h=>far f h _ (Nat.le_refl _)
mutual
def WD (D:Nat):Fm→Prop
  | .nd o a k=>if o=5∨o=6 then WDL D k else if o=1∨(o=4∧(nth k 0).op=1) then True else CA (.nd o a k)∧dp (.nd o a k)≤D
def WDL (D:Nat):List Fm→Prop
  |[]=>True
  |f::l=>WD D f∧WDL D l
end
theorem WDL_iff (D:Nat): ∀ l:List Fm,WDL D l↔ ∀ x∈l,WD D x
  |[]=>by rw [WDL]; simp
  |f::l=>by rw [WDL,WDL_iff D l]; simp
theorem WD_eq (D:Nat) (f:Fm):WD D f↔if f.op=5∨f.op=6 then ∀ x∈f.kids,WD D x else if f.op=1∨(f.op=4∧(nth f.kids 0).op=1) then True else CA f∧dp f≤D:=by
  cases f; rw [WD,WDL_iff]; rfl
theorem WD.atom {D:Nat} {x:Fm} (h:CA x) (hd:dp x≤D):WD D x:=by
  rw [WD_eq]
  have:=h.at_
  unfold atB at this
  rw [if_neg (by omega)]
  split
  · trivial
  · exact ⟨h,hd⟩
theorem WD.nd {D:Nat} {o:Int} {l:List Fm} (ho:o=5∨o=6) (h: ∀ x∈l,WD D x):WD D (.nd o 0 l):=by
  rw [WD_eq,if_pos (show (Fm.nd o 0 l).op=5∨(Fm.nd o 0 l).op=6 from ho)]
  exact h
theorem WD.fin {D:Nat} {s:List Cl} (ha:AllA CA s) (hd:AllA (DA D) s):WD D (fin s):=by
  have hat: ∀ c∈s,∀ x∈c,WD D x:=fun c hc x hx=>WD.atom (ha c hc x hx) (hd c hc x hx)
  have hcl: ∀ c∈s,c≠[]→WD D (clF c):=fun c hc hne=>by
    unfold clF
    split
    · rename_i q; exact hat c hc _ (nth_mem (by omega))
    · exact WD.nd (.inl rfl) (hat c hc)
  rcases fin_cases s with ⟨rfl,e⟩|⟨hm,e⟩|⟨c,hne,rfl,e⟩|⟨h2,hn,e⟩
  · rw [e,WD_eq]; show if _ then _ else _; rw [if_neg (by decide),if_pos (.inr ⟨rfl,rfl⟩)]; trivial
  · rw [e,WD_eq]; show if _ then _ else _; rw [if_neg (by decide),if_pos (.inl rfl)]; trivial
  · rw [e]; exact hcl c (List.mem_singleton.2 rfl) hne
  · rw [e]
    refine WD.nd (.inr rfl) fun x hx=>?_
    obtain ⟨c,hc,rfl⟩:=List.mem_map.1 (mem_sF.1 hx)
    exact hcl c hc fun k=>hn (k ▸ hc)
theorem wd_cls {D:Nat} (f:Fm):okF f=true→WD D f→ ∀ s,cls f=some s→AllA (DA D) s:=by
  refine fm_ind (p:=fun f=>okF f=true→WD D f→ ∀ s,cls f=some s→AllA (DA D) s) (fun f ih hf hw s hs=>?_) f
  obtain ⟨hr,hk⟩:=okF_parts hf
  rw [WD_eq] at hw
  by_cases h56:f.op=5∨f.op=6
  · rw [if_pos h56] at hw
    have K: ∀ k,k < f.kids.length→ ∀ t,cls (nth f.kids k)=some t→AllA (DA D) t:=fun k h=>ih k h (hk k h) (hw _ (nth_mem h))
    rcases h56 with h|h
    · rw [cls_5 h] at hs; exact cjL_all K all_nil1 hs
    · rw [cls_6 h] at hs; exact djL_all K all_nil0 hs
  · rw [if_neg h56] at hw
    by_cases h1:f.op=1∨(f.op=4∧(nth f.kids 0).op=1)
    · rcases h1 with h1|⟨h1,h2⟩
      · rw [cls_1 h1] at hs; cases hs; exact all_nil1
      · rw [cls_4 h1 h2] at hs; cases hs; exact all_nil0
    · rw [if_neg h1] at hw
      rw [hw.1.cls] at hs; cases hs; exact all_one1 hw.2
theorem can_WD {D:Nat} {f g:Fm} (hf:okF f=true) (hn:nnf f=true) (hw:WD D f) (h:can f=some g):WD D g∧dp g≤D+2:=by
  unfold can at h
  cases q:cls f with
  |none=>rw [q] at h; cases h
  | some s =>
    rw [q] at h
    injection h with h
    rw [← h]
    exact ⟨WD.fin (cls_CA f hf hn s q) (wd_cls f hf hw s q),dp_fin (wd_cls f hf hw s q)⟩
theorem canL_id: ∀ {l:List Fm},canL l=some l→ ∀ k,k < l.length→can (nth l k)=some (nth l k):=fun h k hk=>canL_nth h hk
theorem canon_WD {g : Fm} (h : Canon g) : WD (dp g) g := by
  have hc:=h.id
  unfold can at hc
  cases q:cls g with
  |none=>rw [q] at hc; cases hc
  | some s =>
    rw [q] at hc
    injection hc with hc
    have ca:=cls_CA g h.ok h.nn s q
    have key:AllA (DA (dp (fin s))) s:=fun c hc2 x hx=>by
      show dp x≤dp (fin s)
      have hcl:dp x≤dp (clF c):=by
        unfold clF
        split
        · rename_i q; obtain ⟨y,rfl⟩:=List.length_eq_one_iff.1 q
          rw [List.mem_singleton.1 hx]; exact Nat.le_refl _
        · rw [dp]; have:=mem_dp hx; omega
      rcases fin_cases s with ⟨e0,e⟩|⟨hm,e⟩|⟨d,hne,e0,e⟩|⟨h2,hn2,e⟩
      · rw [e0] at hc2; exact absurd hc2 List.not_mem_nil
      · have g1:=cls_good g h.ok s q
        by_cases z:c=[]
        · rw [z] at hx; exact absurd hx List.not_mem_nil
        · have:=(pw_ne g1.ant.two (fun a b q=>⟨q.2,q.1⟩) hc2 hm z).1
          rw [conB_iff.2 (fun y hy=>absurd hy List.not_mem_nil)] at this; cases this
      · rw [e0] at hc2; rw [List.mem_singleton.1 hc2] at hcl; rw [e]; exact hcl
      · rw [e,dp]
        have hm:clF c∈sF (s.map clF):=mem_sF.2 (List.mem_map.2 ⟨c,hc2,rfl⟩)
        have:=mem_dp hm
        omega
    have:=WD.fin ca key
    rw [hc] at this; exact this
theorem WD.mono {D E:Nat} (hDE:D≤E) (f:Fm):WD D f→WD E f:=by
  refine fm_ind (p:=fun f=>WD D f→WD E f) (fun f ih h=>?_) f
  rw [WD_eq] at h ⊢
  split
  · rename_i q
    rw [if_pos q] at h
    intro x hx
    obtain ⟨j,hj,rfl⟩:=mem_nth hx
    exact ih j hj (h _ hx)
  · rename_i q
    rw [if_neg q] at h
    split
    · trivial
    · rename_i q2; rw [if_neg q2] at h; exact ⟨h.1,Nat.le_trans h.2 hDE⟩
theorem WD.tr {D:Nat} (b:Bool):WD D (trF b):=by
  cases b
  · rw [WD_eq]; show if _ then _ else _; rw [if_neg (by decide),if_pos (.inr ⟨rfl,rfl⟩)]; trivial
  · rw [WD_eq]; show if _ then _ else _; rw [if_neg (by decide),if_pos (.inl rfl)]; trivial
theorem wd_mst {D:Nat} {a o:Int} (f:Fm):okF f=true→nnf f=true→WD D f→WD D (mst f a o):=by
  refine fm_ind (p:=fun f=>okF f=true→nnf f=true→WD D f→WD D (mst f a o)) (fun f ih hf hn hw=>?_) f
  obtain ⟨hr,hk⟩:=okF_parts hf
  obtain ⟨r1,r2,r3,r4,r5,r6,r7,r8,r9⟩:=rgt_ok hr
  by_cases h2:f.op=2
  · rw [mst_2 h2]; exact WD.tr _
  by_cases h3:f.op=3
  · rw [mst_3 h3]; exact WD.tr _
  by_cases h4:f.op=4
  · rw [mst_4 h4]; exact WD.tr _
  by_cases h1:f.op=1
  · rw [mst_n (by omega),List.length_eq_zero_iff.1 (r3 (.inl h1)),h1]; exact WD.tr true
  by_cases h56:f.op=5∨f.op=6
  · rw [mst_n (by omega)]
    rw [WD_eq,if_pos h56] at hw
    refine WD.nd h56 fun x hx=>?_
    obtain ⟨y,hy,rfl⟩:=List.mem_map.1 hx
    obtain ⟨j,hj,rfl⟩:=mem_nth hy
    exact ih j hj (hk j hj) (nnf_kid hn hj).1 (hw _ (nth_mem hj))
  rw [WD_eq,if_neg h56,if_neg (by omega)] at hw
  obtain ⟨ca,hd⟩:=hw
  have hc:canL f.kids=some f.kids:=by
    rcases ca.sh with h|h|h
    · omega
    · omega
    · exact h.2
  have kid: ∀ k,k < f.kids.length→WD D (nth f.kids k):=fun k h=>by
    have c:Canon (nth f.kids k):=⟨hk k h,(nnf_kid hn h).1,canL_id hc k h⟩
    have:=dp_kid h
    exact WD.mono (by omega) _ (canon_WD c)
  have bin: ∀ (p q:Int),(p=6∧q=5)∨(p=5∧q=6)→f.kids.length=2→WD D (.nd p 0 [mst (nth f.kids 1) a o,.nd q 0 [mst (nth f.kids 0) a o,f]]):=fun p q hpq h=>by
    have k0:=ih 0 (by omega) (hk 0 (by omega)) (nnf_kid hn (by omega)).1 (kid 0 (by omega))
    have k1:=ih 1 (by omega) (hk 1 (by omega)) (nnf_kid hn (by omega)).1 (kid 1 (by omega))
    refine WD.nd (by omega) fun x hx=>?_
    simp only [List.mem_cons,List.not_mem_nil,or_false] at hx
    rcases hx with rfl|rfl
    · exact k1
    · refine WD.nd (by omega) fun y hy=>?_
      simp only [List.mem_cons,List.not_mem_nil,or_false] at hy
      rcases hy with rfl|rfl
      · exact k0
      · exact WD.atom ca hd
  by_cases h79:f.op=7∨f.op=9
  · rw [mst_79 h79]; exact kid 0 (by have:=r4 (by omega); omega)
  by_cases h8:f.op=8
  · rw [mst_8 h8 (r6 (.inl h8))]; exact bin 6 5 (.inl ⟨rfl,rfl⟩) (r6 (.inl h8))
  · have h10:f.op=10:=by omega
    rw [mst_10 h10 (r6 (.inr h10))]; exact bin 5 6 (.inr ⟨rfl,rfl⟩) (r6 (.inr h10))
end Go.Proofs.YteehaobohaecmaaDoor
namespace Go.Proofs.YteehaobohaecmaaDoor
open Go
def stM (f:Fm) (a o:Int):Fm×Int:=if fval f≠0 then (zF,fval f) else if a < 0∨64≤a∨o < 0∨1048576 < o then (zF,2) else if (simp_ f).2≠0 then (zF,(simp_ f).2) else chk (mst (simp_ f).1 a o)
theorem simp_good {f g:Fm} (hv:fval f=0) (h:can (nrm f false)=some g) (hg:fval g=0):simp_ f=(g,0):=by
  unfold simp_; rw [if_neg (by omega)]; exact chk_good h hg
theorem simp_canon {g:Fm} (h:Canon g) (hg:fval g=0):simp_ g=(g,0):=simp_good hg (by rw [nrm_id g h.ok h.nn]; exact h.id) hg
structure Run (D:Nat) (g:Fm):Prop where
  c:Canon g
  v:fval g=0
  w:WD D g
theorem run_start {f : Fm} {D : Nat} (hv : fval f = 0) (hs : f.sz ≤ D) (hD : D ≤ 60) : simp_ f = (zF, 11) ∨ ∃ g, simp_ f = (g, 0) ∧ Run (D + 1) g ∧ ∀ t i, sat t g i = sat t f i := by
  have ho:=nrm_ok f (fval_ok hv) false
  have hn:=nrm_nnf f (fval_ok hv) false
  rcases simp_err hv (by omega) with h|⟨g,h1,h2,h3⟩
  · exact .inl h
  · refine .inr ⟨g,h3,⟨can_canon ho hn h1,h2,?_⟩,fun t i=>?_⟩
    · unfold can at h1
      cases q:cls (nrm f false) with
      |none=>rw [q] at h1; cases h1
      | some s =>
        rw [q] at h1
        injection h1 with h1
        have h4:=(cls_dp _ ho hn s q).1
        have h5:=nrm_wz f false
        rw [← h1]
        exact WD.fin (cls_CA _ ho hn s q) (h4.mono fun x hx=>by unfold DA at*; omega)
    · rw [can_sat ho h1,sat_nrm t f (fval_ok hv)]; simp
theorem run_step {g:Fm} {D:Nat} {a o:Int} (h:Run D g) (hD:D≤62) (ha:0≤a∧a < 64) (ho:0≤o∧o≤1048576):
    stM g a o=(zF,11)∨ ∃ g',stM g a o=(g',0)∧Run D g'∧ ∀ (t:Tr) (i:Nat),i < t.ni.length→nth t.ni i=a→nth t.no i=o→sat t g' (i+1)=sat t g i:=by
  have e:stM g a o=chk (mst g a o):=by
    unfold stM
    rw [simp_canon h.c h.v,if_neg (by have:=h.v; omega),if_neg (by omega),if_neg (by omega)]
  rw [e]
  obtain ⟨o1,n1⟩:=mst_ok g a o h.c.ok h.c.nn
  have w1:=wd_mst (a:=a) (o:=o) g h.c.ok h.c.nn h.w
  rcases chk_err o1 n1 (fun s q=>by
    have:can (mst g a o)=some (fin s):=by unfold can; rw [q]; rfl
    have:=(can_WD o1 n1 w1 this).2
    omega) with q|⟨g',q1,q2,q3⟩
  · exact .inl q
  · refine .inr ⟨g',q3,⟨can_canon o1 n1 q1,q2,(can_WD o1 n1 w1 q1).1⟩,fun t i hi e1 e2=>?_⟩
    rw [can_sat o1 q1,← e1,← e2]
    exact sat_mst hi g h.c.ok h.c.nn
section
variable {S:Fm→Bool} {o d:Int}
end
structure Ordr (f g h:Fm) (p d:Int):Prop where
  ea:(simp_ (.nd p 0 [f,g,h])).2=0∨(simp_ (.nd p 0 [f,g,h])).2=11
  eb:(simp_ (.nd p 0 [h,.nd p 0 [g,f,g]])).2=0∨(simp_ (.nd p 0 [h,.nd p 0 [g,f,g]])).2=11
  ec:(simp_ (.nd p 0 [.nd p 0 [f,h],g,.nd 4 0 [.nd 4 0 [h]]])).2=0∨(simp_ (.nd p 0 [.nd p 0 [f,h],g,.nd 4 0 [.nd 4 0 [h]]])).2=11
  ed:(simp_ (.nd p 0 [f,.nd d 0 [f,g]])).2=0∨(simp_ (.nd p 0 [f,.nd d 0 [f,g]])).2=11
  ex:(simp_ f).2=0∨(simp_ f).2=11
  all:(simp_ (.nd p 0 [f,g,h])).2=0→(simp_ (.nd p 0 [h,.nd p 0 [g,f,g]])).2=0→(simp_ (.nd p 0 [.nd p 0 [f,h],g,.nd 4 0 [.nd 4 0 [h]]])).2=0→(simp_ (.nd p 0 [f,.nd d 0 [f,g]])).2=0→(simp_ f).2=0→
    (simp_ (.nd p 0 [f,g,h])).1=(simp_ (.nd p 0 [h,.nd p 0 [g,f,g]])).1∧(simp_ (.nd p 0 [f,g,h])).1=(simp_ (.nd p 0 [.nd p 0 [f,h],g,.nd 4 0 [.nd 4 0 [h]]])).1∧(simp_ (.nd p 0 [f,.nd d 0 [f,g]])).1=(simp_ f).1
end Go.Proofs.YteehaobohaecmaaDoor
namespace Go.Proofs.YteehaobohaecmaaDoor
open Go
theorem orI3 (a b c:Int):orI [a,b,c]=cp3 a b c:=by
  unfold cp3
  simp only [orI]
  by_cases h:a=0
  · by_cases h2:b=0
    · by_cases h3:c=0 <;> simp [h,h2,h3]
    · simp [h,h2]
  · simp [h]
theorem ordF_or (f h:Fm):ordF f h=cp3 (orI [cmpI f.op h.op,cmpI f.arg h.arg,cmpI f.kids.length h.kids.length]) (ordL f.kids h.kids) 0:=by rw [ordF_eq,orI3]
theorem cmp_first {f h:Fm} (d:orI [cmpI f.op h.op,cmpI f.arg h.arg,cmpI f.kids.length h.kids.length]≠0):orI [cmpI f.op h.op,cmpI f.arg h.arg,cmpI f.kids.length h.kids.length]=ordF f h:=by
  rw [ordF_or]; unfold cp3; rw [if_pos d]
theorem cmp_zero {a b:Int} (h:cmpI a b=0):a=b:=by
  have:=cmpI_rng a b
  omega
theorem cmp_len {f h:Fm} (d: ¬orI [cmpI f.op h.op,cmpI f.arg h.arg,cmpI f.kids.length h.kids.length]≠0):f.kids.length=h.kids.length:=by
  rw [orI3] at d
  unfold cp3 at d
  have:cmpI f.kids.length h.kids.length=0:=by
    split at d
    · rename_i q; exact (d q).elim
    · split at d
      · rename_i q; exact (d q).elim
      · exact Decidable.not_not.1 d
  have:=cmp_zero this
  omega
theorem cmp_start {f h:Fm} (d: ¬orI [cmpI f.op h.op,cmpI f.arg h.arg,cmpI f.kids.length h.kids.length]≠0):ordF f h=ordL f.kids h.kids:=by
  rw [ordF_or]; unfold cp3; rw [if_neg d]
  split
  · rfl
  · rename_i q; exact (Decidable.not_not.1 q).symm
theorem end_y {f:Fm} (e:f.op=1∨f.op=9):sat t0 f 0=true:=by
  rw [sat_eq]
  rcases e with e|e <;> rw [e] <;> rfl
theorem end_4 {f:Fm} (hf:okF f=true) (e:f.op=4):sat t0 f 0= !(sat t0 (nth f.kids 0) 0):=by
  obtain ⟨hr,hk⟩:=okF_parts hf
  obtain ⟨r1,r2,r3,r4,r5,r6,r7,r8,r9⟩:=rgt_ok hr
  have hl:=r4 (.inl e)
  rw [sat_eq,e]
  show (!nth (f.kids.map (sat t0)) 0 0)=_
  rw [nthM (by omega)]
theorem end_5 {f:Fm} (e:f.op=5):sat t0 f 0=f.kids.all fun g=>sat t0 g 0:=by
  rw [sat_eq,e]; show List.all _ _=_; rw [List.all_map]; rfl
theorem end_6 {f:Fm} (e:f.op=6):sat t0 f 0=f.kids.any fun g=>sat t0 g 0:=by
  rw [sat_eq,e]; show List.any _ _=_; rw [List.any_map]; rfl
theorem end_u {f:Fm} (hf:okF f=true) (e:f.op=8∨f.op=10):sat t0 f 0=sat t0 (nth f.kids 1) 0:=by
  obtain ⟨hr,hk⟩:=okF_parts hf
  obtain ⟨r1,r2,r3,r4,r5,r6,r7,r8,r9⟩:=rgt_ok hr
  have hl:=r6 e
  rw [sat_eq]
  rcases e with e|e <;> rw [e]
  · show untB (nth (f.kids.map (sat t0)) 0) (nth (f.kids.map (sat t0)) 1) 0 0=_
    rw [untB,nthM (by omega)]
  · show relB (nth (f.kids.map (sat t0)) 0) (nth (f.kids.map (sat t0)) 1) 0 0=_
    rw [relB,nthM (by omega)]
theorem end_n {f:Fm} (hf:okF f=true) (h1: ¬(f.op=1∨f.op=9)) (h4: ¬f.op=4) (h5: ¬f.op=5) (h6: ¬f.op=6) (hu: ¬(f.op=8∨f.op=10)):sat t0 f 0=false:=by
  obtain ⟨hr,hk⟩:=okF_parts hf
  obtain ⟨r1,r2,r3,r4,r5,r6,r7,r8,r9⟩:=rgt_ok hr
  have e:f.op=2∨f.op=3∨f.op=7:=by omega
  rw [sat_eq]
  rcases e with e|e|e <;> rw [e] <;> rfl
abbrev cCl (c:Cl):List V:=[.sl (c.map cF)]
@[simp] theorem pureLL_cls (l:List Cl):pureLL (l.map cCl)=true:=pureLL_map _ _ fun a=>by simp
@[simp] theorem canonLL_cls (l:List Cl):canonLL (l.map cCl)=true:=canonLL_map _ _ fun a=>by simp
def cntP {α:Type} (p:α→Bool) (l:List α):Nat:=(l.filter p).length
theorem cntP_le {α:Type} (p:α→Bool) (l:List α):cntP p l≤l.length:=List.length_filter_le _ _
theorem cntP_take {α:Type} [Inhabited α] {p:α→Bool} {l:List α} {k:Nat} (h:k < l.length):cntP p (l.take (k+1))=cntP p (l.take k)+(if p (nth l k)=true then 1 else 0):=by
  unfold cntP
  rw [List.take_succ_eq_append_getElem h,List.filter_append,List.length_append,nth_getElem h]
  congr 1
  by_cases e:p (nth l k)=true
  · rw [if_pos e,List.filter_cons_of_pos e]; rfl
  · rw [if_neg e,List.filter_cons_of_neg e]; rfl
theorem cntP_yes {α:Type} [Inhabited α] {p:α→Bool} {l:List α} {k:Nat} (h:k < l.length) (e:p (nth l k)=true):cntP p (l.take (k+1))=cntP p (l.take k)+1:=by rw [cntP_take h,if_pos e]
theorem cntP_no {α:Type} [Inhabited α] {p:α→Bool} {l:List α} {k:Nat} (h:k < l.length) (e: ¬p (nth l k)=true):cntP p (l.take (k+1))=cntP p (l.take k):=by rw [cntP_take h,if_neg e]; rfl
theorem cntP_all {α:Type} (p:α→Bool) (l:List α):decide ((cntP p l:Int)=(l.length:Nat))=l.all p:=by
  refine bool_ext ?_
  rw [decide_eq_true_eq,List.all_eq_true]
  unfold cntP
  constructor
  · intro h x hx
    have:l.filter p=l:=List.filter_eq_self.2 fun y hy=>by
      have:=List.length_filter_eq_length_iff.1 (show (l.filter p).length=l.length by omega)
      exact this y hy
    exact List.filter_eq_self.1 this x hx
  · intro h
    rw [List.filter_eq_self.2 h]
theorem cntP_any {α:Type} (p:α→Bool) (l:List α):decide ((0:Int) < (cntP p l:Nat))=l.any p:=by
  refine bool_ext ?_
  rw [decide_eq_true_eq,List.any_eq_true]
  unfold cntP
  constructor
  · intro h
    have:0 < (l.filter p).length:=by omega
    obtain ⟨x,hx⟩:=List.exists_mem_of_length_pos this
    rw [List.mem_filter] at hx
    exact ⟨x,hx.1,hx.2⟩
  · rintro ⟨x,hx,hp⟩
    have:=List.length_pos_of_mem (List.mem_filter.2 ⟨hx,hp⟩)
    omega
theorem cntP_none {α:Type} (p:α→Bool) (l:List α):decide ((cntP p l:Int)=0)=l.all fun x=> !p x:=by
  refine bool_ext ?_
  rw [decide_eq_true_eq,List.all_eq_true]
  unfold cntP
  constructor
  · intro h x hx
    cases e:p x with
    |false=>rfl
    | true =>
      have:=List.length_pos_of_mem (List.mem_filter.2 ⟨hx,e⟩)
      omega
  · intro h
    rw [List.filter_eq_nil_iff.2 fun x hx=>by have:=h x hx; simp at this; simp [this]]
    rfl
end Go.Proofs.YteehaobohaecmaaDoor
namespace Go.Proofs.YteehaobohaecmaaDoor
open Go Go.Proofs
theorem cmpf_pure_step (f h:Fm) (ih: ∀ (g h:Fm),g.sz < f.sz→PureC Tryd.prog 49 [(V.agg [(iV (g.op)),(iV (g.arg)),(V.sl (List.map cF (g.kids)))]),(V.agg [(iV (h.op)),(iV (h.arg)),(V.sl (List.map cF (h.kids)))])] (iV (ordF g h))):PureC Tryd.prog 49 [(V.agg [(iV (f.op)),(iV (f.arg)),(V.sl (List.map cF (f.kids)))]),(V.agg [(iV (h.op)),(iV (h.arg)),(V.sl (List.map cF (h.kids)))])] (iV (ordF f h)):=by
 refine pW Tryd.func49 s49_ok fun hB=>?_
 unfold s49
 dsimp only
 refine W_r (R_box (i:=2) (n:=0) (m:=3) (cs:=[(iV (f.op)),(iV (f.arg)),(V.sl (List.map cF (f.kids)))]) rfl (congrArg Blk.ver rfl) rfl rfl rfl (R_box (i:=3) (n:=0) (m:=3) (cs:=[(iV (h.op)),(iV (h.arg)),(V.sl (List.map cF (h.kids)))]) rfl (congrArg Blk.ver rfl) rfl rfl rfl (R_mv rfl (R_e (W_seq_seq (W_r (R_fk rfl rfl ?_)))))))
 refine R_lk rfl rfl rfl rfl (R_fk rfl rfl (R_lk rfl rfl rfl rfl (R_callk (cmpint_pure ((f.op)) ((h.op))) rfl (R_fk rfl rfl (R_lk rfl rfl rfl rfl (R_fk rfl rfl (R_lk rfl rfl rfl rfl ?_)))))))
 refine R_callk (cmpint_pure ((f.arg)) ((h.arg))) rfl (R_fk rfl rfl (R_lk rfl rfl rfl rfl (R_len rfl (R_fk rfl rfl (R_lk rfl rfl rfl rfl (R_len rfl (R_callk (cmpint_pure (((f.kids.length:Nat):Int)) (((h.kids.length:Nat):Int))) rfl ?_)))))))
 refine R_bslice rfl rfl (R_callk (cmpor_pure ([(cmpI ((f.op)) ((h.op))),(cmpI ((f.arg)) ((h.arg))),(cmpI (((f.kids.length:Nat):Int)) (((h.kids.length:Nat):Int)))]) (by simp)) rfl (R_mv rfl (R_e (W_seq_seq (W_r (R_mv rfl (R_neq rfl rfl ?_)))))))
 refine R_e ?_
 refine W_seq_if rfl (fun c1=>?_) fun c1=>?_
 ·
  have d0:=c1
  refine W_seq_seq (W_r (R_mv rfl (R_mv rfl (R_e (W_seq_ret ?_)))))
  refine Ret_1 (@rfl V (iV (orI ([(cmpI ((f.op)) ((h.op))),(cmpI ((f.arg)) ((h.arg))),(cmpI (((f.kids.length:Nat):Int)) (((h.kids.length:Nat):Int)))])))) (fz_int ?_)
  · exact cmp_first d0
 have d0:=c1
 refine W_seq_skip (W_seq_seq (W_r (R_fk rfl rfl (R_lk rfl rfl rfl rfl (R_len rfl (R_mv rfl (R_e ?_)))))))
 refine W_seq_blockg fun Q2 n2 x2 y2 z2=>?_
 refine W_loop (fun mm T H=> ∃ (k:Nat),mm=f.kids.length - k∧T 2=(V.mp 2 1 0 0)∧T 3=(V.mp 3 1 0 0)∧T 32=(iV ((f.kids.length:Nat):Int))∧T 33=(iV ((k:Nat):Int))∧H 2=(bk 1 24 3 [[(iV (f.op)),(iV (f.arg)),(V.sl (List.map cF (f.kids)))]])∧H 3=(bk 1 24 3 [[(iV (h.op)),(iV (h.arg)),(V.sl (List.map cF (h.kids)))]])∧(k≤f.kids.length)∧(f.kids.length=h.kids.length)∧(ordF f h=ordL (f.kids.drop k) (h.kids.drop k))) ?_ ?_
 ·
  refine ⟨_,0,rfl,rfl,rfl,rfl,(Eq.trans (@rfl V (iV (0:Int))) rfl),rfl,rfl,?_,?_,?_⟩
  · omega
  · exact cmp_len d0
  · exact cmp_start d0
 intro mm T H ⟨k,hmm,t2,t3,t32,t33,h2,h3,hk,hl,hc⟩ Q3 p13 p23 p33
 unfold b49_0
 refine W_r (R_lss t33 t32 (R_e ?_))
 refine W_seq_if rfl (fun c4=>?_) fun c4=>?_
 ·
  refine W_seq_skip (W_seq_blockg fun Q5 n5 x5 y5 z5=>(W_r (R_mv t33 (R_mv rfl (R_e (W_r (R_fk t2 h2 ?_)))))))
  refine R_lk rfl h2 rfl rfl (R_mv rfl (R_idxu (i:=k) (@rfl V (V.sl (List.map cF (f.kids)))) (@rfl V (iV ((k:Nat):Int))) (by omega) (cF_eq _) rfl (R_load_pp rfl rfl (R_fk t3 h3 (R_lk rfl h3 rfl rfl (R_mv rfl (R_idxu (i:=k) (@rfl V (V.sl (List.map cF (h.kids)))) (@rfl V (iV ((k:Nat):Int))) (by omega) (cF_eq _) rfl ?_)))))))
  refine R_load_pp rfl rfl (R_callk (ih (((nth (f.kids) (k)))) (((nth (h.kids) (k)))) (Fm.sz_kid (by omega))) rfl (R_mv rfl (R_e (W_r (R_mv rfl (R_neq rfl rfl (R_e ?_)))))))
  refine W_if rfl (fun c6=>?_) fun c6=>?_
  ·
   have d1:ordF (nth f.kids k) (nth h.kids k)≠0:=c6
   refine W_r (R_mv rfl (R_mv rfl (R_e (W_ret (y5 _ _ (p23 _ _ (y2 _ _ ?_)))))))
   refine Ret_1 (@rfl V (iV (ordF (((nth (f.kids) (k)))) (((nth (h.kids) (k))))))) (fz_int ?_)
   · rw [hc,ordL_yes (by omega) (by omega) d1]
  have d1: ¬ordF (nth f.kids k) (nth h.kids k)≠0:=c6
  refine W_skip (n5 _ _ (.done (W_t (R_addN t33 (@rfl V (iV ((1:Nat):Int))) (by omega) (R_mv rfl (R_e ?_))))))
  refine p13 _ _ _ ?_ ⟨(k+1),rfl,t2,t3,t32,(Eq.trans (@rfl V (iV ((k+1:Nat):Int))) (by rfl)),h2,h3,?_,?_,?_⟩
  · omega
  · omega
  · omega
  · rw [hc,ordL_no (by omega) (by omega) d1]
 refine W_seq_exit (p33 _ _ _ (x2 _ _ (.done (W_r (R_mv rfl (R_e (W_ret ?_)))))))
 refine Ret_1 (@rfl V (iV (0:Int))) (fz_int ?_)
 · rw [hc,ordL_end (by omega)]
theorem cmpf_pure (f h:Fm):PureC Tryd.prog 49 [(V.agg [(iV (f.op)),(iV (f.arg)),(V.sl (List.map cF (f.kids)))]),(V.agg [(iV (h.op)),(iV (h.arg)),(V.sl (List.map cF (h.kids)))])] (iV (ordF f h)):=by
  have key: ∀ (mm:Nat) (f h:Fm),f.sz < mm→PureC Tryd.prog 49 [(V.agg [(iV (f.op)),(iV (f.arg)),(V.sl (List.map cF (f.kids)))]),(V.agg [(iV (h.op)),(iV (h.arg)),(V.sl (List.map cF (h.kids)))])] (iV (ordF f h)):=by
    intro mm
    induction mm with
    |zero=>intro f h hlt; exact absurd hlt (Nat.not_lt_zero _)
    | succ mm ih =>
      intro f h hlt
      exact cmpf_pure_step f h fun f2 h2 hlt2=>ih f2 h2 (by omega)
  exact key (f.sz+1) f h (Nat.lt_succ_self _)
end Go.Proofs.YteehaobohaecmaaDoor
namespace Go.Proofs.YteehaobohaecmaaDoor
open Go
def lbF:List Fm→Fm→Nat
  |[],_=>0
  |x::l,f=>if ordF x f < 0 then lbF l f+1 else 0
theorem lbF_le (f:Fm): ∀ l:List Fm,lbF l f≤l.length
  |[]=>Nat.le_refl _
  | x :: l => by
    rw [lbF]
    have:=lbF_le f l
    split <;> simp <;> omega
theorem lbF_iff {f:Fm}: ∀ {l:List Fm} {i:Nat},SrtF l→i < l.length→(ordF (nth l i) f < 0↔i < lbF l f)
  |[],i,_,h=>absurd h (Nat.not_lt_zero _)
  | x :: l, 0, _, _ => by
    rw [lbF]
    show ordF x f < 0↔_
    split <;> rename_i q
    · exact ⟨fun _=>Nat.succ_pos _,fun _=>q⟩
    · exact ⟨fun e=>(q e).elim,fun e=>absurd e (Nat.lt_irrefl _)⟩
  | x :: l, i + 1, hs, h => by
    have hs':=List.pairwise_cons.1 hs
    have hi:i < l.length:=by simpa using h
    have ih:=lbF_iff (f:=f) hs'.2 hi
    rw [lbF]
    show ordF (nth l i) f < 0↔_
    split <;> rename_i q
    · rw [ih]; omega
    · refine ⟨fun e=>(q (ordF_trans (hs'.1 _ (nth_mem hi)) e)).elim,fun e=>absurd e (Nat.not_lt_zero _)⟩
theorem srtF_lt {l:List Fm} (hs:SrtF l) {i j:Nat} (h:i < j) (hj:j < l.length):ordF (nth l i) (nth l j) < 0:=by
  have:=List.pairwise_iff_getElem.1 hs i j (by omega) hj h
  rwa [nth_getElem,nth_getElem] at this
theorem lbF_found {l:List Fm} (hs:SrtF l) (f:Fm):decide (lbF l f < l.length∧ordF (nth l (lbF l f)) f=0)=l.any fun y=>sameF y f:=by
  refine bool_ext ?_
  rw [decide_eq_true_eq,List.any_eq_true]
  constructor
  · rintro ⟨h1,h2⟩
    exact ⟨_,nth_mem h1,by rw [ordF_zero _ _ h2]; exact sameF_self f⟩
  · rintro ⟨y,hy,he⟩
    have:=(sameF_iff _ _).1 he
    subst this
    obtain ⟨i,hi,e⟩:=List.getElem_of_mem hy
    rw [nth_getElem hi] at e
    have h1: ¬i < lbF l y:=fun q=>by
      have:=(lbF_iff hs hi).2 q
      rw [e,ordF_self] at this; omega
    have h2: ¬lbF l y < i:=fun q=>by
      have h3:=srtF_lt hs q hi
      rw [e] at h3
      have:=(lbF_iff hs (by omega)).1 h3
      omega
    have h3:lbF l y=i:=by omega
    rw [h3,e]
    exact ⟨hi,ordF_self y⟩
theorem con_cnt (c d:Cl):decide ((cntP (fun x=> !(c.any fun y=>sameF y x)) d:Int)=0)=conB c d:=by
  rw [cntP_none]; unfold conB; congr 1; funext x; simp
theorem flt_yes {α:Type} [Inhabited α] {p:α→Bool} {l:List α} {k:Nat} (h:k < l.length) (e:p (nth l k)=true):(l.take (k+1)).filter p=(l.take k).filter p++[nth l k]:=by
  rw [take_succ_nth h,List.filter_append,List.filter_cons_of_pos e]; rfl
theorem flt_no {α:Type} [Inhabited α] {p:α→Bool} {l:List α} {k:Nat} (h:k < l.length) (e: ¬p (nth l k)=true):(l.take (k+1)).filter p=(l.take k).filter p:=by
  rw [take_succ_nth h,List.filter_append,List.filter_cons_of_neg e,List.filter_nil,List.append_nil]
theorem flt_len {α:Type} (p:α→Bool) (l:List α) (k:Nat):((l.take k).filter p).length≤l.length:=Nat.le_trans (List.length_filter_le _ _) (by rw [List.length_take]; omega)
theorem wth_old {s:List Cl} {c:Cl} (h:0 < (cntP (fun d=>conB c d) s:Int)):s=wth s c:=by
  have:=cntP_any (fun d=>conB c d) s
  rw [decide_eq_true h] at this
  unfold wth; rw [if_pos this.symm]
theorem wth_add {s:List Cl} {c:Cl} (h: ¬0 < (cntP (fun d=>conB c d) s:Int)):s.filter (fun d=> !conB d c)++[c]=wth s c:=by
  have:=cntP_any (fun d=>conB c d) s
  rw [decide_eq_false h] at this
  unfold wth; rw [if_neg (by rw [← this]; exact Bool.false_ne_true)]
theorem prC_step {out:List Cl} {c:Cl} {b:List Cl} {j:Nat} (h:j < b.length):prC out c (b.take (j+1))=wth (prC out c (b.take j)) (unF c (nth b j)):=by
  unfold prC
  rw [take_succ_nth h,List.map_append,wths_app]; rfl
theorem prd_step {a b:List Cl} {k:Nat} (h:k < a.length):prd (a.take (k+1)) b=prC (prd (a.take k) b) (nth a k) b:=by
  unfold prd
  rw [take_succ_nth h,List.foldl_append]; rfl
theorem prC_ant {out:List Cl} {c:Cl} {b:List Cl} (h:Ant out) (hc:SrtF c):Ant (prC out c b):=wths_ant h fun d hd=>by
  obtain ⟨e,_,rfl⟩:=List.mem_map.1 hd
  exact unF_srt hc
theorem prC_len (out:List Cl) (c:Cl) (b:List Cl):(prC out c b).length≤out.length+b.length:=by
  have:=wths_len (b.map (unF c)) out
  rw [List.length_map] at this
  exact this
theorem Ant.at_ {s:List Cl} (h:Ant s) {k:Nat} (hk:k < s.length):SrtF (nth s k):=h.srt _ (nth_mem hk)
def cVal (o:Option (List Cl)):List Cl:=o.getD []
def cErr {α:Type} (o:Option α):Int:=match o with
  |some _=>0
  |none=>11
def fVal (o:Option Fm):Fm:=o.getD zF
end Go.Proofs.YteehaobohaecmaaDoor
namespace Go.Proofs.YteehaobohaecmaaDoor
open Go
abbrev fdA (a b:Tr):List Int:=a.no.take (cmn a.ni b.ni)
abbrev fdB (a b:Tr):List Int:=b.no.take (cmn a.ni b.ni)
def fd (a b:Tr):List (List Int):=if cmn (fdA a b) (fdB a b) < min (fdA a b).length (fdB a b).length then [a.ni.take (difn (fdA a b) (fdB a b)+1)] else []
theorem OK.same {o:Ob} (ok:OK o) {s t:Tr} (hs:s∈o.tr) (ht:t∈o.tr) {j:Nat} (hj:j < cmn s.ni t.ni):nth s.no j=nth t.no j:=by
  obtain ⟨a,ha,rfl⟩:=mem_nth hs
  obtain ⟨b,hb,rfl⟩:=mem_nth ht
  have key: ∀ a b,a < b→b < o.tr.length→ ∀ j,j < cmn (nth o.tr a).ni (nth o.tr b).ni→nth (nth o.tr a).no j=nth (nth o.tr b).no j:=by
    intro a b hab hb j hj
    by_cases e:nth (nth o.tr a).no j=nth (nth o.tr b).no j
    · exact e
    · have h1:=ok.cla a b hab hb
      have h2:=df_iff.2 ⟨j,hj,e⟩
      omega
  by_cases e:a=b
  · subst e; rfl
  · by_cases h:a < b
    · exact key a b h hb j hj
    · rw [cmn_comm] at hj
      exact (key b a (by omega) ha j hj).symm
def Ap (o:Ob) (u v x:List Int):Prop:=
  x≠[]∧ ∃ s∈o.tr,∃ t∈o.tr,hp s.ni (u++x)=true∧hp t.ni (v++x)=true∧nth s.no (u.length+x.length - 1)≠nth t.no (v.length+x.length - 1)
theorem Ap.symm {o:Ob} {u v x:List Int} (h:Ap o u v x):Ap o v u x:=by
  obtain ⟨h1,s,hs,t,ht,h2,h3,h4⟩:=h
  exact ⟨h1,t,ht,s,hs,h3,h2,fun e=>h4 e.symm⟩
structure Covers (o:Ob) (u v:List Int) (l:List (List Int)):Prop where
  sound: ∀ x∈l,Ap o u v x
  full: ∀ x,Ap o u v x→ ∃ y∈l,slx y x≤0
theorem Covers.swap {o:Ob} {u v:List Int} {l:List (List Int)} (h:Covers o u v l):Covers o v u l:=
  ⟨fun x hx=>(h.sound x hx).symm,fun x hx=>h.full x hx.symm⟩
end Go.Proofs.YteehaobohaecmaaDoor
namespace Go.Proofs.YteehaobohaecmaaDoor
open Go.Sort
def plP (w u:List Int):Bool:=decide (slx u w < 0)
def plN (l:List (List Int)) (w:List Int):Nat:=(l.takeWhile (plP w)).length
def wiH (l:List (List Int)) (w:List Int):Prop:=plN l w < l.length∧nth l (plN l w)=w
instance (l:List (List Int)) (w:List Int):Decidable (wiH l w):=inferInstanceAs (Decidable (_∧_))
theorem set_app_drop {α:Type} {a l:List α} {x:α} (h:a.length < l.length):(a++l.drop a.length).set a.length x=a++[x]++l.drop (a.length+1):=by
  rw [List.drop_eq_getElem_cons h]
  rw [List.set_append_right _ _ (Nat.le_refl _),Nat.sub_self,List.set_cons_zero]; simp
end Go.Proofs.YteehaobohaecmaaDoor
namespace Go.Proofs.YteehaobohaecmaaDoor
open Go
instance:DecidableEq Fm:=fun a b=>decidable_of_iff (sameF a b=true) (sameF_iff a b)
def dfK (L:List Fm):Nat→List Fm
  |0=>[]
  |j+1=>if j=0∨nth L j≠nth L (j - 1) then dfK L j++[nth L j] else dfK L j
def dfL (L:List Fm) (j:Nat):List Fm:=dfK L j++L.drop (dfK L j).length
theorem dfK_le (L:List Fm): ∀ j,(dfK L j).length≤j
  |0=>Nat.le_refl _
  | j + 1 => by
    have:=dfK_le L j
    simp only [dfK]; split <;> simp <;> omega
theorem dfL_len {L:List Fm} {j:Nat} (h:j≤L.length):(dfL L j).length=L.length:=by
  have:=dfK_le L j
  unfold dfL; rw [List.length_append,List.length_drop]; omega
theorem dfL_nth {L:List Fm} {j k:Nat} (h:(dfK L j).length≤k):nth (dfL L j) k=nth L k:=by
  unfold dfL
  have e:nth (dfK L j++L.drop (dfK L j).length) ((dfK L j).length+(k - (dfK L j).length))=nth (L.drop (dfK L j).length) (k - (dfK L j).length):=nth_app_r
  rw [nth_dropn] at e
  rw [show (dfK L j).length+(k - (dfK L j).length)=k by omega] at e
  exact e
theorem dfK_keep {L:List Fm} {j:Nat} (h:j=0∨nth L j≠nth L (j - 1)):dfK L (j+1)=dfK L j++[nth L j]:=if_pos h
theorem dfK_skip {L:List Fm} {j:Nat} (h: ¬(j=0∨nth L j≠nth L (j - 1))):dfK L (j+1)=dfK L j:=if_neg h
theorem dfL_skip {L:List Fm} {j:Nat} (h: ¬(j=0∨nth L j≠nth L (j - 1))):dfL L (j+1)=dfL L j:=by unfold dfL; rw [dfK_skip h]
theorem dfL_keep {L:List Fm} {j:Nat} (hj:j < L.length) (h:j=0∨nth L j≠nth L (j - 1)):(dfL L j).set (dfK L j).length (nth L j)=dfL L (j+1):=by
  have:=dfK_le L j
  unfold dfL
  rw [dfK_keep h,set_app_drop (by omega)]
  simp
theorem dfK_all {L:List Fm}: ∀ {j:Nat},j≤L.length→(∀ i,1≤i→i < j→nth L i≠nth L (i - 1))→dfK L j=L.take j
  |0,_,_=>by simp [dfK]
  | j + 1, hj, h => by
    rw [dfK_keep (by by_cases e:j=0; exact .inl e; exact .inr (h j (by omega) (by omega))),dfK_all (by omega) fun i h1 h2=>h i h1 (by omega),take_succ_nth (by omega)]
theorem dfK_mem {L : List Fm} : ∀ {j : Nat}, j ≤ L.length → ∀ u, u ∈ dfK L j ↔ u ∈ L.take j
  |0,_,u=>by simp [dfK]
  | j + 1, hj, u => by
    have ih:=dfK_mem (L:=L) (j:=j) (by omega) u
    rw [take_succ_nth (by omega),List.mem_append,List.mem_singleton]
    by_cases h:j=0∨nth L j≠nth L (j - 1)
    · rw [dfK_keep h,List.mem_append,List.mem_singleton,ih]
    · rw [dfK_skip h,ih]
      refine ⟨.inl,fun q=>q.elim id fun e=>?_⟩
      have e2:nth L j=nth L (j - 1):=by
        by_cases e3:nth L j=nth L (j - 1)
        · exact e3
        · exact (h (.inr e3)).elim
      have:nth (L.take j) (j - 1)=u:=by rw [nth_take (by omega),← e2,e]
      rw [← this]
      exact nth_mem (by rw [List.length_take]; omega)
theorem df_all {l:List Fm} (h: ∀ i,1≤i→i < l.length→nth l i≠nth l (i - 1)):dfK l l.length=l:=by
  rw [dfK_all (Nat.le_refl _) h,List.take_length]
theorem df_start {l:List Fm} {k:Nat} (h1:1≤k) (hk:k < l.length) (h: ∀ i,1≤i→i < k→nth l i≠nth l (i - 1)) (he:nth l k=nth l (k - 1)):(dfK l (k+1)).length=k∧dfL l (k+1)=l:=by
  have e1:dfK l (k+1)=l.take k:=by
    rw [dfK_skip (by rintro (q|q); omega; exact q he),dfK_all (by omega) h]
  have e2:(l.take k).length=k:=by simp; omega
  refine ⟨by rw [e1,e2],?_⟩
  unfold dfL; rw [e1,e2,List.take_append_drop]
theorem df_pos {l:List Fm}: ∀ {j:Nat},0 < j→0 < (dfK l j).length
  |1,_=>by rw [show (1:Nat)=0+1 from rfl,dfK_keep (.inl rfl)]; simp
  | j + 2, _ => by
    have:=df_pos (l:=l) (j:=j+1) (by omega)
    simp only [dfK] at this ⊢
    split
    · rw [List.length_append]; omega
    · exact this
theorem df_at {l:List Fm} {k j:Nat} (h:(dfK l (k+j)).length < k+j) (hj:1≤j):
    nth (dfL l (k+j)) (0+k+j)=nth l (k+j)∧nth (dfL l (k+j)) (0+k+(((j:Nat):Int) - (1:Int)).toNat)=nth l (k+j - 1):=by
  refine ⟨(dfL_nth (by omega)).trans (by congr 1; omega),(dfL_nth (by omega)).trans (by congr 1; omega)⟩
theorem df_take {l:List Fm} {j:Nat} (h:l.length≤j) (hj:j≤l.length):(dfL l j).take (dfK l j).length=dfK l l.length:=by
  have:j=l.length:=by omega
  subst this
  unfold dfL; rw [List.take_left]
theorem ord_zero_of {f g:Fm} (h1: ¬ordF f g < 0) (h2: ¬ordF g f < 0):f=g:=by
  have:=ordF_swap f g
  exact ordF_zero f g (by omega)
theorem dfK_srt {L : List Fm} (hs : L.Pairwise fun a b => ¬ordF b a < 0) : ∀ {j : Nat}, j ≤ L.length → SrtF (dfK L j)
  |0,_=>List.Pairwise.nil
  | j + 1, hj => by
    have ih:=dfK_srt hs (j:=j) (by omega)
    by_cases h:j=0∨nth L j≠nth L (j - 1)
    · rw [dfK_keep h]
      show List.Pairwise _ _
      rw [List.pairwise_append]
      refine ⟨ih,by simp,fun a ha b hb=>?_⟩
      rw [List.mem_singleton.1 hb]
      have ha':=(dfK_mem (L:=L) (by omega) a).1 ha
      obtain ⟨i,hi,rfl⟩:=mem_nth ha'
      rw [List.length_take] at hi
      rw [nth_take (by omega)]
      have le: ∀ p q,p < q→q < L.length→ ¬ordF (nth L q) (nth L p) < 0:=fun p q h1 h2=>by
        have:=(List.pairwise_iff_getElem.1 hs) p q (by omega) h2 h1
        rwa [nth_getElem,nth_getElem] at this
      have h1:=le i j (by omega) (by omega)
      by_cases e:ordF (nth L i) (nth L j) < 0
      · exact e
      · exfalso
        have heq:nth L i=nth L j:=ord_zero_of e h1
        have h2:=le (j - 1) j (by omega) (by omega)
        have h4:nth L j=nth L (j - 1):=by
          by_cases ei:i=j - 1
          · rw [← heq,ei]
          · have h3:=le i (j - 1) (by omega) (by omega)
            rw [heq] at h3
            exact ord_zero_of h2 h3
        rcases h with h|h
        · omega
        · exact h h4
    · rw [dfK_skip h]; exact ih
theorem un_srt {c d:Cl} (hc:SrtF c):dfK (srt ordF (c++d)) (srt ordF (c++d)).length=unF c d:=by
  refine srtF_uniq (dfK_srt (srt_sorted ordF_swo _) (Nat.le_refl _)) (unF_srt hc) fun x=>?_
  rw [dfK_mem (Nat.le_refl _),List.take_length,(srt_perm ordF _).mem_iff,List.mem_append,mem_unF]
def catF (l:List Cl):Cl:=l.flatten
theorem catF_take {l:List Cl} {k:Nat} (h:k < l.length):catF (l.take (k+1))=catF (l.take k)++nth l k:=by
  unfold catF; rw [take_succ_nth h,List.flatten_append]; simp
theorem catF_le {l:List Cl} {k:Nat} (h:k < l.length):(catF (l.take k)).length+(nth l k).length≤(catF l).length:=by
  have e:catF l=catF (l.take (k+1))++catF (l.drop (k+1)):=by unfold catF; rw [← List.flatten_append,List.take_append_drop]
  rw [e,catF_take h]; simp
theorem catF2 (c d:Cl):catF [c,d]=c++d:=by simp [catF]
end Go.Proofs.YteehaobohaecmaaDoor
namespace Go.Proofs.YteehaobohaecmaaDoor
open Go
abbrev CLen (n:Nat) (s:List Cl):Prop:= ∀ c∈s,c.length≤n
theorem CLen.at_ {n:Nat} {s:List Cl} (h:CLen n s) {k:Nat} (hk:k < s.length):(nth s k).length≤n:=h _ (nth_mem hk)
theorem prC_clen {n:Nat} {out:List Cl} {c:Cl} {b:List Cl} (ho:CLen n out) (hb: ∀ e∈b,c.length+e.length≤n):CLen n (prC out c b):=fun d hd=>by
  rcases mem_wths hd with h|h
  · exact ho d h
  · obtain ⟨e,he,rfl⟩:=List.mem_map.1 h
    exact Nat.le_trans (unF_len e c) (hb e he)
theorem prd_clen {n:Nat} {a b:List Cl} (h: ∀ c∈a,∀ e∈b,c.length+e.length≤n):CLen n (prd a b):=fun d hd=>by
  obtain ⟨c,hc,e,he,rfl⟩:=mem_prd hd
  exact Nat.le_trans (unF_len e c) (h c hc e he)
theorem prd_len (a b:List Cl):(prd a b).length≤a.length*b.length:=by
  have h:(prdF [] a b).length≤_:=prdF_len b a []
  rw [List.length_nil,Nat.zero_add] at h
  exact h
theorem prd_len2 {a b:List Cl} {k:Nat} (na:a.length≤64) (nb:b.length≤65536) (hk:k≤a.length):(prd (a.take k) b).length≤4194304:=by
  have h1:=prd_len (a.take k) b
  have h2:(a.take k).length≤64:=by rw [List.length_take]; omega
  exact Nat.le_trans h1 (Nat.le_trans (Nat.mul_le_mul h2 nb) (by decide))
theorem prdT_ant {a b:List Cl} (ha: ∀ k,k < a.length→SrtF (nth a k)) (k:Nat):Ant (prd (a.take k) b):=prdF_ant Ant.nil fun c hc=>by
  obtain ⟨i,hi,rfl⟩:=mem_nth (List.mem_of_mem_take hc)
  exact ha i hi
theorem prdT_clen {n m:Nat} {a b:List Cl} (la: ∀ k,k < a.length→(nth a k).length≤n) (lb: ∀ k,k < b.length→(nth b k).length≤m) (k:Nat):CLen (n+m) (prd (a.take k) b):=prd_clen fun c hc e he=>by
  obtain ⟨i,hi,rfl⟩:=mem_nth (List.mem_of_mem_take hc)
  obtain ⟨j,hj,rfl⟩:=mem_nth he
  have:=la i hi; have:=lb j hj
  omega
theorem prCT_clen {n m:Nat} {out:List Cl} {c:Cl} {b:List Cl} (ho:CLen (n+m) out) (hc:c.length≤n) (lb: ∀ k,k < b.length→(nth b k).length≤m) (j:Nat):CLen (n+m) (prC out c (b.take j)):=prC_clen ho fun e he=>by
  obtain ⟨i,hi,rfl⟩:=mem_nth (List.mem_of_mem_take he)
  have:=lb i hi
  omega
end Go.Proofs.YteehaobohaecmaaDoor
namespace Go.Proofs.YteehaobohaecmaaDoor
open Go
theorem CLen.mono {n m:Nat} {s:List Cl} (h:CLen n s) (hm:n≤m):CLen m s:=fun c hc=>Nat.le_trans (h c hc) hm
theorem djL_clen: ∀ {l:List Fm} {n:Nat} {out s:List Cl},(∀ k,k < l.length→ ∀ t,cls (nth l k)=some t→CLen n t)→CLen n out→djL l out=some s→CLen n s
  | [], n, out, s, _, h1, h => by
    rw [djL] at h
    split at h
    · cases h
    · cases h; exact h1
  | f :: l, n, out, s, hk, h1, h => by
    rw [djL] at h
    cases q:cls f with
    |none=>rw [q] at h; cases h
    | some t =>
      rw [q] at h
      refine djL_clen (fun k hl t ht=>hk (k+1) (by simpa using hl) t ht) (fun c hc=>?_) h
      rcases mem_wths hc with h2|h2
      · exact h1 c h2
      · exact hk 0 (by simp) t q c h2
theorem cjL_clen : ∀ {l : List Fm} {n : Nat} {out s : List Cl}, (∀ k, k < l.length → ∀ t, cls (nth l k) = some t → CLen (nth l k).sz t) → CLen n out → cjL l out = some s → CLen (n + Fm.szs l) s
  |[],n,out,s,_,h1,h=>by rw [cjL] at h; cases h; exact h1.mono (Nat.le_add_right _ _)
  | f :: l, n, out, s, hk, h1, h => by
    rw [cjL] at h
    cases q:cls f with
    |none=>rw [q] at h; cases h
    | some t =>
      rw [q] at h
      simp only at h
      split at h
      · cases h
      · have h0:CLen f.sz t:=hk 0 (by simp) t q
        have h2:CLen (n+f.sz) (prd out t):=prd_clen fun c hc e he=>by
          have:=h1 c hc; have:=h0 e he; omega
        have:=cjL_clen (fun k hl t ht=>hk (k+1) (by simpa using hl) t ht) h2 h
        rw [Fm.szs]
        exact this.mono (by omega)
theorem Fm.sz_eq (f:Fm):f.sz=Fm.szs f.kids+1:=by cases f; rfl
theorem Fm.sz_pos (f:Fm):1≤f.sz:=by rw [Fm.sz_eq]; omega
theorem clen_one {n:Nat} {x:Fm} (h:1≤n):CLen n [[x]]:=fun c hc=>by rw [List.mem_singleton.1 hc]; exact h
theorem cls_clen (f:Fm): ∀ s,cls f=some s→CLen f.sz s:=by
  refine fm_ind (p:=fun f=> ∀ s,cls f=some s→CLen f.sz s) (fun f ih s h=>?_) f
  have hp:=f.sz_pos
  rw [cls_eq] at h
  split at h
  · cases h; exact fun c hc=>by rw [List.mem_singleton.1 hc]; exact Nat.zero_le _
  split at h
  · split at h
    · cases h; exact fun c hc=>absurd hc List.not_mem_nil
    · cases h; exact clen_one hp
  split at h
  · cases h; exact clen_one hp
  split at h
  · exact djL_clen (fun k hk t ht=>(ih k hk t ht).mono (Nat.le_of_lt (Fm.sz_kid hk))) (fun c hc=>absurd hc List.not_mem_nil) h
  split at h
  · have:=cjL_clen (n:=0) (fun k hk t ht=>ih k hk t ht) (fun c hc=>by rw [List.mem_singleton.1 hc]; exact Nat.le_refl 0) h
    rw [Fm.sz_eq]
    exact this.mono (by omega)
  · split at h
    · cases h
    · cases h; exact clen_one hp
theorem mstL_szs (a o:Int) (l:List Fm) (h: ∀ k,k < l.length→(mst (nth l k) a o).sz≤(nth l k).sz*(nth l k).sz*4):Fm.szs (l.map fun f=>mst f a o)≤Fm.szs l*Fm.szs l*4:=by
  induction l with
  |nil=>exact Nat.le_refl _
  | cons f l ih =>
    have h0:(mst f a o).sz≤f.sz*f.sz*4:=h 0 (by simp)
    have h1:=ih fun k hk=>h (k+1) (by simpa using hk)
    simp only [List.map_cons,Fm.szs]
    have:(f.sz+Fm.szs l)*(f.sz+Fm.szs l)*4=f.sz*f.sz*4+Fm.szs l*Fm.szs l*4+f.sz*Fm.szs l*8:=by
      rw [Nat.add_mul,Nat.mul_add,Nat.mul_add,Nat.mul_comm (Fm.szs l) f.sz]; omega
    omega
theorem sq_le {a b:Nat} (h:a≤b):a*a≤b*b:=Nat.mul_le_mul h h
theorem mst_sz (f:Fm) (a o:Int):okF f=true→(mst f a o).sz≤f.sz*f.sz*4:=by
  refine fm_ind (p:=fun f=>okF f=true→(mst f a o).sz≤f.sz*f.sz*4) (fun f ih hf=>?_) f
  obtain ⟨hr,hk⟩:=okF_parts hf
  obtain ⟨r1,r2,r3,r4,r5,r6,r7,r8,r9⟩:=rgt_ok hr
  have hp:=f.sz_pos
  have hq:f.sz≤f.sz*f.sz:=Nat.le_mul_of_pos_left _ hp
  have ht: ∀ b,(trF b).sz≤f.sz*f.sz*4:=fun b=>by
    have:(trF b).sz≤2:=by cases b <;> decide
    omega
  have K: ∀ k,k < f.kids.length→(mst (nth f.kids k) a o).sz≤(nth f.kids k).sz*(nth f.kids k).sz*4:=fun k h=>ih k h (hk k h)
  have two:f.kids.length=2→(mst (nth f.kids 1) a o).sz+(mst (nth f.kids 0) a o).sz+f.sz+2≤f.sz*f.sz*4:=fun h2=>by
    have k0:=K 0 (by omega)
    have k1:=K 1 (by omega)
    have e:f.sz=(nth f.kids 0).sz+(nth f.kids 1).sz+1:=by
      rw [Fm.sz_eq]
      match f.kids,h2 with
      |[x,y],_=>simp [Fm.szs,nth_zero,nth_succ]
    have p0:=(nth f.kids 0).sz_pos
    have p1:=(nth f.kids 1).sz_pos
    rw [e]
    generalize (nth f.kids 0).sz=u at*
    generalize (nth f.kids 1).sz=v at*
    have:(u+v+1)*(u+v+1)*4=u*u*4+v*v*4+u*v*8+u*8+v*8+4:=by
      simp only [Nat.add_mul,Nat.mul_add,Nat.mul_one,Nat.one_mul]
      rw [Nat.mul_comm v u]; omega
    omega
  by_cases h2:f.op=2
  · rw [mst_2 h2]; exact ht _
  by_cases h3:f.op=3
  · rw [mst_3 h3]; exact ht _
  by_cases h4:f.op=4
  · rw [mst_4 h4]; exact ht _
  by_cases h79:f.op=7∨f.op=9
  · rw [mst_79 h79]
    have:=Fm.sz_kid (f:=f) (k:=0) (by have:=r4 (by omega); omega)
    omega
  by_cases h8:f.op=8
  · rw [mst_8 h8 (r6 (.inl h8))]
    have:=two (r6 (.inl h8))
    simp only [Fm.sz,Fm.szs]; omega
  by_cases h10:f.op=10
  · rw [mst_10 h10 (r6 (.inr h10))]
    have:=two (r6 (.inr h10))
    simp only [Fm.sz,Fm.szs]; omega
  rw [mst_n (by omega)]
  have h:=mstL_szs a o f.kids K
  have e:=f.sz_eq
  simp only [Fm.sz]
  rw [e]
  generalize Fm.szs f.kids=u at*
  have:(u+1)*(u+1)*4=u*u*4+u*8+4:=by
    simp only [Nat.add_mul,Nat.mul_add,Nat.mul_one,Nat.one_mul]; omega
  omega
end Go.Proofs.YteehaobohaecmaaDoor
namespace Go.Proofs.YteehaobohaecmaaDoor
open Go
theorem cE_no {α:Type} {o:Option α} (h: ¬cErr o≠0): ∃ s,o=some s:=by
  cases o with
  |none=>exact (h (show (11:Int)≠0 by decide)).elim
  |some s=>exact ⟨s,rfl⟩
theorem cE_yes {α:Type} {o:Option α} (h:cErr o≠0):o=none:=by
  cases o with
  |none=>rfl
  |some s=>exact (h rfl).elim
theorem cV_some {o:Option (List Cl)} (h: ¬cErr o≠0):o=some (cVal o):=by
  obtain ⟨s,rfl⟩:=cE_no h; rfl
theorem wths_step {out z:List Cl} {j:Nat} (h:j < z.length):wths out (z.take (j+1))=wth (wths out (z.take j)) (nth z j):=by
  rw [take_succ_nth h,wths_app]; rfl
theorem wthsT_len (out z:List Cl) (j:Nat):(wths out (z.take j)).length≤out.length+z.length:=by
  have:=wths_len (z.take j) out
  rw [List.length_take] at this
  omega
theorem wthsT_ant {out z:List Cl} (ho:Ant out) (hz:Ant z) (j:Nat):Ant (wths out (z.take j)):=wths_ant ho fun c hc=>hz.srt c (List.mem_of_mem_take hc)
theorem wthsT_clen {n:Nat} {out z:List Cl} (ho:CLen n out) (hz:CLen n z) (j:Nat):CLen n (wths out (z.take j)):=fun c hc=>by
  rcases mem_wths hc with h|h
  · exact ho c h
  · exact hz c (List.mem_of_mem_take h)
theorem kid_cl {l:List Fm} {k:Nat} (hk:k < l.length) (hok:okF (nth l k)=true) (h: ¬cErr (cls (nth l k))≠0):GdS (cVal (cls (nth l k)))∧CLen (Fm.szs l) (cVal (cls (nth l k)))∧CLen (nth l k).sz (cVal (cls (nth l k))):=
  ⟨cls_good _ hok _ (cV_some h),(cls_clen _ _ (cV_some h)).mono (Fm.szs_nth hk),cls_clen _ _ (cV_some h)⟩
theorem lim_yes {n:Nat} (h:(if 64 < n then (11:Int) else 0)≠0):64 < n:=by
  by_cases q:64 < n
  · exact q
  · rw [if_neg q] at h; exact (h rfl).elim
theorem lim_no {n:Nat} (h: ¬(if 64 < n then (11:Int) else 0)≠0): ¬64 < n:=fun q=>by
  rw [if_pos q] at h; exact h (by decide)
theorem szs_take {l:List Fm} {k:Nat} (h:k < l.length):Fm.szs (l.take (k+1))=Fm.szs (l.take k)+(nth l k).sz:=by
  have app: ∀ a b:List Fm,Fm.szs (a++b)=Fm.szs a+Fm.szs b:=fun a b=>by
    induction a with
    |nil=>simp [Fm.szs]
    |cons x a ih=>simp only [List.cons_append,Fm.szs,ih]; omega
  rw [take_succ_nth h,app]; simp [Fm.szs]
theorem szs_take_le: ∀ (l:List Fm) (k:Nat),Fm.szs (l.take k)≤Fm.szs l
  |[],k=>by simp
  |f::l,0=>by simp [Fm.szs]
  | f :: l, k + 1 => by
    have:=szs_take_le l k
    simp only [List.take_succ_cons,Fm.szs]; omega
theorem cj_good {out z:List Cl} (ho:GdS out) (hz:GdS z) (h: ¬64 < (prd out z).length):GdS (prd out z):=⟨prd_ant ho.ant,AllA.prd ho.at_ hz.at_,by omega⟩
theorem cj_clen {l:List Fm} {k:Nat} {out z:List Cl} (hk:k < l.length) (ho:CLen (Fm.szs (l.take k)) out) (hz:CLen (nth l k).sz z):CLen (Fm.szs (l.take (k+1))) (prd out z):=by
  rw [szs_take hk]
  exact prd_clen fun c hc e he=>Nat.add_le_add (ho c hc) (hz e he)
end Go.Proofs.YteehaobohaecmaaDoor
namespace Go.Proofs.YteehaobohaecmaaDoor
open Go
section
variable {f:Fm} {s:List Cl} {k:Nat} {c:Cl}
theorem can_no (h:cErr (cls f)≠0):can f=none:=by unfold can; rw [cE_yes h]; rfl
theorem can_some (h: ¬cErr (cls f)≠0):can f=some (fin (cVal (cls f))):=by
  have q:=cV_some h
  unfold can; rw [q]; rfl
theorem fin_0 (h:s.length=0):fin s=noF:=if_pos h
theorem fin_y (hk:k < s.length) (h:(nth s k).length=0):fin s=yesF:=by
  unfold fin
  rw [if_neg (by omega),if_pos (List.any_eq_true.2 ⟨_,nth_mem hk,decide_eq_true h⟩)]
theorem fin_any (hn: ∀ i,i < s.length→(nth s i).length≠0): ¬s.any (fun c=>decide (c.length=0))=true:=fun q=>by
  obtain ⟨c,hc,e⟩:=List.any_eq_true.1 q
  obtain ⟨i,hi,rfl⟩:=mem_nth hc
  exact hn i hi (of_decide_eq_true e)
theorem fin_1 (hn: ∀ i,i < s.length→(nth s i).length≠0) (h1:s.length=1):fin s=nth (s.map clF) 0:=by
  unfold fin
  rw [if_neg (by omega),if_neg (fin_any hn),if_pos h1,nthM (by omega)]
theorem fin_n (hn: ∀ i,i < s.length→(nth s i).length≠0) (h0:s.length≠0) (h1:s.length≠1):fin s=.nd 6 0 (srt ordF (s.map clF)):=by
  unfold fin
  rw [if_neg h0,if_neg (fin_any hn),if_neg h1]
theorem clF_1 (h:c.length=1):clF c=nth c 0:=if_pos h
theorem clF_n (h:c.length≠1):clF c=.nd 5 0 c:=if_neg h
theorem clM_1 (hk:k < s.length) (h:(nth s k).length=1):(s.take (k+1)).map clF=(s.take k).map clF++[nth (nth s k) 0]:=by
  rw [mapTake hk,clF_1 h]
theorem clM_n (hk:k < s.length) (h:(nth s k).length≠1):(s.take (k+1)).map clF=(s.take k).map clF++[.nd 5 0 (nth s k)]:=by
  rw [mapTake hk,clF_n h]
end
theorem CallOK_len {P:Program} {f id ver n m:Nat} {rest:List V} {H:Heap} {v:V} {H':Heap} (h:CallOK P f (.ms id ver 0 n::rest) H v H') (e:m=n):CallOK P f (.ms id ver 0 m::rest) H v H':=e ▸ h
mutual
theorem nrm_sz: ∀ (f:Fm) (b:Bool),(nrm f b).sz≤2*f.sz
  | .nd o a [], b => by
    rw [nrm]
    have h:(Fm.nd o a []).sz=1:=by rw [Fm.sz,Fm.szs]
    split
    · simp [Fm.sz,Fm.szs]
    · split <;> simp [Fm.sz,Fm.szs]
  | .nd o a (f :: l), b => by
    have h1:=nrm_sz f b
    have h2:=nrm_sz f (!b)
    have h3:=nrmL_sz l b
    rw [nrm]
    split
    · rw [Fm.sz,Fm.szs]; omega
    · rw [Fm.sz,Fm.szs,Fm.sz,Fm.szs]
      omega
theorem nrmL_sz: ∀ (l:List Fm) (b:Bool),Fm.szs (nrmL l b)≤2*Fm.szs l
  |[],_=>by rw [nrmL,Fm.szs]; omega
  | f :: l, b => by
    have h1:=nrm_sz f b
    have h2:=nrmL_sz l b
    rw [nrmL,Fm.szs,Fm.szs]; omega
end
section
variable {f:Fm} {a o:Int} {k:Nat} {g:List Fm}
theorem can_err (h: ¬cErr (can f)≠0):can f=some (fVal (can f)):=by
  obtain ⟨s,e⟩:=cE_no h
  rw [e]; rfl
theorem chk_e (h:cErr (can f)≠0):chk f=(zF,cErr (can f)):=by
  rw [chk_none (cE_yes h),cE_yes h]; rfl
theorem chk_b (h: ¬cErr (can f)≠0) (h2:fval (fVal (can f))≠0):chk f=(zF,fval (fVal (can f))):=chk_bad (can_err h) h2
theorem chk_g (h: ¬cErr (can f)≠0) (h2: ¬fval (fVal (can f))≠0):chk f=(fVal (can f),0):=chk_good (can_err h) (by omega)
theorem simp_e (h:fval f≠0):simp_ f=(zF,fval f):=if_pos h
theorem simp_g (h: ¬fval f≠0):simp_ f=chk (nrm f false):=if_neg h
theorem stM_e (h:fval f≠0):stM f a o=(zF,fval f):=if_pos h
theorem stM_r (h: ¬fval f≠0) (h2:a < 0∨64≤a∨o < 0∨1048576 < o):stM f a o=(zF,2):=by unfold stM; rw [if_neg h,if_pos h2]
theorem stM_s (h: ¬fval f≠0) (h2: ¬(a < 0∨64≤a∨o < 0∨1048576 < o)) (h3:(simp_ f).2≠0):stM f a o=(zF,(simp_ f).2):=by unfold stM; rw [if_neg h,if_neg h2,if_pos h3]
theorem stM_g (h: ¬fval f≠0) (h2: ¬(a < 0∨64≤a∨o < 0∨1048576 < o)) (h3: ¬(simp_ f).2≠0):stM f a o=chk (mst (simp_ f).1 a o):=by unfold stM; rw [if_neg h,if_neg h2,if_neg h3]
theorem simp_val (h: ¬(simp_ f).2≠0):fval (simp_ f).1=0:=by
  unfold simp_ at h ⊢
  by_cases q:fval f≠0
  · rw [if_pos q] at h; exact absurd q h
  · rw [if_neg q] at h ⊢
    unfold chk at h ⊢
    split
    · rename_i e; rw [e] at h; exact absurd (by decide) h
    · rename_i g e
      rw [e] at h
      simp only at h
      split
      · rename_i q2; rw [if_pos q2] at h; exact absurd q2 h
      · rename_i q2; exact Decidable.of_not_not q2
theorem cls_tno (ho: ¬(f.op=1∨f.op=2∨f.op=3∨f.op=4∨f.op=5∨f.op=6)) (hc:canL f.kids=(canL (f.kids.drop k)).map fun r=>g++r) (hk:k < f.kids.length) (h:cErr (can (nth f.kids k))≠0):cls f=none:=by
  rw [cls_t ho,hc,canL_no hk (cE_yes h)]; rfl
theorem cls_tgo (hc:canL f.kids=(canL (f.kids.drop k)).map fun r=>g++r) (hk:k < f.kids.length) (h: ¬cErr (can (nth f.kids k))≠0):canL f.kids=(canL (f.kids.drop (k+1))).map fun r=>(g++[fVal (can (nth f.kids k))])++r:=by
  rw [hc,canL_go hk (can_err h)]
  cases canL (f.kids.drop (k+1)) <;> simp
theorem cls_tend (ho: ¬(f.op=1∨f.op=2∨f.op=3∨f.op=4∨f.op=5∨f.op=6)) (hc:canL f.kids=(canL (f.kids.drop k)).map fun r=>g++r) (hk:f.kids.length≤k):cls f=some [[.nd f.op 0 g]]:=by
  rw [cls_t ho,hc,canL_end hk]; simp
theorem simp_nn (h0: ¬fval f≠0) (h: ¬(simp_ f).2≠0):okF (simp_ f).1=true∧nnf (simp_ f).1=true:=by
  have ho:=nrm_ok f (fval_ok (by omega)) false
  have hn:=nrm_nnf f (fval_ok (by omega)) false
  rw [simp_g h0] at h ⊢
  by_cases q:cErr (can (nrm f false))≠0
  · rw [chk_e q] at h; exact absurd q h
  · by_cases q2:fval (fVal (can (nrm f false)))≠0
    · rw [chk_b q q2] at h; exact absurd q2 h
    · rw [chk_g q q2]
      have c:=can_canon ho hn (can_err q)
      exact ⟨c.ok,c.nn⟩
theorem mst_sz2 (ho:okF f=true) (hz:f.sz≤4096):(mst f a o).sz≤268435456:=by
  have h:=mst_sz f a o ho
  have h2:=sq_le hz
  omega
end
end Go.Proofs.YteehaobohaecmaaDoor
namespace Go.Proofs.YteehaobohaecmaaDoor
open Go Go.Sort Go.Proofs Go.Shelf
theorem R.pure_same {x y:Cx} {v:V} {c:Value} (h:R x v c) (hp:v.pure=true) (hw: ∀ b,x.Z b→y.w.heap[b]?=x.w.heap[b]?) (hz: ∀ b,x.Z b→y.Z b):R y v c:=by
  have keep: ∀ a:Addr,x.Z a.block→ ∀ n,y.w.cell? (a.add n)=x.w.cell? (a.add n):=fun a ha n=>by
    refine cell_of_heap ?_
    rw [addr_add_block]; exact hw _ ha
  induction h with
  |int k n=>exact .int k n
  |bool b=>exact .bool b
  |str s=>exact .str s
  |nilsl=>exact .nilsl
  |slnil=>exact .slnil
  | sl rows a cap sz cs hc hm hzz hsz hcell _ ih =>
    simp only [V.pure] at hp
    refine .sl rows a cap sz cs hc hm (fun hne=>hz _ (hzz hne)) hsz (fun r row j v hr hj=>by rw [keep a (hzz (by intro e; subst e; simp at hr))]; exact hcell r row j v hr hj) fun r row j v hr hj=>ih r row j v hr hj ?_
    exact pureL_iff.1 (pureLL_iff.1 hp row (List.mem_of_getElem? hr)) v (List.mem_of_getElem? hj)
  |ms=>simp [V.pure] at hp
  | pp cells a cs hzz hcell _ ih =>
    simp only [V.pure] at hp
    exact .pp cells a cs (fun hne=>hz _ (hzz hne)) (fun j v hj=>by rw [keep a (hzz (by intro e; subst e; simp at hj))]; exact hcell j v hj) fun j v hj=>ih j v hj (pureL_iff.1 hp v (List.mem_of_getElem? hj))
  |nilp=>exact .nilp
  |mp=>simp [V.pure] at hp
  | agg cells cs hs _ ih =>
    simp only [V.pure] at hp
    exact .agg cells cs hs fun j v hj=>ih j v hj (pureL_iff.1 hp v (List.mem_of_getElem? hj))
  | tup vs cs hs _ ih =>
    simp only [V.pure] at hp
    exact .tup vs cs hs fun j v hj=>ih j v hj (pureL_iff.1 hp v (List.mem_of_getElem? hj))
  | fn f first caps fs cs hfs hcs _ _ ih1 ih2 =>
    simp only [V.pure,Bool.and_eq_true] at hp
    exact .fn f first caps fs cs hfs hcs (fun j v hj=>ih1 j v hj (pureL_iff.1 hp.1 v (List.mem_of_getElem? hj))) fun j v hj=>ih2 j v hj (pureL_iff.1 hp.2 v (List.mem_of_getElem? hj))
  |raw c hh=>exact .raw c hh
  |mm=>simp [V.pure] at hp
theorem step_grow {x:Cx} (hx:Inv x) (os:Array Obj):let y:Cx:={x with w:=Go.Sort.grow x.w os}; Inv y∧Frame x y:=by
  intro y
  have hp: ∀ b,b < x.w.heap.size→y.w.heap[b]?=x.w.heap[b]?:=fun b hb=>by
    show (x.w.heap++os)[b]?=_
    rw [Array.getElem?_append,if_pos hb]
  have hs:x.w.heap.size≤y.w.heap.size:=by show _≤(x.w.heap++os).size; simp
  have hf:Frame x y:=by
    refine ⟨rfl,rfl,rfl,hs,fun b hb _=>hp b hb,fun _ h=>h,fun b h=>.inl h,fun id=>⟨Nat.le_refl _,fun h _=>⟨h,rfl,rfl,fun _=>rfl,fun h=>⟨rfl,?_⟩⟩⟩,fun _ h=>.inl ⟨h,rfl⟩,Nat.le_refl _,fun _ _ _=>rfl⟩
    unfold rowSize; rw [hp _ (hx.lt h)]
  refine ⟨⟨fun b h=>Nat.lt_of_lt_of_le (hx.zlt b h) hs,hx.zown,fun id hl=>?_,hx.inj,hx.tab_of hf⟩,hf⟩
  obtain ⟨cc,h1,h2,h3,h4⟩:=hx.blk id hl
  exact ⟨cc,by rw [hp _ (hx.lt hl)]; exact h1,h2,h3,fun r row j v hr hj=>(h4 r row j v hr hj).frame hx hf⟩
def SortSpec (P : Program) (f k : Nat) : Prop := ∀ {α : Type} [Inhabited α] (enc : α → List Value) (_ : ∀ x, (enc x).length = k) (_ : ∀ x, ∀ v ∈ enc x, v.oneCell' = true) (cf : α → α → Int) (_ : SWO (ltOf cf)) (g : Nat) (cb : Array Value) (blk off cap : Nat) (d : Array α) (w : World)
    (_: ∀ args w,(callFunc g args).run P w=.ok (.enter g args) w) (_:CmpLays P g cb enc k cf blk off d.size w) (_:HoldsK enc k w blk off d) (_:blk < w.heap.size) (_:d.size < 4611686018427387904),
    Calls P f #[.slice (some ⟨blk,off,none⟩) d.size cap,.func (.func g) #[] cb] w fun e w'=>
      e=.returned (.tuple #[])∧ ∃ d' n os,PermIn 0 d.size d d'∧SortedIn (ltOf cf) 0 d.size d'∧w'=sortWorldK enc k w blk off n d' os
def SortNone (P:Program) (f:Nat):Prop:= ∀ (p:Option Addr) (cap:Nat) (fv:Value) (w:World),Calls P f #[.slice p 0 cap,fv] w fun e w'=>e=.returned (.tuple #[])∧w'=w
theorem enters_callable {P:Program} {g:Nat} (h:callable P g): ∀ args w,(callFunc g args).run P w=.ok (.enter g args) w:=by
  obtain ⟨fn,h1,h2,h3⟩:=h
  obtain ⟨c,hc⟩:=Option.isSome_iff_exists.1 h2
  exact enters_of h1 h3 hc
theorem grown_of_frame {z y:Cx} (hf:Frame z y) (hno: ∀ id,(z.H id).own=false): ∃ q os,y.w=grow (z.w.drewN q) os:=by
  refine ⟨y.w.drawn - z.w.drawn,y.w.heap.extract z.w.heap.size y.w.heap.size,?_⟩
  have e1:=hf.os; have e2:=hf.tape; have e3:=hf.output; have e4:=hf.drawn; have e5:=hf.size
  have e6:y.w.heap=z.w.heap++y.w.heap.extract z.w.heap.size y.w.heap.size:=by
    refine Array.ext_getElem? fun b=>?_
    rw [Array.getElem?_append]
    split
    · rename_i hb
      exact hf.keep b hb fun id h=>by rw [hno id] at h; cases h
    · rename_i hb
      rw [Array.getElem?_extract]
      by_cases h:b < y.w.heap.size
      · rw [if_pos (by omega)]; congr 1; omega
      · rw [if_neg (by omega),Array.getElem?_eq_none (by omega)]
  have e7:y.w.drawn=z.w.drawn+(y.w.drawn - z.w.drawn):=by omega
  unfold grow World.drewN
  cases hy:y.w with
  | mk heap tape drawn os output =>
    rw [hy] at e1 e2 e3 e6 e7
    simp only at e1 e2 e3 e6 e7 ⊢
    rw [← e6,← e7,e1,e2,e3]
section
variable {P:Program} {α:Type} [Inhabited α] {enc:α→List Value} {k:Nat} {w:World} {blk off m:Nat} {dk:Array α} {os:Array Obj}
theorem sortWorld_other {b:Nat} (hb:b < w.heap.size) (hne:b≠blk):(sortWorldK enc k w blk off m dk os).heap[b]?=w.heap[b]?:=by
  unfold sortWorldK grow putRowK putRow mapBlock Sort.ahead
  simp only
  rw [Array.getElem?_append,if_pos (by simpa using hb),Array.getElem?_modify,if_neg (Ne.symm hne)]
theorem sortWorld_size:w.heap.size≤(sortWorldK enc k w blk off m dk os).heap.size:=by
  unfold sortWorldK grow putRowK putRow mapBlock Sort.ahead
  simp
theorem sortWorld_eq {cc:Array Value} {ty:TypeId} (h:w.heap[blk]?=some (.cells cc ty (0,0))):
    sortWorldK enc k w blk off m dk os=grow {w.setRow blk (putCells id off (flatK enc k dk) cc) with drawn:=w.drawn+m} os:=by
  unfold sortWorldK putRowK putRow mapBlock Sort.ahead World.setRow
  congr 2
  refine Array.ext_getElem? fun b=>?_
  simp only [Array.getElem?_modify]
  by_cases e:blk=b
  · subst e
    simp only [if_true,h,Option.map_some,onCells]
  · simp only [if_neg e]
end
theorem nth_set_eq {α:Type} [Inhabited α] (d:Array α) (i:Nat) (h:i < d.size):d[i]! =nth d.toList i:=by
  rw [getElem!_pos d i h,← nth_getElem (by simpa using h)]; rfl
section
variable {P:Program}
theorem CallOK_sort {f g k:Nat} (hS:SortSpec P f k) (hN:SortNone P f) (hcf:callable P f) (hcg:callable P g) {T:Type} [Inhabited T] {f0:T→List V} {l:List T} {cmp:T→T→Int}
    (hO:SWO fun a b=>decide (cmp a b < 0)) (hT: ∀ a∈l,∀ b∈l,¬cmp a b < 0→ ¬cmp b a < 0→a=b)
    (hc: ∀ a∈l,∀ b∈l,PureC P g [.agg (f0 a),.agg (f0 b)] (iV (cmp a b))) (hp: ∀ a∈l,pureL (f0 a)=true) (h1: ∀ a∈l,(f0 a).all V.one=true) (hk: ∀ a,(f0 a).length=k)
    (hl:l.length < 4611686018427387904) {id ver ty:Nat} {lz:Bool} {H:Heap} (hH:H id=⟨ver,true,lz,ty,k,l.map f0⟩):
    CallOK P f [.ms id ver 0 l.length,.fn g [] []] H (.tup []) (upd H id ⟨ver,true,lz,ty,k,(srt cmp l).map f0⟩):=by
  refine ⟨hcf,fun x cs hxH hx hr=>?_⟩
  subst hxH
  obtain ⟨c0,c1,rfl⟩: ∃ c0 c1,cs=[c0,c1]:=by
    have:=hr.1
    match cs with
    |[a,b]=>exact ⟨a,b,rfl⟩
    |[]=>simp at this
    |[_]=>simp at this
    |_::_::_::_=>simp at this
  have r0:R x (.ms id ver 0 l.length) c0:=hr.2 0 _ rfl
  have r1:R x (.fn g [] []) c1:=hr.2 1 _ rfl
  cases r1 with
  |fn _ _ _ fs cb hfs hcs _ _=>
  have hfs':fs=#[]:=Array.eq_empty_of_size_eq_zero (by simpa using hfs)
  have hcs':cb=#[]:=Array.eq_empty_of_size_eq_zero (by simpa using hcs)
  subst hfs'; subst hcs'
  cases r0 with
  |ms _ _ _ _ b n cap hv hh hm=>
  obtain ⟨e1,e2,e3,e4,e5,e6⟩:=hh (by rw [hH]) (by rw [hH])
  subst e1
  by_cases hne:l=[]
  · subst hne
    refine (hN b cap (.func (.func g) #[] #[]) x.w).mono fun e w' h=>?_
    obtain ⟨rfl,rfl⟩:=h
    refine ⟨_,x,rfl,rfl,?_,hx,.tup [] #[] rfl (fun j v hj=>by simp at hj),Frame.refl x⟩
    funext j
    by_cases e:j=id
    · subst e; rw [upd_same,hH]; rfl
    · rw [upd_ne _ _ e]
  have hpos:0 < l.length:=List.length_pos_iff.2 hne
  have ho:(x.H id).own=true:=by
    rw [hH]
    cases l with
    |nil=>exact (hne rfl).elim
    |cons a l=>simp [Blk.own]
  obtain ⟨e7,_⟩:=e5 ho
  rw [hH] at e7
  simp only [Nat.zero_mul] at e7
  subst e7
  obtain ⟨cc,b1,b2,b3,b4⟩:=hx.cel id ho (hm (by rw [hH]) (by rw [hH]))
  simp only [hH] at b1 b2 b3 b4
  rw [List.length_map] at b3
  let A:Type:={i:Nat // i < l.length}
  haveI:Inhabited A:=⟨⟨0,hpos⟩⟩
  let enc:A→List Value:=fun i=>(List.range k).map fun j=>cc.getD (i.1*k+j) undef
  let cf:A→A→Int:=fun a b=>cmp (nth l a.1) (nth l b.1)
  let d:Array A:=Array.ofFn fun i:Fin l.length=>(⟨i.1,i.2⟩:A)
  have hdn:d.size=l.length:=by simp [d]
  have hdi: ∀ i (h:i < l.length),d[i]! =⟨i,h⟩:=fun i h=>by
    rw [getElem!_pos d i (by rw [hdn]; exact h)]; simp [d]
  have hek: ∀ a,(enc a).length=k:=fun a=>by simp [enc]
  have hej: ∀ (a:A) (j:Nat),j < k→(enc a)[j]?=some (cc.getD (a.1*k+j) undef):=fun a j hj=>by simp [enc,hj]
  have hrow: ∀ i,i < l.length→(l.map f0)[i]?=some (f0 (nth l i)):=fun i hi=>by rw [List.getElem?_map,nth_eq hi]; rfl
  have hRx: ∀ (a:A) (j:Nat) (v:V),(f0 (nth l a.1))[j]?=some v→R x v (cc.getD (a.1*k+j) undef):=fun a j v hj=>b4 a.1 _ j v (hrow a.1 a.2) hj
  have hcell: ∀ (a:A) (j:Nat),j < k→a.1*k+j < cc.size:=fun a j hj=>by
    have:(a.1+1)*k≤l.length*k:=Nat.mul_le_mul_right k a.2
    rw [Nat.add_mul,Nat.one_mul] at this
    omega
  have hO':SWO (ltOf cf):=⟨fun a=>hO.irrefl _,fun a b c=>hO.trans _ _ _,fun a b c=>hO.ntrans _ _ _⟩
  have hcmp:CmpLays P g #[] enc k cf (x.σ id) 0 d.size x.w:=by
    intro m os dk hdk a b
    let W:=sortWorldK enc k x.w (x.σ id) 0 m dk os
    let z:Cx:=start {x with w:=W} x.Z
    have hz:Inv z:=start_ok (fun b hb=>Nat.lt_of_lt_of_le (hx.zlt b hb) sortWorld_size) fun p hp=>⟨(hx.tab p hp).1,by
      obtain ⟨q1,q2⟩:=hx.tab p hp
      show ∃ ty m,W.heap[p.1]?=_
      rw [show W.heap[p.1]?=x.w.heap[p.1]? from sortWorld_other (hx.zlt _ q1) fun e=>hx.zown _ id q1 ho e.symm]; exact q2⟩
    have hag: ∀ a:A,R z (.agg (f0 (nth l a.1))) (.agg (enc a).toArray):=fun a=>by
      refine .agg _ _ (by simp [hek,hk]) fun j v hj=>?_
      have hjk:j < k:=by rw [← hk (nth l a.1)]; exact (List.getElem?_eq_some_iff.1 hj).1
      have h:=hRx a j v hj
      have hg:(enc a).toArray.getD j undef=cc.getD (a.1*k+j) undef:=by
        rw [Array.getD_eq_getD_getElem?,List.getElem?_toArray,hej a j hjk]; rfl
      rw [hg]
      refine h.pure_same (y:=z) (pureL_iff.1 (hp _ (nth_mem a.2)) v (List.mem_of_getElem? hj)) (fun b hb=>?_) fun _ h=>h
      exact sortWorld_other (hx.zlt b hb) fun e=>hx.zown b id hb ho e.symm
    have hrl:RL z [.agg (f0 (nth l a.1)),.agg (f0 (nth l b.1))] [.agg (enc a).toArray,.agg (enc b).toArray]:=by
      refine ⟨rfl,fun j v hj=>?_⟩
      match j,hj with
      |0,hj=>simp at hj; subst hj; exact hag a
      |1,hj=>simp at hj; subst hj; exact hag b
    refine ((hc _ (nth_mem a.2) _ (nth_mem b.2) H0).2 z _ rfl hz hrl).mono fun e w' h=>?_
    obtain ⟨c,y,rfl,rfl,_,_,h5,h6⟩:=h
    cases h5
    obtain ⟨q,os',hq⟩:=grown_of_frame h6 fun id=>rfl
    exact ⟨rfl,q,os',hq⟩
  have hsz:d.size < 4611686018427387904:=by rw [hdn]; exact hl
  have hH':HoldsK enc k x.w (x.σ id) 0 d:=by
    intro j hj
    rw [size_flatK,hdn] at hj
    have hk0:0 < k:=Nat.pos_of_ne_zero fun e=>by subst e; simp at hj
    have hdv:j / k < l.length:=(Nat.div_lt_iff_lt_mul hk0).2 hj
    have hmd:j % k < k:=Nat.mod_lt _ hk0
    have e:(flatK enc k d)[j]! =cc.getD j undef:=by
      rw [get_flatK _ _ _ _ (by rw [hdn]; exact hj),hdi _ hdv]
      have h:=hej ⟨j / k,hdv⟩ (j % k) hmd
      rw [List.getElem!_eq_getElem?_getD,h]
      simp only [Option.getD_some]
      rw [Nat.div_add_mod' j k]
    have hjc:j < cc.size:=by omega
    refine ⟨?_,?_⟩
    · rw [e,Nat.zero_add]; exact own_cell b1 hjc
    · simp [World.frozen?,b1]
  have hcall:=hS enc hek (fun a v hv=>by
      obtain ⟨j,hj⟩:=List.getElem?_of_mem hv
      have hjk:j < k:=by rw [← hek a]; exact (List.getElem?_eq_some_iff.1 hj).1
      rw [hej a j hjk] at hj
      cases hj
      have hu: ∃ u,(f0 (nth l a.1))[j]?=some u:=⟨_,List.getElem?_eq_getElem (by rw [hk]; exact hjk)⟩
      obtain ⟨u,hu⟩:=hu
      exact (hRx a j u hu).one (List.all_eq_true.1 (h1 _ (nth_mem a.2)) u (List.mem_of_getElem? hu))) cf hO' g #[] (x.σ id) 0 cap d x.w (enters_callable hcg) hcmp hH' (hx.lt ho) hsz
  rw [hdn] at hcall
  refine hcall.mono fun e w' h=>?_
  obtain ⟨rfl,d',n',os',hP,hSo,rfl⟩:=h
  obtain ⟨p1,_,p3⟩:=hP
  rw [hdn] at p1
  have x1:d'.extract 0 l.length=d':=by rw [← p1]; simp
  have x2:d.extract 0 l.length=d:=by rw [← hdn]; simp
  rw [x1,x2] at p3
  have hmap:d.toList.map (fun a:A=>nth l a.1)=l:=by
    refine nth_ext (by simp [hdn]) fun j hj=>?_
    have hj':j < l.length:=by simpa [hdn] using hj
    rw [nth_map (by simpa using hj),← nth_set_eq d j (by rw [hdn]; exact hj'),hdi j hj']
  have hl':d'.toList.map (fun a:A=>nth l a.1)=srt cmp l:=by
    have hperm:(d'.toList.map (fun a:A=>nth l a.1)).Perm l:=by
      have:=p3.map (fun a:A=>nth l a.1)
      rwa [hmap] at this
    refine sorted_uniq (le:=fun a b=> ¬cmp b a < 0) (fun a ha b hb h1 h2=>hT a (hperm.mem_iff.1 ha) b (hperm.mem_iff.1 hb) h2 h1) (hperm.trans (srt_perm cmp l).symm) ?_ (srt_sorted hO l)
    rw [List.pairwise_map,List.pairwise_iff_getElem]
    intro i j hi hj hij
    have h:=hSo i j (Nat.zero_le _) hij (by rw [← p1]; simpa using hj)
    rw [nth_set_eq d' i (by simpa using hi),nth_set_eq d' j (by simpa using hj),← nth_getElem hi,← nth_getElem hj] at h
    simpa [ltOf,cf] using h
  let cc':=putCells _root_.id 0 (flatK enc k d') cc
  have hcs:cc'.size=cc.size:=by simp [cc',putCells]
  have hg: ∀ r j,r < l.length→j < k→ ∀ (hr:r < d'.size),cc'.getD (r*k+j) undef=cc.getD ((d'[r]'hr).1*k+j) undef:=by
    intro r j hr hj hr'
    have hb:r*k+j < l.length*k:=by
      have:(r+1)*k≤l.length*k:=Nat.mul_le_mul_right k hr
      rw [Nat.add_mul,Nat.one_mul] at this; omega
    have hsz':(flatK enc k d').size=l.length*k:=by rw [size_flatK,p1]
    have e:cc'[r*k+j]?=some ((flatK enc k d')[r*k+j]!):=by
      simp only [cc',putCells,Array.getElem?_mapIdx]
      rw [Array.getElem?_eq_getElem (by omega)]
      simp [hsz',hb]
    rw [Array.getD_eq_getD_getElem?,e,get_flatK _ _ _ _ (by rw [p1]; exact hb)]
    have q1:(r*k+j) / k=r:=by rw [Nat.mul_comm,Nat.mul_add_div (by omega),Nat.div_eq_of_lt hj]; rfl
    have q2:(r*k+j) % k=j:=by rw [Nat.mul_comm,Nat.mul_add_mod]; exact Nat.mod_eq_of_lt hj
    rw [q1,q2,getElem!_pos d' r hr',List.getElem!_eq_getElem?_getD,hej _ j hj]
    rfl
  have hrows: ∀ (r:Nat) (row:List V) (j:Nat) (v:V),((srt cmp l).map f0)[r]?=some row→row[j]?=some v→R x v (cc'.getD (r*k+j) undef):=by
    intro r row j v hr hj
    rw [← hl',List.map_map,List.getElem?_map] at hr
    obtain ⟨a,ha,rfl⟩:=map_some hr
    have har:=List.getElem?_eq_some_iff.1 ha
    obtain ⟨hlt,hae⟩:=har
    have hlt':r < d'.size:=by simpa using hlt
    have hjk:j < k:=by rw [← hk (nth l a.1)]; exact (List.getElem?_eq_some_iff.1 hj).1
    rw [hg r j (by omega) hjk hlt']
    have hae':d'[r]'hlt'=a:=by simpa using hae
    rw [hae']
    exact hRx a j v hj
  have st:=step_set hx id ho cc cc' (by rw [hH]; exact b1) hcs (x.H id).ver ((srt cmp l).map f0) (Nat.le_refl _) (fun _=>by rw [hH]; simp [srt_len]) (by
      rw [hH]
      have:(srt cmp l).length=l.length:=by simp [srt_len]
      cases hq:srt cmp l with
      |nil=>rw [hq] at this; simp at this; omega
      |cons a q=>simp) (fun r hr=>by
      rw [hH]
      obtain ⟨a,_,rfl⟩:=List.mem_map.1 hr
      exact hk a) (by rw [hH]; simpa [srt_len] using b3) (by simp only [hH]; exact hrows)
  simp only [hH] at st
  obtain ⟨i1,f1⟩:=st
  obtain ⟨i2,f2⟩:=step_draw i1 (x.w.drawn+n') (Nat.le_add_right _ _)
  obtain ⟨i3,f3⟩:=step_grow i2 os'
  refine ⟨.tuple #[],_,rfl,?_,?_,i3,.tup [] #[] rfl (fun j v hj=>by simp at hj),(f1.trans f2).trans f3⟩
  · rw [sortWorld_eq b1]
  · rfl
end
end Go.Proofs.YteehaobohaecmaaDoor
namespace Go.Proofs.YteehaobohaecmaaDoor
open Go Go.Proofs Go.Shelf Go.Sort
def sortRen48:Go.Shelf.Ren:=⟨fun|6=>48|15=>56|14=>55|28=>71|29=>72|20=>63|21=>64|22=>65|23=>66|24=>67|25=>68|26=>69|27=>70|46=>82|47=>83|48=>84|49=>85|50=>86|57=>97|n=>n,fun|22=>22|24=>24|25=>88|3=>3|39=>94|0=>0|53=>109|55=>111|4=>4|46=>103|45=>102|50=>65|5=>5|9=>9|66=>119|70=>123|76=>132|77=>61|n=>n,fun n=>n⟩
theorem sortLay48:SlLaysF0.n6 Tryd.prog sortRen48:={
  mixed:=(by kernel_rfl),
  f6:=⟨Tryd.f48.name,by decide,Tryd.func48.trans (congrArg some (by kernel_rfl))⟩,
  f14:=⟨Tryd.f55.name,by decide,Tryd.func55.trans (congrArg some (by kernel_rfl))⟩,
  f15:=Tryd.func56.trans (congrArg some (by kernel_rfl)),
  f20:=⟨Tryd.f63.name,by decide,Tryd.func63.trans (congrArg some (by kernel_rfl))⟩,
  f21:=⟨Tryd.f64.name,by decide,Tryd.func64.trans (congrArg some (by kernel_rfl))⟩,
  f22:=⟨Tryd.f65.name,by decide,Tryd.func65.trans (congrArg some (by kernel_rfl))⟩,
  f23:=⟨Tryd.f66.name,by decide,Tryd.func66.trans (congrArg some (by kernel_rfl))⟩,
  f24:=⟨Tryd.f67.name,by decide,Tryd.func67.trans (congrArg some (by kernel_rfl))⟩,
  f25:=⟨Tryd.f68.name,by decide,Tryd.func68.trans (congrArg some (by kernel_rfl))⟩,
  f26:=⟨Tryd.f69.name,by decide,Tryd.func69.trans (congrArg some (by kernel_rfl))⟩,
  f27:=⟨Tryd.f70.name,by decide,Tryd.func70.trans (congrArg some (by kernel_rfl))⟩,
  f28:=Tryd.func71.trans (congrArg some (by kernel_rfl)),
  f29:=Tryd.func72.trans (congrArg some (by kernel_rfl)),
  f46:=⟨Tryd.f82.name,by decide,Tryd.func82.trans (congrArg some (by kernel_rfl))⟩,
  f47:=Tryd.func83.trans (congrArg some (by kernel_rfl)),
  f48:=Tryd.func84.trans (congrArg some (by kernel_rfl)),
  f49:=⟨Tryd.f85.name,by decide,Tryd.func85.trans (congrArg some (by kernel_rfl))⟩,
  f50:=⟨Tryd.f86.name,by decide,Tryd.func86.trans (congrArg some (by kernel_rfl))⟩,
  f57:=⟨Tryd.f97.name,by decide,Tryd.func97.trans (congrArg some (by kernel_rfl))⟩,
  t0:=Tryd.underlying0,
  a0:=Tryd.isAgg0,
  z0:=Tryd.sizeOf0,
  v0:=Tryd.zeroValue0,
  t3:=Tryd.underlying3,
  a3:=Tryd.isAgg3,
  z3:=Tryd.sizeOf3,
  v3:=Tryd.zeroValue3,
  t4:=Tryd.underlying4,
  a4:=Tryd.isAgg4,
  z4:=Tryd.sizeOf4,
  v4:=Tryd.zeroValue4,
  t5:=Tryd.underlying5,
  a5:=Tryd.isAgg5,
  z5:=Tryd.sizeOf5,
  v5:=Tryd.zeroValue5,
  t9:=Tryd.underlying9,
  a9:=Tryd.isAgg9,
  z9:=Tryd.sizeOf9,
  v9:=Tryd.zeroValue9,
  t22:=Tryd.underlying22,
  a22:=Tryd.isAgg22,
  z22:=Tryd.sizeOf22,
  v22:=Tryd.zeroValue22,
  t25:=Tryd.underlying88,
  a25:=Tryd.isAgg88,
  z25:=Tryd.sizeOf88,
  v25:=Tryd.zeroValue88,
  t39:=Tryd.underlying94,
  a39:=Tryd.isAgg94,
  z39:=Tryd.sizeOf94,
  v39:=Tryd.zeroValue94,
  t45:=Tryd.underlying102,
  a45:=Tryd.isAgg102,
  z45:=Tryd.sizeOf102,
  v45:=Tryd.zeroValue102,
  t46:=Tryd.underlying103,
  a46:=Tryd.isAgg103,
  z46:=Tryd.sizeOf103,
  v46:=Tryd.zeroValue103,
  t50:=Tryd.underlying65,
  a50:=Tryd.isAgg65,
  z50:=Tryd.sizeOf65,
  v50:=Tryd.zeroValue65,
  t53:=Tryd.underlying109,
  a53:=Tryd.isAgg109,
  z53:=Tryd.sizeOf109,
  v53:=Tryd.zeroValue109,
  t55:=Tryd.underlying111,
  a55:=Tryd.isAgg111,
  z55:=Tryd.sizeOf111,
  v55:=Tryd.zeroValue111,
  t66:=Tryd.underlying119,
  a66:=Tryd.isAgg119,
  z66:=Tryd.sizeOf119,
  v66:=Tryd.zeroValue119,
  t70:=Tryd.underlying123,
  a70:=Tryd.isAgg123,
  z70:=Tryd.sizeOf123,
  v70:=Tryd.zeroValue123,
  t76:=Tryd.underlying132,
  a76:=Tryd.isAgg132,
  z76:=Tryd.sizeOf132,
  v76:=Tryd.zeroValue132,
  t77:=Tryd.underlying61,
  a77:=Tryd.isAgg61,
  z77:=Tryd.sizeOf61,
  v77:=Tryd.zeroValue61}
theorem sortSpec48:SortSpec Tryd.prog 48 3:=fun enc hk h1 cf hO g cb blk off cap d w eg hcmp hH hblk hsz=>
  AnyQ.slices_SortFunc sortLay48 3 Tryd.isAgg24 Tryd.sizeOf24 enc hk h1 cf hO g cb blk off cap d w eg hcmp hH hblk hsz
theorem sortCall48:callable Tryd.prog 48:=⟨_,Tryd.func48,by kernel_rfl,by kernel_rfl⟩
theorem sortNone48:SortNone Tryd.prog 48:=fun p cap fv w=>AnyF.slices_SortFunc_none sortLay48 p cap fv w
end Go.Proofs.YteehaobohaecmaaDoor
namespace Go.Proofs.YteehaobohaecmaaDoor
open Go Go.Proofs
theorem can_pure (f:Fm) (hok:okF f=true) (hz:f.sz≤268435456) (hq:PureC Tryd.prog 45 [(V.agg [(iV (f.op)),(iV (f.arg)),(V.sl (List.map cF (f.kids)))])] (V.tup [(V.sl (List.map cCl (cVal (cls f)))),(iV (cErr (cls f)))])):PureC Tryd.prog 33 [(V.agg [(iV (f.op)),(iV (f.arg)),(V.sl (List.map cF (f.kids)))])] (V.tup [(V.agg [(iV ((fVal (can f)).op)),(iV ((fVal (can f)).arg)),(V.sl (List.map cF ((fVal (can f)).kids)))]),(iV (cErr (can f)))]):=by
 refine pW Tryd.func33 s33_ok fun hB=>?_
 unfold s33
 dsimp only
 refine W_r (R_box (i:=1) (n:=0) (m:=3) (cs:=[(iV (f.op)),(iV (f.arg)),(V.sl (List.map cF (f.kids)))]) rfl (congrArg Blk.ver rfl) rfl rfl rfl (R_alloc (i:=2) (n:=0) (m:=3) rfl (congrArg Blk.ver rfl) rfl (R_mv rfl (R_e (W_r (R_lk rfl rfl rfl rfl (R_callk (hq) rfl ?_)))))))
 refine R_mv rfl (R_ext rfl rfl (R_ext rfl rfl (R_mv rfl (R_mv rfl (R_e (W_seq_seq (W_r ?_)))))))
 refine R_mv rfl (R_neq rfl rfl (R_e ?_))
 refine W_seq_if rfl (fun c1=>?_) fun c1=>?_
 ·
  have d1:=can_no c1
  have d0:=cE_yes c1
  refine W_seq_seq (W_r (R_build rfl rfl (R_mv rfl (R_sk rfl rfl rfl rfl rfl rfl rfl rfl rfl (R_mv rfl (R_e (W_seq_ret ?_)))))))
  refine RetC_2 (resV_c (u:=(V.agg [(iV (0:Int)),(iV (0:Int)),V.nilsl])) rfl (@rfl Blk (bk 1 24 3 [[(iV (0:Int)),(iV (0:Int)),V.nilsl]])) (lB oB rfl rfl)) (resV_t (@rfl V (iV (cErr (cls f))))) (fz_agg3 (fz_int ?_) (fz_int ?_) (fz_nil ?_)) (fz_int ?_)
  · rw [d1]; rfl
  · rw [d1]; rfl
  · rw [d1]; rfl
  · rw [d1,d0]; rfl
 have d0:=cV_some c1
 have d1:=can_some c1
 have g1:=cls_good f hok _ d0
 have g2:=cls_clen f _ d0
 have g3:=g1.len
 refine W_seq_skip (W_seq_seq (W_r (R_mv rfl (R_len rfl (R_eql rfl rfl (R_e ?_))))))
 refine W_seq_if rfl (fun c2=>?_) fun c2=>?_
 ·
  rw [fin_0 (by omega)] at d1
  refine W_seq_seq (W_r (R_callk (mno_pure) rfl (R_sk rfl rfl rfl rfl rfl rfl rfl rfl rfl (R_mv rfl (R_e (W_seq_ret ?_))))))
  refine RetC_2 (resV_c (u:=(V.agg [(iV (4:Int)),(iV (0:Int)),(V.sl (List.map cF ([Fm.nd 1 0 []])))])) rfl (@rfl Blk (bk 1 24 3 [[(iV (4:Int)),(iV (0:Int)),(V.sl (List.map cF ([Fm.nd 1 0 []])))]])) (lB oB rfl rfl)) (resV_t (@rfl V (iV (0:Int)))) (fz_agg3 (fz_int ?_) (fz_int ?_) (fz_sl ?_ (fun _=>by simp))) (fz_int ?_)
  · rw [d1]; rfl
  · rw [d1]; rfl
  · rw [d1]; rfl
  · rw [d1]; rfl
 refine W_seq_skip (W_r (R_lazy (i:=6) (n:=0) rfl (congrArg Blk.ver rfl) (R_e (W_seq_seq (W_r (R_mv rfl (R_len rfl ?_)))))))
 refine R_mv rfl (R_e (W_seq_blockg fun Q3 n3 x3 y3 z3=>?_))
 refine W_loop (fun mm T H=> ∃ (k:Nat) (v:Nat),mm=(cVal (cls f)).length - k∧T 2=(V.mp 2 1 0 0)∧T 6=(V.ms 6 v 0 (k))∧T 22=(V.sl (List.map cCl ((cVal (cls f)))))∧T 23=(iV ((((cVal (cls f))).length:Nat):Int))∧T 24=(iV ((k:Nat):Int))∧H 1=(bk 1 24 3 [[(iV (f.op)),(iV (f.arg)),(V.sl (List.map cF (f.kids)))]])∧H 2=(bk 1 24 3 [[(iV (0:Int)),(iV (0:Int)),V.nilsl]])∧H 6=(bz v 24 3 (List.map cF (((cVal (cls f)).take k).map clF)))∧(k≤(cVal (cls f)).length)∧(∀ i,i < k→(nth (cVal (cls f)) i).length≠0)) ?_ ?_
 ·
  refine ⟨_,0,1,rfl,rfl,rfl,rfl,rfl,(Eq.trans (@rfl V (iV (0:Int))) rfl),rfl,rfl,(Eq.trans (@rfl Blk (bz 1 24 3 [])) (by rfl)),?_,?_⟩
  · omega
  · intro i hi; omega
 intro mm T H ⟨k,v,hmm,t2,t6,t22,t23,t24,h1,h2,h6,hk,hn⟩ Q4 p14 p24 p34
 unfold b33_0
 refine W_r (R_lss t24 t23 (R_e ?_))
 refine W_seq_if rfl (fun c5=>?_) fun c5=>?_
 ·
  refine W_seq_skip (W_seq_blockg fun Q6 n6 x6 y6 z6=>(W_r (R_idx (i:=k) t22 t24 (by omega) rfl (R_load_pp rfl rfl (R_mv rfl (R_e (W_r ?_)))))))
  refine R_mv rfl (R_len rfl (R_e (W_block fun Q7 n7 x7 y7 z7=>(W_r (R_eql rfl rfl (R_mv rfl (R_e ?_)))))))
  refine W_if rfl (fun c8=>?_) fun c8=>?_
  ·
   rw [fin_y (k:=k) (by omega) (by omega)] at d1
   refine W_r (R_callk (myes_pure) rfl (R_sk t2 rfl rfl h2 rfl rfl rfl rfl rfl (R_mv rfl (R_e (W_ret (y7 _ _ (y6 _ _ ?_)))))))
   refine p24 _ _ (y3 _ _ ?_)
   refine RetC_2 (resV_c (u:=(V.agg [(iV (1:Int)),(iV (0:Int)),(V.sl (List.map cF ([])))])) t2 (@rfl Blk (bk 1 24 3 [[(iV (1:Int)),(iV (0:Int)),(V.sl (List.map cF ([])))]])) (lB oB rfl rfl)) (resV_t (@rfl V (iV (0:Int)))) (fz_agg3 (fz_int ?_) (fz_int ?_) (fz_sl ?_ (fun _=>by simp))) (fz_int ?_)
   · rw [d1]; rfl
   · rw [d1]; rfl
   · rw [d1]; rfl
   · rw [d1]; rfl
  have d2:(nth (cVal (cls f)) k).length≠0:=by omega
  refine W_r (R_eql rfl rfl (R_mv rfl (R_e ?_)))
  refine W_if rfl (fun c9=>?_) fun c9=>?_
  ·
   have d3:(nth (cVal (cls f)) k).length=1:=by omega
   refine W_t (R_mv t6 (R_mv rfl (R_idxu (i:=0) (@rfl V (V.sl (List.map cF ((nth ((cVal (cls f))) (k)))))) (@rfl V (iV ((0:Nat):Int))) (by omega) (cF_eq _) rfl (R_load_pp rfl rfl (R_bslice rfl rfl (R_append1 (l:=(((cVal (cls f)).take k).map clF)) (f:=cF) (x:=(((nth ((nth ((cVal (cls f))) (k))) (0))))) (@rfl V (V.ms 6 v 0 (k))) h6 (by (simp [srt_len]; omega)) (row_F1 (x:=(((nth ((nth ((cVal (cls f))) (k))) (0))))) (@rfl V (V.sl [[(iV (((nth ((nth ((cVal (cls f))) (k))) (0))).op)),(iV (((nth ((nth ((cVal (cls f))) (k))) (0))).arg)),(V.sl (List.map cF (((nth ((nth ((cVal (cls f))) (k))) (0))).kids)))]]))) (cF_len _) (cF_one _) (by omega) (by omega) (R_mv rfl ?_)))))))
   refine R_e (n7 _ _ (n6 _ _ (.done (W_t (R_addN t24 (@rfl V (iV ((1:Nat):Int))) (by omega) (R_mv rfl (R_e ?_)))))))
   refine p14 _ _ _ ?_ ⟨(k+1),(v+1),rfl,t2,(Eq.trans (@rfl V (V.ms 6 (v+1) 0 (k+1))) (by rfl)),t22,t23,(Eq.trans (@rfl V (iV ((k+1:Nat):Int))) (by rfl)),h1,h2,(Eq.trans (@rfl Blk (bz (v+1) 24 3 (List.map cF (((cVal (cls f)).take k).map clF++[((nth ((nth ((cVal (cls f))) (k))) (0)))])))) (by (rw [clM_1 (by omega) d3]; done))),?_,?_⟩
   · omega
   · omega
   · intro i hi
     by_cases e:i=k
     · subst e; exact d2
     · exact hn i (by omega)
  have d3:(nth (cVal (cls f)) k).length≠1:=by omega
  refine W_t (R_mv t6 (R_mv rfl (R_callk (mnode_pure ((5:Int)) ((nth ((cVal (cls f))) (k)))) rfl (R_bslice rfl rfl (R_append1 (l:=(((cVal (cls f)).take k).map clF)) (f:=cF) (x:=((Fm.nd (5:Int) (0:Int) (nth ((cVal (cls f))) (k))))) (@rfl V (V.ms 6 v 0 (k))) h6 (by (simp [srt_len]; omega)) (row_F1 (x:=((Fm.nd (5:Int) (0:Int) (nth ((cVal (cls f))) (k))))) (@rfl V (V.sl [[(iV (((5:Int)))),(iV (0:Int)),(V.sl (List.map cF (((nth ((cVal (cls f))) (k))))))]]))) (cF_len _) (cF_one _) (by omega) (by omega) (R_mv rfl (R_e ?_)))))))
  refine n7 _ _ (n6 _ _ (.done (W_t (R_addN t24 (@rfl V (iV ((1:Nat):Int))) (by omega) (R_mv rfl (R_e ?_))))))
  refine p14 _ _ _ ?_ ⟨(k+1),(v+1),rfl,t2,(Eq.trans (@rfl V (V.ms 6 (v+1) 0 (k+1))) (by rfl)),t22,t23,(Eq.trans (@rfl V (iV ((k+1:Nat):Int))) (by rfl)),h1,h2,(Eq.trans (@rfl Blk (bz (v+1) 24 3 (List.map cF (((cVal (cls f)).take k).map clF++[(Fm.nd (5:Int) (0:Int) (nth ((cVal (cls f))) (k)))])))) (by (rw [clM_n (by omega) d3]; done))),?_,?_⟩
  · omega
  · omega
  · intro i hi
    by_cases e:i=k
    · subst e; exact d2
    · exact hn i (by omega)
 refine W_seq_exit (p34 _ _ _ (x3 _ _ (.done (W_seq_seq (W_r (R_mv t6 (R_len_ms rfl h6 (by simp) ?_)))))))
 refine R_eql rfl rfl (R_e ?_)
 refine W_seq_if rfl (fun c10=>?_) fun c10=>?_
 ·
  have hk2:(cVal (cls f)).take k=(cVal (cls f)):=by rw [show k=(cVal (cls f)).length by omega,List.take_length]
  have d5:fVal (can f)=nth (((cVal (cls f)).take k).map clF) 0:=by rw [d1,hk2]; exact fin_1 (fun i hi=>hn i (by omega)) (by omega)
  refine W_seq_seq (W_r (R_mv t6 (R_idx_ms0 (i:=0) (@rfl V (V.ms 6 v 0 (k))) (@rfl V (iV ((0:Nat):Int))) h6 (okB_map (by (simp; omega))) rfl (by omega) (R_load_mp (v:=(V.agg [(iV (((nth (((cVal (cls f)).take k).map clF) (0))).op)),(iV (((nth (((cVal (cls f)).take k).map clF) (0))).arg)),(V.sl (List.map cF (((nth (((cVal (cls f)).take k).map clF) (0))).kids)))])) rfl h6 (ldB_map (by (simp; omega)) (by (rw [cF_eq]; rfl))) (R_sk t2 rfl rfl h2 rfl rfl rfl rfl rfl (R_mv rfl (R_e ?_)))))))
  refine W_seq_ret ?_
  refine RetC_2 (resV_c (u:=(V.agg [(iV (((nth (((cVal (cls f)).take k).map clF) (0))).op)),(iV (((nth (((cVal (cls f)).take k).map clF) (0))).arg)),(V.sl (List.map cF (((nth (((cVal (cls f)).take k).map clF) (0))).kids)))])) t2 (@rfl Blk (bk 1 24 3 [[(iV (((nth (((cVal (cls f)).take k).map clF) (0))).op)),(iV (((nth (((cVal (cls f)).take k).map clF) (0))).arg)),(V.sl (List.map cF (((nth (((cVal (cls f)).take k).map clF) (0))).kids)))]])) (lB oB rfl rfl)) (resV_t (@rfl V (iV (0:Int)))) (fz_agg3 (fz_int ?_) (fz_int ?_) (fz_sl ?_ (fun _=>by simp))) (fz_int ?_)
  · rw [d5]
  · rw [d5]
  · rw [d5]
  · rw [d1]; rfl
 have hk2:(cVal (cls f)).take k=(cVal (cls f)):=by rw [show k=(cVal (cls f)).length by omega,List.take_length]
 have d5:fVal (can f)=.nd 6 0 (srt ordF (((cVal (cls f)).take k).map clF)):=by rw [d1,hk2]; exact fin_n (fun i hi=>hn i (by omega)) (by omega) (by omega)
 refine W_seq_skip ?_
 refine W_seq_g (fun T H=>T 2=(V.mp 2 1 0 0)∧T 6=(V.ms 6 v 0 (k))∧H 1=(bk 1 24 3 [[(iV (f.op)),(iV (f.arg)),(V.sl (List.map cF (f.kids)))]])∧H 2=(bk 1 24 3 [[(iV (0:Int)),(iV (0:Int)),V.nilsl]])∧H 6=(bz v 24 3 (List.map cF (srt ordF (((cVal (cls f)).take k).map clF))))∧True) ?_ ?_
 ·
  refine R_mv t6 (R_callE (evcons rfl (evcons rfl evnil)) (CallOK_len (CallOK_sort (f0:=cF) (l:=(((cVal (cls f)).take k).map clF)) (cmp:=ordF) sortSpec48 sortNone48 sortCall48 ⟨_,Tryd.func49,by kernel_rfl,by kernel_rfl⟩ ordF_swo (fun a _ b _ h1 h2=>ord_zero_of h1 h2) (fun a _ b _=>by rw [cF_eq,cF_eq]; exact cmpf_pure a b) (fun a _=>by simp) (fun a _=>cF_one a) cF_len (by simp; omega) (h6)) (by simp; omega)) ?_)
  exact R_nil ⟨t2,t6,h1,h2,rfl,trivial⟩
 intro T H ⟨t2,t6,h1,h2,h6,_⟩
 refine .freeze 6 (.done ?_)
 refine fork_ (R:=fun T H=>T 2=(V.mp 2 1 0 0)∧T 6=(V.sl (List.map cF (srt ordF (((cVal (cls f)).take k).map clF))))∧H 1=(bk 1 24 3 [[(iV (f.op)),(iV (f.arg)),(V.sl (List.map cF (f.kids)))]])∧H 2=(bk 1 24 3 [[(iV (0:Int)),(iV (0:Int)),V.nilsl]])∧((H 6).ver=v∧(H 6).live=false)∧True) ⟨(fzT_q t2 rfl),(fzT_q t6 (fzq_own h6 (by simp) (l:=(srt ordF (((cVal (cls f)).take k).map clF))) rfl (by (simp [srt_len]; omega)))),(kill_ne h1 (by decide)),(kill_ne h2 (by decide)),(kill_self (congrArg Blk.ver h6)),trivial⟩ ?_
 intro T H ⟨t2,t6,h1,h2,h6,_⟩
 refine W_r (R_mv t6 (R_callk (mnode_pure ((6:Int)) (srt ordF (((cVal (cls f)).take k).map clF))) rfl (R_sk t2 rfl rfl h2 rfl rfl rfl rfl rfl (R_mv rfl (R_e (W_ret ?_))))))
 refine RetC_2 (resV_c (u:=(V.agg [(iV (((6:Int)))),(iV (0:Int)),(V.sl (List.map cF ((srt ordF (((cVal (cls f)).take k).map clF)))))])) t2 (@rfl Blk (bk 1 24 3 [[(iV (((6:Int)))),(iV (0:Int)),(V.sl (List.map cF ((srt ordF (((cVal (cls f)).take k).map clF)))))]])) (lB oB rfl rfl)) (resV_t (@rfl V (iV (0:Int)))) (fz_agg3 (fz_int ?_) (fz_int ?_) (fz_sl ?_ (fun _=>by simp))) (fz_int ?_)
 · rw [d5]; rfl
 · rw [d5]; rfl
 · rw [d5]; rfl
 · rw [d1]; rfl
def r34_1:List SO:=[
 qF 6 0 1,
 ql 7 6,
 qF 8 1 1,
 ql 9 8,
 sO 10 (.build [.int .i64 0,.int .i64 0,.nilsl] [(0,1,.t 7),(1,1,.t 9)]),
 sO 3 (.alloc 24 [.int .i64 0,.int .i64 0,.nilsl]),
 sN (.store 3 (.t 3) (.t 10))]
def r34_5:List SO:=[
 qF 18 2 3,
 ql 19 18,
 qL 20 3 5,
 sO 21 (.call false 34 [.t 20]),
 sO 22 (.bslice 24 3 false [.int .i64 0,.int .i64 0,.nilsl] 1 [(0,.t 21)]),
 sO 23 (.append 24 3 40 (.t 19) (.t 22)),
 qF 24 2 3,
 sN (.store 1 (.t 24) (.t 23))]
def b34_0:SC:=.seq (.reg [qP 15 .lss 14 13]) (.seq (.cond (.t 15) (.skip) (.exit 0)) (.seq (.block 1 (.seq (.reg [qA 16 3 12 14,qL 17 3 16,sO 5 (.alloc 24 [.int .i64 0,.int .i64 0,.nilsl]),sN (.store 3 (.t 5) (.t 17))]) (.reg r34_5))) (.reg [qC 25 .add 14 1,qM 14 25])))
def s34:SF:=⟨27,[.cell 2 true 3],.seq (.reg [sO 1 (.box 24 3 (.t 0)),sO 2 (.alloc 24 [.int .i64 0,.int .i64 0,.nilsl])]) (.seq (.reg r34_1) (.seq (.seq (.reg [qF 11 2 1,ql 12 11,qN 13 12,qI 14 0]) (.block 0 (.loop b34_0))) (.seq (.reg [qL 26 3 3,sN (.store 3 (.t 2) (.t 26))]) (.ret))))⟩
theorem s34_ok:slimF Tryd.prog ⟨[32,48,55,93,94,95,100],[],[],[]⟩ Tryd.f34=some s34:=by kernel_rfl
theorem copied_pure_step (f:Fm) (hz:f.sz≤4096) (ih: ∀ (g:Fm),g.sz < f.sz→g.sz≤4096→PureC Tryd.prog 34 [(V.agg [(iV (g.op)),(iV (g.arg)),(V.sl (List.map cF (g.kids)))])] (V.agg [(iV (g.op)),(iV (g.arg)),(V.sl (List.map cF (g.kids)))])):PureC Tryd.prog 34 [(V.agg [(iV (f.op)),(iV (f.arg)),(V.sl (List.map cF (f.kids)))])] (V.agg [(iV (f.op)),(iV (f.arg)),(V.sl (List.map cF (f.kids)))]):=by
 refine pW Tryd.func34 s34_ok fun hB=>?_
 unfold s34
 dsimp only
 have hln:=f.sz_len
 refine W_r (R_box (i:=1) (n:=0) (m:=3) (cs:=[(iV (f.op)),(iV (f.arg)),(V.sl (List.map cF (f.kids)))]) rfl (congrArg Blk.ver rfl) rfl rfl rfl (R_alloc (i:=2) (n:=0) (m:=3) rfl (congrArg Blk.ver rfl) rfl (R_e (W_r (R_fk rfl rfl (R_lk rfl rfl rfl rfl (R_fk rfl rfl ?_)))))))
 refine R_lk rfl rfl rfl rfl (R_build rfl rfl (R_alloc (i:=3) (n:=0) (m:=3) rfl (congrArg Blk.ver rfl) rfl (R_sk rfl rfl rfl rfl rfl rfl rfl rfl rfl (R_e (W_seq_seq ?_)))))
 refine W_seq_g (fun T H=>T 2=(V.mp 2 1 0 0)∧T 3=(V.mp 3 1 0 0)∧T 12=(V.sl (List.map cF (f.kids)))∧T 13=(iV ((f.kids.length:Nat):Int))∧T 14=(iV (0:Int))∧H 1=(bk 1 24 3 [[(iV (f.op)),(iV (f.arg)),(V.sl (List.map cF (f.kids)))]])∧H 2=(bk 1 24 3 [[(iV (0:Int)),(iV (0:Int)),V.nilsl]])∧H 3=(bk 1 24 3 [[(iV (f.op)),(iV (f.arg)),V.nilsl]])∧H 5=(⟨0,false,false,0,0,[]⟩:Blk)∧H 353=(⟨0,false,false,0,0,[]⟩:Blk)∧True) ?_ ?_
 ·
  refine R_fk rfl rfl (R_lk rfl rfl rfl rfl (R_len rfl (R_mv rfl ?_)))
  exact R_nil ⟨rfl,rfl,rfl,rfl,rfl,rfl,rfl,rfl,rfl,rfl,trivial⟩
 intro T H ⟨t2,t3,t12,t13,t14,h1,h2,h3,h5,h353,_⟩
 refine .lazyCell 353 24 3 3 0 2 [(iV (f.op)),(iV (f.arg)),V.nilsl] (by decide) (by rw [h3]; rfl) (by rw [h3]; rfl) rfl (.done ?_)
 refine fork_ (R:=fun T H=>T 2=(V.mp 2 1 0 0)∧T 3=(V.mp 3 1 0 0)∧T 12=(V.sl (List.map cF (f.kids)))∧T 13=(iV ((f.kids.length:Nat):Int))∧T 14=(iV (0:Int))∧H 1=(bk 1 24 3 [[(iV (f.op)),(iV (f.arg)),(V.sl (List.map cF (f.kids)))]])∧H 2=(bk 1 24 3 [[(iV (0:Int)),(iV (0:Int)),V.nilsl]])∧H 3=(bk 1 24 3 [[(iV (f.op)),(iV (f.arg)),(V.ms 353 1 0 (0))]])∧H 5=(⟨0,false,false,0,0,[]⟩:Blk)∧H 353=(bz 1 24 3 [])∧True) ⟨t2,t3,t12,t13,t14,((upd_ne _ _ (by decide)).trans ((upd_ne _ _ (by decide)).trans h1)),((upd_ne _ _ (by decide)).trans ((upd_ne _ _ (by decide)).trans h2)),(by rw [upd_same,h3,(congrArg Blk.ver h353)]; rfl),((upd_ne _ _ (by decide)).trans ((upd_ne _ _ (by decide)).trans h5)),(by rw [upd_ne _ _ (by decide),upd_same,(congrArg Blk.ver h353)]),trivial⟩ ?_
 intro T H ⟨t2,t3,t12,t13,t14,h1,h2,h3,h5,h353,_⟩
 refine W_seq_blockg fun Q1 n1 x1 y1 z1=>?_
 refine W_loop (fun mm T H=> ∃ (k:Nat) (w:Nat) (v5:Nat),mm=f.kids.length - k∧T 2=(V.mp 2 1 0 0)∧T 3=(V.mp 3 1 0 0)∧T 12=(V.sl (List.map cF (f.kids)))∧T 13=(iV ((f.kids.length:Nat):Int))∧T 14=(iV ((k:Nat):Int))∧H 1=(bk 1 24 3 [[(iV (f.op)),(iV (f.arg)),(V.sl (List.map cF (f.kids)))]])∧H 2=(bk 1 24 3 [[(iV (0:Int)),(iV (0:Int)),V.nilsl]])∧H 3=(bk 1 24 3 [[(iV (f.op)),(iV (f.arg)),(V.ms 353 w 0 (k))]])∧(H 5).ver=v5∧H 353=(bz w 24 3 (List.map cF (f.kids.take k)))∧(k≤f.kids.length)) ?_ ?_
 ·
  refine ⟨_,0,1,0,rfl,t2,t3,t12,t13,(Eq.trans t14 rfl),h1,h2,h3,(congrArg Blk.ver h5),(Eq.trans h353 (by rfl)),?_⟩
  · omega
 intro mm T H ⟨k,w,v5,hmm,t2,t3,t12,t13,t14,h1,h2,h3,h5,h353,hk⟩ Q2 p12 p22 p32
 unfold b34_0
 refine W_r (R_lss t14 t13 (R_e ?_))
 refine W_seq_if rfl (fun c3=>?_) fun c3=>?_
 ·
  refine W_seq_skip (W_seq_blockg fun Q4 n4 x4 y4 z4=>(W_r (R_idxu (i:=k) t12 t14 (by omega) (cF_eq _) rfl (R_load_pp rfl rfl (R_alloc (i:=5) (n:=v5) (m:=3) rfl h5 rfl (R_sk rfl rfl rfl rfl rfl rfl rfl rfl rfl (R_e ?_)))))))
  refine W_t (R_fk t3 h3 (R_lk rfl h3 rfl rfl (R_lk rfl rfl rfl rfl (R_callk (ih (((nth (f.kids) (k)))) (Fm.sz_kid (by omega)) (Nat.le_trans (Nat.le_of_lt (Fm.sz_kid (by omega))) hz)) rfl (R_bslice rfl rfl (R_append1 (l:=(f.kids.take k)) (f:=cF) (x:=((((nth (f.kids) (k)))))) (@rfl V (V.ms 353 w 0 (k))) h353 (by (simp; omega)) (row_F1 (x:=((((nth (f.kids) (k)))))) (@rfl V (V.sl [[(iV ((((nth (f.kids) (k)))).op)),(iV ((((nth (f.kids) (k)))).arg)),(V.sl (List.map cF ((((nth (f.kids) (k)))).kids)))]]))) (cF_len _) (cF_one _) (by omega) (by omega) (R_fk t3 h3 ?_)))))))
  refine R_sk rfl rfl rfl h3 rfl rfl rfl rfl rfl (R_e (n4 _ _ (.done (W_t (R_addN t14 (@rfl V (iV ((1:Nat):Int))) (by omega) (R_mv rfl (R_e ?_)))))))
  refine p12 _ _ _ ?_ ⟨(k+1),(w+1),(v5+1),rfl,t2,t3,t12,t13,(Eq.trans (@rfl V (iV ((k+1:Nat):Int))) (by rfl)),h1,h2,(Eq.trans (@rfl Blk (bk 1 24 3 [[(iV (f.op)),(iV (f.arg)),(V.ms 353 (w+1) 0 (k+1))]])) (by rfl)),(congrArg Blk.ver rfl),(Eq.trans (@rfl Blk (bz (w+1) 24 3 (List.map cF (f.kids.take k++[(((nth (f.kids) (k))))])))) (by (rw [take_succ_nth (by omega)]; done))),?_⟩
  · omega
  · omega
 refine W_seq_exit (p32 _ _ _ (x1 _ _ (.done (W_r (R_lk t3 h3 rfl rfl (R_sk t2 rfl rfl h2 rfl rfl rfl rfl rfl (R_e ?_)))))))
 refine W_ret ?_
 refine RetC_1 (resV_c (u:=(V.agg [(iV (f.op)),(iV (f.arg)),(V.ms 353 w 0 (k))])) t2 (@rfl Blk (bk 1 24 3 [[(iV (f.op)),(iV (f.arg)),(V.ms 353 w 0 (k))]])) (lB oB rfl rfl)) (fz_agg3 (fz_canon (by simp) rfl) (fz_canon (by simp) rfl) (fz_ms h353 (by simp) (l:=(f.kids.take k)) rfl (by (simp; omega)) (fun _=>by simp) ?_))
 · first|rfl|(rw [show k=f.kids.length by omega,List.take_length]; done)
theorem copied_pure (f:Fm) (hz:f.sz≤4096):PureC Tryd.prog 34 [(V.agg [(iV (f.op)),(iV (f.arg)),(V.sl (List.map cF (f.kids)))])] (V.agg [(iV (f.op)),(iV (f.arg)),(V.sl (List.map cF (f.kids)))]):=by
  have key: ∀ (mm:Nat) (f:Fm),f.sz < mm→f.sz≤4096→PureC Tryd.prog 34 [(V.agg [(iV (f.op)),(iV (f.arg)),(V.sl (List.map cF (f.kids)))])] (V.agg [(iV (f.op)),(iV (f.arg)),(V.sl (List.map cF (f.kids)))]):=by
    intro mm
    induction mm with
    |zero=>intro f hlt; exact absurd hlt (Nat.not_lt_zero _)
    | succ mm ih =>
      intro f hlt hz
      exact copied_pure_step f hz fun f2 hlt2=>ih f2 (by omega)
  exact key (f.sz+1) f (Nat.lt_succ_self _) hz
def r45_12:List SO:=[
 qF 33 2 1,
 ql 34 33,
 sO 35 (.call false 53 [.t 34]),
 qE 36 35 0,
 qE 37 35 1,
 qM 2 36,
 qM 3 37]
def r45_14:List SO:=[
 qF 40 2 1,
 ql 41 40,
 sO 42 (.call false 54 [.t 41]),
 qE 43 42 0,
 qE 44 42 1,
 qM 2 43,
 qM 3 44]
def r45_19:List SO:=[
 qL 56 3 6,
 sO 57 (.call false 33 [.t 56]),
 qM 55 57,
 qE 58 55 0,
 qE 59 55 1,
 sO 7 (.alloc 24 [.int .i64 0,.int .i64 0,.nilsl]),
 sN (.store 3 (.t 7) (.t 58)),
 qM 8 59]
def r45_22:List SO:=[
 qF 63 2 4,
 ql 64 63,
 qL 65 3 7,
 sO 66 (.bslice 24 3 false [.int .i64 0,.int .i64 0,.nilsl] 1 [(0,.t 65)]),
 sO 67 (.append 24 3 40 (.t 64) (.t 66)),
 qF 68 2 4,
 sN (.store 1 (.t 68) (.t 67))]
def b45_0:SC:=.seq (.reg [qP 52 .lss 51 50]) (.seq (.cond (.t 52) (.skip) (.exit 1)) (.seq (.block 2 (.seq (.reg [qA 53 3 49 51,qL 54 3 53,sO 6 (.alloc 24 [.int .i64 0,.int .i64 0,.nilsl]),sN (.store 3 (.t 6) (.t 54))]) (.seq (.reg r45_19) (.seq (.seq (.reg [qM 60 8,qC 61 .neq 60 0]) (.cond (.t 61) (.seq (.reg [qM 62 8,sO 2 (.mv (.c (.nilsl))),qM 3 62]) (.ret)) (.skip))) (.reg r45_22))))) (.reg [qC 69 .add 51 1,qM 51 69])))
def s45:SF:=⟨73,[.tmp 2,.tmp 3],.seq (.reg [sO 1 (.box 24 3 (.t 0)),sO 2 (.mv (.c (.nilsl))),qI 3 0]) (.seq (.seq (.reg [qF 9 0 1,ql 10 9]) (.block 0 (.seq (.reg [qC 12 .eql 10 1,qM 11 12]) (.cond (.t 11) (.seq (.reg [sO 13 (.bslice 86 1 false [.nilsl] 1 [(0,.c (.nilsl))]),qM 2 13,qI 3 0]) (.ret)) (.seq (.reg [qC 15 .eql 10 4,qM 14 15]) (.cond (.t 14) (.seq (.seq (.reg [qF 16 2 1,ql 17 16,sO 18 (.idx 3 (.t 17) (.c (.int .i64 0))),qF 19 0 18,ql 20 19,qC 21 .eql 20 1]) (.cond (.t 21) (.seq (.reg [sO 2 (.mv (.c (.nilsl))),qI 3 0]) (.ret)) (.skip))) (.seq (.reg [qL 22 3 1,sO 23 (.bslice 24 3 false [.int .i64 0,.int .i64 0,.nilsl] 1 [(0,.t 22)]),sO 24 (.bslice 86 1 false [.nilsl] 1 [(0,.t 23)]),qM 2 24,qI 3 0]) (.ret))) (.seq (.seq (.reg [qC 26 .eql 10 2,qM 25 26]) (.cond (.t 25) (.skip) (.reg [qC 27 .eql 10 3,qM 25 27]))) (.cond (.t 25) (.seq (.reg [qL 28 3 1,sO 29 (.bslice 24 3 false [.int .i64 0,.int .i64 0,.nilsl] 1 [(0,.t 28)]),sO 30 (.bslice 86 1 false [.nilsl] 1 [(0,.t 29)]),qM 2 30,qI 3 0]) (.ret)) (.seq (.reg [qC 32 .eql 10 6,qM 31 32]) (.cond (.t 31) (.seq (.reg r45_12) (.ret)) (.seq (.reg [qC 39 .eql 10 5,qM 38 39]) (.cond (.t 38) (.seq (.reg r45_14) (.ret)) (.skip))))))))))))) (.seq (.reg [qF 45 0 1,ql 46 45,sO 47 (.build [.int .i64 0,.int .i64 0,.nilsl] [(0,1,.t 46)]),sO 4 (.alloc 24 [.int .i64 0,.int .i64 0,.nilsl]),sN (.store 3 (.t 4) (.t 47))]) (.seq (.seq (.reg [qF 48 2 1,ql 49 48,qN 50 49,qI 51 0]) (.block 1 (.loop b45_0))) (.seq (.reg [qL 70 3 4,sO 71 (.bslice 24 3 false [.int .i64 0,.int .i64 0,.nilsl] 1 [(0,.t 70)]),sO 72 (.bslice 86 1 false [.nilsl] 1 [(0,.t 71)]),qM 2 72,qI 3 0]) (.ret)))))⟩
theorem s45_ok:slimF Tryd.prog ⟨[32,48,55,93,94,95,100],[],[],[]⟩ Tryd.f45=some s45:=by kernel_rfl
def r53_5:List SO:=[
 qL 18 3 6,
 sO 19 (.call false 45 [.t 18]),
 qM 17 19,
 qE 20 17 0,
 qE 21 17 1,
 qM 7 20,
 qM 8 21]
def b53_1:SC:=.seq (.reg [qP 28 .lss 27 26]) (.seq (.cond (.t 28) (.skip) (.exit 2)) (.seq (.block 3 (.seq (.reg [qA 29 1 25 27,ql 30 29,qM 10 30]) (.reg [qM 31 4,qM 32 10,sO 33 (.call false 60 [.t 31,.t 32]),qM 4 33]))) (.reg [qC 34 .add 27 1,qM 27 34])))
def b53_0:SC:=.seq (.reg [qP 14 .lss 13 12]) (.seq (.cond (.t 14) (.skip) (.exit 0)) (.seq (.block 1 (.seq (.reg [qA 15 3 11 13,qL 16 3 15,sO 6 (.alloc 24 [.int .i64 0,.int .i64 0,.nilsl]),sN (.store 3 (.t 6) (.t 16))]) (.seq (.reg r53_5) (.seq (.seq (.reg [qM 22 8,qC 23 .neq 22 0]) (.cond (.t 23) (.seq (.reg [qM 24 8,sO 2 (.mv (.c (.nilsl))),qM 3 24]) (.ret)) (.skip))) (.seq (.reg [qM 25 7,qN 26 25,qI 27 0]) (.block 2 (.loop b53_1))))))) (.reg [qC 35 .add 13 1,qM 13 35])))
def s53:SF:=⟨40,[.tmp 2,.tmp 3],.seq (.reg [sO 2 (.mv (.c (.nilsl))),qI 3 0]) (.seq (.reg [sO 4 (.mv (.c (.nilsl)))]) (.seq (.seq (.reg [qM 11 0,qN 12 11,qI 13 0]) (.block 0 (.loop b53_0))) (.seq (.reg [qM 36 4,sO 37 (.call false 61 [.t 36]),qE 38 37 0,qE 39 37 1,qM 2 38,qM 3 39]) (.ret))))⟩
theorem s53_ok:slimF Tryd.prog ⟨[32,48,55,93,94,95,100],[],[],[]⟩ Tryd.f53=some s53:=by kernel_rfl
def b60_0:SC:=.seq (.reg [qP 20 .lss 19 18]) (.seq (.cond (.t 20) (.skip) (.exit 0)) (.seq (.block 1 (.seq (.reg [qA 21 1 17 19,ql 22 21,qM 7 22]) (.seq (.reg [qM 23 7,ql 24 3,sO 25 (.call false 80 [.t 23,.t 24]),sO 26 (.un .not (.t 25))]) (.cond (.t 26) (.reg [qM 27 5,qM 28 7,sO 29 (.bslice 86 1 false [.nilsl] 1 [(0,.t 28)]),sO 30 (.append 86 1 24 (.t 27) (.t 29)),qM 5 30]) (.skip))))) (.reg [qC 31 .add 19 1,qM 19 31])))
def s60:SF:=⟨36,[.tmp 4],.seq (.reg [sO 3 (.box 86 1 (.t 1)),sO 4 (.mv (.c (.nilsl)))]) (.seq (.seq (.reg [qM 8 0,sO 9 (.mkf 79 [.t 3]),sO 10 (.call false 78 [.t 8,.t 9]),qC 11 .gtr 10 0]) (.cond (.t 11) (.seq (.reg [qM 12 0,qM 4 12]) (.ret)) (.skip))) (.seq (.reg [qM 13 0,qN 14 13,qC 15 .add 14 1,sO 16 (.mks 86 1 24 [.nilsl] (.c (.int .i64 0)) (.t 15)),qM 5 16]) (.seq (.seq (.reg [qM 17 0,qN 18 17,qI 19 0]) (.block 0 (.loop b60_0))) (.seq (.reg [qM 32 5,ql 33 3,sO 34 (.bslice 86 1 false [.nilsl] 1 [(0,.t 33)]),sO 35 (.append 86 1 24 (.t 32) (.t 34)),qM 4 35]) (.ret)))))⟩
theorem s60_ok:slimF Tryd.prog ⟨[32,48,55,93,94,95,100],[],[],[]⟩ Tryd.f60=some s60:=by kernel_rfl
def b78_0:SC:=.seq (.reg [qP 11 .lss 10 9]) (.seq (.cond (.t 11) (.skip) (.exit 0)) (.seq (.block 1 (.seq (.reg [qA 12 1 8 10,ql 13 12,qM 7 13]) (.seq (.reg [qM 14 1,qM 15 7,sO 16 (.callv false (.t 14) [.t 15])]) (.cond (.t 16) (.reg [qM 17 5,qC 18 .add 17 1,qM 5 18]) (.skip))))) (.reg [qC 19 .add 10 1,qM 10 19])))
def s78:SF:=⟨21,[.tmp 4],.seq (.reg [qI 4 0]) (.seq (.reg [qI 5 0]) (.seq (.seq (.reg [qM 8 0,qN 9 8,qI 10 0]) (.block 0 (.loop b78_0))) (.seq (.reg [qM 20 5,qM 4 20]) (.ret))))⟩
theorem s78_ok:slimF Tryd.prog ⟨[32,48,55,93,94,95,100],[],[],[]⟩ Tryd.f78=some s78:=by kernel_rfl
theorem cntc_pure (p:Cl→Bool) (w:List Cl) (g:Nat) (caps:List V) (hca:canonL caps=true) (hpu:pureL caps=true) (hq: ∀ k,k < w.length→PureC Tryd.prog g (V.sl ((nth w k).map cF)::caps) (.bool (p (nth w k)))) (hl:w.length≤1099511627776):PureC Tryd.prog 78 [(V.sl (List.map cCl (w))),(V.fn g [] caps)] (iV ((cntP p w:Nat):Int)):=by
 refine pure_of_Wb true 6 Tryd.func78 s78_ok (by kernel_rfl) (by simp [s78]) (by simp [hpu]) (by simp) fun hB=>?_
 simp only [bnd_map,bnd_int,bnd_bool,bnd_str,bnd_agg,bnd_pp,bnd_nil,bnd_cons,implies_true,and_true,true_and] at hB
 unfold s78
 dsimp only
 refine W_r (R_mv rfl (R_e (W_r (R_mv rfl (R_e (W_seq_seq (W_r ?_)))))))
 refine R_mv rfl (R_len rfl (R_mv rfl (R_e (W_seq_blockg fun Q1 n1 x1 y1 z1=>?_))))
 refine W_loop (fun mm T H=> ∃ (k:Nat),mm=w.length - k∧T 1=(V.fn g [] caps)∧T 5=(iV ((cntP p (w.take k):Nat):Int))∧T 8=(V.sl (List.map cCl (w)))∧T 9=(iV ((w.length:Nat):Int))∧T 10=(iV ((k:Nat):Int))∧(k≤w.length)) ?_ ?_
 ·
  refine ⟨_,0,rfl,rfl,(Eq.trans (@rfl V (iV (0:Int))) (by rfl)),rfl,rfl,(Eq.trans (@rfl V (iV (0:Int))) rfl),?_⟩
  · omega
 intro mm T H ⟨k,hmm,t1,t5,t8,t9,t10,hk⟩ Q2 p12 p22 p32
 unfold b78_0
 have hq1:=cntP_le p (w.take k)
 have hq2:(w.take k).length=k:=by rw [List.length_take]; omega
 refine W_r (R_lss t10 t9 (R_e ?_))
 refine W_seq_if rfl (fun c3=>?_) fun c3=>?_
 ·
  refine W_seq_skip (W_seq_blockg fun Q4 n4 x4 y4 z4=>(W_r (R_idx (i:=k) t8 t10 (by omega) rfl (R_load_pp rfl rfl (R_mv rfl (R_e (W_r ?_)))))))
  refine R_mv t1 (R_mv rfl (R_callv (@rfl V (V.fn g [] caps)) (evcons (@rfl V (V.sl (List.map cF ((nth (w) (k)))))) evnil) (hq k (by omega)) (fzv_mapcanon _ _ (by simp [hca])) (by simp [hpu]) (Or.inl (by simp [hpu])) (R_e ?_)))
  refine W_ifb rfl (fun c5=>?_) (fun c5=>?_)
  ·
   have d1:=cntP_yes (p:=p) (l:=w) (k:=k) (by omega) c5
   refine W_t (R_mv t5 (R_addN rfl (@rfl V (iV ((1:Nat):Int))) (by omega) (R_mv rfl (R_e (n4 _ _ (.done (W_t ?_)))))))
   refine R_addN t10 (@rfl V (iV ((1:Nat):Int))) (by omega) (R_mv rfl (R_e ?_))
   refine p12 _ _ _ ?_ ⟨(k+1),rfl,t1,(Eq.trans (@rfl V (iV (((cntP p (w.take k))+1:Nat):Int))) (by (rw [d1]; done))),t8,t9,(Eq.trans (@rfl V (iV ((k+1:Nat):Int))) (by rfl)),?_⟩
   · omega
   · omega
  have d1:=cntP_no (p:=p) (l:=w) (k:=k) (by omega) (by simp only [c5]; exact Bool.false_ne_true)
  refine W_skip (n4 _ _ (.done (W_t (R_addN t10 (@rfl V (iV ((1:Nat):Int))) (by omega) (R_mv rfl (R_e ?_))))))
  refine p12 _ _ _ ?_ ⟨(k+1),rfl,t1,(Eq.trans t5 (by (rw [d1]; done))),t8,t9,(Eq.trans (@rfl V (iV ((k+1:Nat):Int))) (by rfl)),?_⟩
  · omega
  · omega
 refine W_seq_exit (p32 _ _ _ (x1 _ _ (.done (W_r (R_mv t5 (R_mv rfl (R_e ?_)))))))
 refine W_ret ?_
 refine Ret_1 (@rfl V (iV ((cntP p (w.take k):Nat):Int))) (fz_int ?_)
 · rw [show k=w.length by omega,List.take_length]
def s79:SF:=⟨7,[.tmp 3],.seq (.reg [sO 3 (.mv (.c (.bool false)))]) (.seq (.reg [ql 4 1,qM 5 0,sO 6 (.call false 80 [.t 4,.t 5]),qM 3 6]) (.ret))⟩
theorem s79_ok:slimF Tryd.prog ⟨[32,48,55,93,94,95,100],[],[],[]⟩ Tryd.f79=some s79:=by kernel_rfl
def s80:SF:=⟨9,[.tmp 4],.seq (.reg [sO 2 (.box 86 1 (.t 0)),sO 4 (.mv (.c (.bool false)))]) (.seq (.reg [qM 5 1,sO 6 (.mkf 91 [.t 2]),sO 7 (.call false 39 [.t 5,.t 6]),qC 8 .eql 7 0,qM 4 8]) (.ret))⟩
theorem s80_ok:slimF Tryd.prog ⟨[32,48,55,93,94,95,100],[],[],[]⟩ Tryd.f80=some s80:=by kernel_rfl
def b39_0:SC:=.seq (.reg [qP 11 .lss 10 9]) (.seq (.cond (.t 11) (.skip) (.exit 0)) (.seq (.block 1 (.seq (.reg [qA 12 3 8 10,qL 13 3 12,sO 7 (.alloc 24 [.int .i64 0,.int .i64 0,.nilsl]),sN (.store 3 (.t 7) (.t 13))]) (.seq (.reg [qM 14 1,qL 15 3 7,sO 16 (.callv false (.t 14) [.t 15])]) (.cond (.t 16) (.reg [qM 17 5,qC 18 .add 17 1,qM 5 18]) (.skip))))) (.reg [qC 19 .add 10 1,qM 10 19])))
def s39:SF:=⟨21,[.tmp 4],.seq (.reg [qI 4 0]) (.seq (.reg [qI 5 0]) (.seq (.seq (.reg [qM 8 0,qN 9 8,qI 10 0]) (.block 0 (.loop b39_0))) (.seq (.reg [qM 20 5,qM 4 20]) (.ret))))⟩
theorem s39_ok:slimF Tryd.prog ⟨[32,48,55,93,94,95,100],[],[],[]⟩ Tryd.f39=some s39:=by kernel_rfl
theorem cntf_pure (p:Fm→Bool) (w:List Fm) (g:Nat) (caps:List V) (hca:canonL caps=true) (hpu:pureL caps=true) (hq: ∀ k,k < w.length→PureC Tryd.prog g (fmV (nth w k)::caps) (.bool (p (nth w k)))) (hl:w.length≤1099511627776):PureC Tryd.prog 39 [(V.sl (List.map cF (w))),(V.fn g [] caps)] (iV ((cntP p w:Nat):Int)):=by
 refine pure_of_Wb true 6 Tryd.func39 s39_ok (by kernel_rfl) (by simp [s39]) (by simp [hpu]) (by simp) fun hB=>?_
 simp only [bnd_map,bnd_int,bnd_bool,bnd_str,bnd_agg,bnd_pp,bnd_nil,bnd_cons,implies_true,and_true,true_and] at hB
 unfold s39
 dsimp only
 refine W_r (R_mv rfl (R_e (W_r (R_mv rfl (R_e (W_seq_seq (W_r ?_)))))))
 refine R_mv rfl (R_len rfl (R_mv rfl (R_e (W_seq_blockg fun Q1 n1 x1 y1 z1=>?_))))
 refine W_loop (fun mm T H=> ∃ (k:Nat) (v7:Nat),mm=w.length - k∧T 1=(V.fn g [] caps)∧T 5=(iV ((cntP p (w.take k):Nat):Int))∧T 8=(V.sl (List.map cF (w)))∧T 9=(iV ((w.length:Nat):Int))∧T 10=(iV ((k:Nat):Int))∧(H 7).ver=v7∧(k≤w.length)) ?_ ?_
 ·
  refine ⟨_,0,0,rfl,rfl,(Eq.trans (@rfl V (iV (0:Int))) (by rfl)),rfl,rfl,(Eq.trans (@rfl V (iV (0:Int))) rfl),(congrArg Blk.ver rfl),?_⟩
  · omega
 intro mm T H ⟨k,v7,hmm,t1,t5,t8,t9,t10,h7,hk⟩ Q2 p12 p22 p32
 unfold b39_0
 have hq1:=cntP_le p (w.take k)
 have hq2:(w.take k).length=k:=by rw [List.length_take]; omega
 refine W_r (R_lss t10 t9 (R_e ?_))
 refine W_seq_if rfl (fun c3=>?_) fun c3=>?_
 ·
  refine W_seq_skip (W_seq_blockg fun Q4 n4 x4 y4 z4=>(W_r (R_idxu (i:=k) t8 t10 (by omega) (cF_eq _) rfl (R_load_pp rfl rfl (R_alloc (i:=7) (n:=v7) (m:=3) rfl h7 rfl (R_sk rfl rfl rfl rfl rfl rfl rfl rfl rfl (R_e ?_)))))))
  refine W_r (R_mv t1 (R_lk rfl rfl rfl rfl (R_callv (@rfl V (V.fn g [] caps)) (evcons (@rfl V (V.agg [(iV (((nth (w) (k))).op)),(iV (((nth (w) (k))).arg)),(V.sl (List.map cF (((nth (w) (k))).kids)))])) evnil) (hq k (by omega)) (fzv_mapcanon _ _ (by simp [hca])) (by simp [hpu]) (Or.inl (by simp [hpu])) (R_e ?_))))
  refine W_ifb rfl (fun c5=>?_) (fun c5=>?_)
  ·
   have d1:=cntP_yes (p:=p) (l:=w) (k:=k) (by omega) c5
   refine W_t (R_mv t5 (R_addN rfl (@rfl V (iV ((1:Nat):Int))) (by omega) (R_mv rfl (R_e (n4 _ _ (.done (W_t ?_)))))))
   refine R_addN t10 (@rfl V (iV ((1:Nat):Int))) (by omega) (R_mv rfl (R_e ?_))
   refine p12 _ _ _ ?_ ⟨(k+1),(v7+1),rfl,t1,(Eq.trans (@rfl V (iV (((cntP p (w.take k))+1:Nat):Int))) (by (rw [d1]; done))),t8,t9,(Eq.trans (@rfl V (iV ((k+1:Nat):Int))) (by rfl)),(congrArg Blk.ver rfl),?_⟩
   · omega
   · omega
  have d1:=cntP_no (p:=p) (l:=w) (k:=k) (by omega) (by simp only [c5]; exact Bool.false_ne_true)
  refine W_skip (n4 _ _ (.done (W_t (R_addN t10 (@rfl V (iV ((1:Nat):Int))) (by omega) (R_mv rfl (R_e ?_))))))
  refine p12 _ _ _ ?_ ⟨(k+1),(v7+1),rfl,t1,(Eq.trans t5 (by (rw [d1]; done))),t8,t9,(Eq.trans (@rfl V (iV ((k+1:Nat):Int))) (by rfl)),(congrArg Blk.ver rfl),?_⟩
  · omega
  · omega
 refine W_seq_exit (p32 _ _ _ (x1 _ _ (.done (W_r (R_mv t5 (R_mv rfl (R_e ?_)))))))
 refine W_ret ?_
 refine Ret_1 (@rfl V (iV ((cntP p (w.take k):Nat):Int))) (fz_int ?_)
 · rw [show k=w.length by omega,List.take_length]
def r91_1:List SO:=[
 ql 7 1,
 qL 8 3 2,
 sO 9 (.call false 92 [.t 7,.t 8,.c (.fn 49 [] [])]),
 qM 6 9,
 qE 10 6 0,
 qE 11 6 1,
 qM 4 10,
 qM 5 11]
def s91:SF:=⟨14,[.tmp 3],.seq (.reg [sO 2 (.box 24 3 (.t 0)),sO 3 (.mv (.c (.bool false)))]) (.seq (.reg r91_1) (.seq (.reg [qM 12 5,sO 13 (.un .not (.t 12)),qM 3 13]) (.ret)))⟩
theorem s91_ok:slimF Tryd.prog ⟨[32,48,55,93,94,95,100],[],[],[]⟩ Tryd.f91=some s91:=by kernel_rfl
def r92_4:List SO:=[
 qM 18 9,
 qM 19 10,
 qP 20 .add 18 19,
 sO 21 (.conv .u64 (.t 20)),
 sO 22 (.bin .shr (.t 21) (.c (.int .u64 1))),
 sO 23 (.conv .i64 (.t 22)),
 qM 11 23]
def r92_5:List SO:=[
 qM 24 2,
 qM 25 0,
 qM 26 11,
 qA 27 3 25 26,
 qL 28 3 27,
 qL 29 3 4,
 sO 30 (.callv false (.t 24) [.t 28,.t 29]),
 qC 31 .lss 30 0]
def b92_0:SC:=.seq (.seq (.reg [qM 15 9,qM 16 10,qP 17 .lss 15 16]) (.cond (.t 17) (.skip) (.exit 0))) (.block 1 (.seq (.reg r92_4) (.seq (.reg r92_5) (.cond (.t 31) (.reg [qM 32 11,qC 33 .add 32 1,qM 9 33]) (.reg [qM 34 11,qM 10 34])))))
def r92_8:List SO:=[
 qM 35 9,
 qM 36 9,
 qM 37 8,
 qP 38 .lss 36 37,
 qM 39 38,
 ⟨some (39,true),some 40,.mv (.t 2)⟩,
 ⟨some (39,true),some 41,.mv (.t 0)⟩,
 ⟨some (39,true),some 42,.mv (.t 9)⟩,
 ⟨some (39,true),some 43,.idx 3 (.t 41) (.t 42)⟩,
 ⟨some (39,true),some 44,.load true 3 (.t 43)⟩,
 ⟨some (39,true),some 45,.load true 3 (.t 4)⟩,
 ⟨some (39,true),some 46,.callv false (.t 40) [.t 44,.t 45]⟩,
 ⟨some (39,true),some 47,.bin .eql (.t 46) (.c (.int .i64 0))⟩,
 sO 48 (.pick (.t 39) (.t 47) (.c (.bool false))),
 qM 6 35,
 qM 7 48]
def s92:SF:=⟨49,[.tmp 6,.tmp 7],.seq (.reg [sO 4 (.box 24 3 (.t 1)),qI 6 0,sO 7 (.mv (.c (.bool false)))]) (.seq (.reg [qM 12 0,qN 13 12,qM 8 13]) (.seq (.reg [qM 14 8,qI 9 0,qM 10 14]) (.seq (.block 0 (.loop b92_0)) (.seq (.reg r92_8) (.ret)))))⟩
theorem s92_ok:slimF Tryd.prog ⟨[32,48,55,93,94,95,100],[],[],[]⟩ Tryd.f92=some s92:=by kernel_rfl
theorem bsf_pure (l:List Fm) (t:Fm) (hs:SrtF l) (hl:l.length≤4294967296):PureC Tryd.prog 92 [(V.sl (List.map cF (l))),(V.agg [(iV (t.op)),(iV (t.arg)),(V.sl (List.map cF (t.kids)))]),(V.fn 49 [] [])] (V.tup [(iV ((lbF l t:Nat):Int)),(V.bool (decide (lbF l t < l.length∧ordF (nth l (lbF l t)) t=0)))]):=by
 refine pW Tryd.func92 s92_ok fun hB=>?_
 unfold s92
 dsimp only
 have q0:=lbF_le t l
 refine W_r (R_box (i:=4) (n:=0) (m:=3) (cs:=[(iV (t.op)),(iV (t.arg)),(V.sl (List.map cF (t.kids)))]) rfl (congrArg Blk.ver rfl) rfl rfl rfl (R_mv rfl (R_mv rfl (R_e (W_r (R_mv rfl (R_len rfl ?_)))))))
 refine R_mv rfl (R_e (W_r (R_mv rfl (R_mv rfl (R_mv rfl (R_e (W_seq_blockg fun Q1 n1 x1 y1 z1=>?_)))))))
 refine W_loop (fun mm T H=> ∃ (i:Nat) (j:Nat),mm=j - i∧T 0=(V.sl (List.map cF (l)))∧T 2=(V.fn 49 [] [])∧T 4=(V.mp 4 1 0 0)∧T 8=(iV ((l.length:Nat):Int))∧T 9=(iV ((i:Nat):Int))∧T 10=(iV ((j:Nat):Int))∧H 4=(bk 1 24 3 [[(iV (t.op)),(iV (t.arg)),(V.sl (List.map cF (t.kids)))]])∧(i≤lbF l t)∧(lbF l t≤j)∧(j≤l.length)) ?_ ?_
 ·
  refine ⟨_,0,l.length,rfl,rfl,rfl,rfl,rfl,(Eq.trans (@rfl V (iV (0:Int))) rfl),rfl,rfl,?_,?_,?_⟩
  · omega
  · omega
  · omega
 intro mm T H ⟨i,j,hmm,t0,t2,t4,t8,t9,t10,h4,h1,h2,h3⟩ Q2 p12 p22 p32
 unfold b92_0
 refine W_seq_seq (W_r (R_mv t9 (R_mv t10 (R_lss rfl rfl (R_e ?_)))))
 refine W_seq_if rfl (fun c3=>?_) fun c3=>?_
 ·
  refine W_seq_skip (W_block fun Q4 n4 x4 y4 z4=>(W_r (R_mv t9 (R_mv t10 (R_addN rfl rfl (by omega) (R_convU (n:=(i+j)) (@rfl V (iV ((i+j:Nat):Int))) (by omega) (R_shr1 (n:=(i+j)) rfl rfl ?_)))))))
  refine R_convI (n:=((i+j) / 2)) (@rfl V (V.int .u64 ((((i+j) / 2:Nat):Int)))) (by omega) (R_mv rfl (R_e (W_r (R_mv t2 (R_mv t0 (R_mv rfl (R_idxu (i:=((i+j) / 2)) (@rfl V (V.sl (List.map cF (l)))) (@rfl V (iV (((i+j) / 2:Nat):Int))) (by omega) (cF_eq _) rfl ?_)))))))
  refine R_load_pp rfl rfl (R_lk t4 h4 rfl rfl (R_callv (@rfl V (V.fn 49 [] [])) (evcons (@rfl V (V.agg [(iV (((nth (l) ((i+j) / 2))).op)),(iV (((nth (l) ((i+j) / 2))).arg)),(V.sl (List.map cF (((nth (l) ((i+j) / 2))).kids)))])) (evcons (@rfl V (V.agg [(iV (t.op)),(iV (t.arg)),(V.sl (List.map cF (t.kids)))])) evnil)) (cmpf_pure (((nth (l) ((i+j) / 2)))) t) (fzv_mapcanon _ _ (by simp [-List.map_take,-List.map_drop,-List.map_append,-List.map_reverse])) (by simp [-List.map_take,-List.map_drop,-List.map_append,-List.map_reverse]) (Or.inl (by simp [-List.map_take,-List.map_drop,-List.map_append,-List.map_reverse])) (R_lss rfl rfl (R_e ?_))))
  refine W_if rfl (fun c5=>?_) fun c5=>?_
  ·
   have d1:=(lbF_iff hs (by omega)).1 c5
   refine W_t (R_mv rfl (R_addN rfl (@rfl V (iV ((1:Nat):Int))) (by omega) (R_mv rfl (R_e (n4 _ _ ?_)))))
   refine p12 _ _ _ ?_ ⟨(((i+j) / 2)+1),j,rfl,t0,t2,t4,t8,(Eq.trans (@rfl V (iV ((((i+j) / 2)+1:Nat):Int))) (by rfl)),t10,h4,?_,?_,?_⟩
   · omega
   · omega
   · omega
   · omega
  have d1: ¬((i+j) / 2 < lbF l t):=fun e=>c5 ((lbF_iff hs (by omega)).2 e)
  refine W_t (R_mv rfl (R_mv rfl (R_e (n4 _ _ ?_))))
  refine p12 _ _ _ ?_ ⟨i,((i+j) / 2),rfl,t0,t2,t4,t8,t9,(Eq.trans (@rfl V (iV (((i+j) / 2:Nat):Int))) (by rfl)),h4,?_,?_,?_⟩
  · omega
  · omega
  · omega
  · omega
 refine W_seq_exit (p32 _ _ _ (x1 _ _ (.done (W_r (R_mv t9 (R_mv t9 (R_mv t8 ?_)))))))
 refine R_lss rfl rfl (R_mv rfl ?_)
 refine Ops_seg 9 (fun T H=>T 35=(iV ((i:Nat):Int))∧T 48=(V.bool (decide ((((i:Nat):Int) < ((l.length:Nat):Int))∧((ordF (((nth (l) (i)))) t)=(0:Int)))))∧H 4=(bk 1 24 3 [[(iV (t.op)),(iV (t.arg)),(V.sl (List.map cF (t.kids)))]])∧True) ?_ ?_
 ·
  by_cases g6:((i:Nat):Int) < ((l.length:Nat):Int)
  ·
   refine G_yes (edT g6 rfl) (R_mv t2 (G_yes (edT g6 rfl) (R_mv t0 (G_yes (edT g6 rfl) (R_mv t9 (G_yes (edT g6 rfl) (R_idxu (i:=i) (@rfl V (V.sl (List.map cF (l)))) (@rfl V (iV ((i:Nat):Int))) (by omega) (cF_eq _) rfl ?_)))))))
   refine G_yes (edT g6 rfl) (R_load_pp rfl rfl (G_yes (edT g6 rfl) (R_lk t4 h4 rfl rfl (G_yes (edT g6 rfl) (R_callv (@rfl V (V.fn 49 [] [])) (evcons (@rfl V (V.agg [(iV (((nth (l) (i))).op)),(iV (((nth (l) (i))).arg)),(V.sl (List.map cF (((nth (l) (i))).kids)))])) (evcons (@rfl V (V.agg [(iV (t.op)),(iV (t.arg)),(V.sl (List.map cF (t.kids)))])) evnil)) (cmpf_pure (((nth (l) (i)))) t) (fzv_mapcanon _ _ (by simp [-List.map_take,-List.map_drop,-List.map_append,-List.map_reverse])) (by simp [-List.map_take,-List.map_drop,-List.map_append,-List.map_reverse]) (Or.inl (by simp [-List.map_take,-List.map_drop,-List.map_append,-List.map_reverse])) (G_yes (edT g6 rfl) (R_eql rfl rfl ?_)))))))
   refine R_pickT (edT g6 rfl) rfl ?_
   exact ⟨rfl,(dec_andT g6),h4,trivial⟩
  ·
   refine G_n (edF g6 rfl) (G_n (edF g6 rfl) (G_n (edF g6 rfl) (G_n (edF g6 rfl) (G_n (edF g6 rfl) (G_n (edF g6 rfl) (G_n (edF g6 rfl) (G_n (edF g6 rfl) ?_)))))))
   refine R_pickF (edF g6 rfl) rfl ?_
   exact ⟨rfl,(dec_andF g6),h4,trivial⟩
 intro T H ⟨t35,t48,h4,_⟩
 refine R_mv t35 (R_mv t48 (R_e (W_ret ?_)))
 refine Ret_2 (@rfl V (iV ((i:Nat):Int))) (@rfl V (V.bool (decide ((((i:Nat):Int) < ((l.length:Nat):Int))∧((ordF (((nth (l) (i)))) t)=(0:Int)))))) (fz_int ?_) (fz_bool ?_)
 · have e:i=lbF l t:=by omega
   rw [e]
 · have e:i=lbF l t:=by omega
   rw [e]; exact decide_eq_decide.2 (by omega)
theorem ctn1_pure (f:Fm) (c:Cl) (hs:SrtF c) (hl:c.length≤1073741824):PureC Tryd.prog 91 [(V.agg [(iV (f.op)),(iV (f.arg)),(V.sl (List.map cF (f.kids)))]),(V.pp [(V.sl (List.map cF (c)))])] (V.bool (!(c.any fun y=>sameF y f))):=by
 refine pW Tryd.func91 s91_ok fun hB=>?_
 unfold s91
 dsimp only
 refine W_r (R_box (i:=2) (n:=0) (m:=3) (cs:=[(iV (f.op)),(iV (f.arg)),(V.sl (List.map cF (f.kids)))]) rfl (congrArg Blk.ver rfl) rfl rfl rfl (R_mv rfl (R_e (W_r (R_load_pp rfl rfl (R_lk rfl rfl rfl rfl (R_callk (bsf_pure c f hs (by omega)) rfl ?_)))))))
 refine R_mv rfl (R_ext rfl rfl (R_ext rfl rfl (R_mv rfl (R_mv rfl (R_e (W_r (R_mv rfl ?_)))))))
 refine R_not rfl (R_mv rfl (R_e (W_ret ?_)))
 refine Ret_1 (@rfl V (V.bool (decide (¬(lbF c f < c.length∧ordF (nth c (lbF c f)) f=0))))) (fz_bool ?_)
 · rw [← lbF_found hs f,decide_not]
theorem ctn_pure (c d:Cl) (hs:SrtF c) (hl:c.length≤1073741824) (hd:d.length≤1073741824):PureC Tryd.prog 80 [(V.sl (List.map cF (c))),(V.sl (List.map cF (d)))] (V.bool (conB c d)):=by
 refine pW Tryd.func80 s80_ok fun hB=>?_
 unfold s80
 dsimp only
 refine W_r (R_box (i:=2) (n:=0) (m:=1) (cs:=[(V.sl (List.map cF (c)))]) rfl (congrArg Blk.ver rfl) rfl rfl rfl (R_mv rfl (R_e (W_r (R_mv rfl (R_mkf (evcons rfl evnil) (R_call (evcons (@rfl V (V.sl (List.map cF (d)))) (evcons (@rfl V (V.fn 91 [] [(V.mp 2 1 0 0)])) evnil)) (cntf_pure (fun f=> !(c.any fun y=>sameF y f)) d 91 ([(V.pp [(V.sl (List.map cF (c)))])]) (by simp) (by simp) (fun k hk=>ctn1_pure (nth d k) c hs hl) (by omega)) (mcons (fzv_canon 6 _ (by simp [-List.map_take,-List.map_drop,-List.map_append,-List.map_reverse])) (mcons (fz_fnM (@rfl Blk (bk 1 86 1 [[(V.sl (List.map cF (c)))]])) (by simp [-List.map_take,-List.map_drop,-List.map_append,-List.map_reverse])) rfl)) (by simp [-List.map_take,-List.map_drop,-List.map_append,-List.map_reverse]) (Or.inr rfl) ?_)))))))
 refine R_eql rfl rfl (R_mv rfl (R_e (W_ret ?_)))
 refine Ret_1 (@rfl V (V.bool (decide (((cntP (fun f=> !(c.any fun y=>sameF y f)) d:Nat):Int)=(0:Int))))) (fz_bool ?_)
 · rw [← con_cnt]
theorem with1_pure (d c:Cl) (hs:SrtF c) (hl:c.length≤1073741824) (hd:d.length≤1073741824):PureC Tryd.prog 79 [(V.sl (List.map cF (d))),(V.pp [(V.sl (List.map cF (c)))])] (V.bool (conB c d)):=by
 refine pW Tryd.func79 s79_ok fun hB=>?_
 unfold s79
 dsimp only
 refine W_r (R_mv rfl (R_e (W_r (R_load_pp rfl rfl (R_mv rfl (R_callk (ctn_pure c d hs hl hd) rfl (R_mv rfl ?_)))))))
 refine R_e (W_ret ?_)
 refine Ret_1 (@rfl V (V.bool (conB c d))) (fz_canon (by simp) rfl)
end Go.Proofs.YteehaobohaecmaaDoor
namespace Go.Proofs.YteehaobohaecmaaDoor
open Go Go.Proofs
attribute [local irreducible] mksV
theorem with_pure (z:List Cl) (c:Cl) (ha: ∀ k,k < z.length→SrtF (nth z k)) (hb: ∀ k,k < z.length→(nth z k).length≤1073741824) (hz:z.length≤68719476736) (hs:SrtF c) (hl:c.length≤1073741824):PureC Tryd.prog 60 [(V.sl (List.map cCl (z))),(V.sl (List.map cF (c)))] (V.sl (List.map cCl (wth z c))):=by
 refine pW Tryd.func60 s60_ok fun hB=>?_
 unfold s60
 dsimp only
 refine W_r (R_box (i:=3) (n:=0) (m:=1) (cs:=[(V.sl (List.map cF (c)))]) rfl (congrArg Blk.ver rfl) rfl rfl rfl (R_mv rfl (R_e (W_seq_seq (W_r (R_mv rfl (R_mkf (evcons rfl evnil) ?_)))))))
 refine R_call (evcons (@rfl V (V.sl (List.map cCl (z)))) (evcons (@rfl V (V.fn 79 [] [(V.mp 3 1 0 0)])) evnil)) (cntc_pure (fun d=>conB c d) z 79 ([(V.pp [(V.sl (List.map cF (c)))])]) (by simp) (by simp) (fun k hk=>with1_pure (nth z k) c hs hl (hb k hk)) (by omega)) (mcons (fzv_canon 6 _ (by simp [-List.map_take,-List.map_drop,-List.map_append,-List.map_reverse])) (mcons (fz_fnM (@rfl Blk (bk 1 86 1 [[(V.sl (List.map cF (c)))]])) (by simp [-List.map_take,-List.map_drop,-List.map_append,-List.map_reverse])) rfl)) (by simp [-List.map_take,-List.map_drop,-List.map_append,-List.map_reverse]) (Or.inr rfl) (R_gtr rfl rfl (R_e ?_))
 refine W_seq_if (p:=(0:Int) < ((cntP (fun d=>conB c d) z:Nat):Int)) rfl (fun c1=>?_) (fun c1=>?_)
 ·
  have d0:=c1
  refine W_seq_seq (W_r (R_mv rfl (R_mv rfl (R_e (W_seq_ret ?_)))))
  refine Ret_1 (@rfl V (V.sl (List.map cCl (z)))) (fz_sl ?_ (fun _=>by simp))
  · first|exact wth_old d0|exact (wth_old d0).symm|(rw [← wth_old d0]; done)
 have d0:=c1
 refine W_seq_skip (W_r (R_mv rfl (R_len rfl (R_addN rfl (@rfl V (iV ((1:Nat):Int))) (by omega) ?_))))
 refine (R_mks (i:=16) (n:=0) (m:=0) (q:=(z.length+1)) rfl (congrArg Blk.ver rfl) (@rfl V (iV (0:Int))) (@rfl V (iV ((z.length+1:Nat):Int))) (by omega) (by omega) (by omega) ?_)
 refine R_mv rfl (R_e (W_seq_seq (W_r (R_mv rfl (R_len rfl (R_mv rfl (R_e ?_)))))))
 refine W_seq_blockg fun Q2 n2 x2 y2 z2=>?_
 refine W_loop (fun mm T H=> ∃ (k:Nat) (v:Nat),mm=z.length - k∧T 3=(V.mp 3 1 0 0)∧T 5=(V.ms 16 v 0 (((z.take k).filter (fun d=> !conB d c)).length))∧T 17=(V.sl (List.map cCl (z)))∧T 18=(iV ((z.length:Nat):Int))∧T 19=(iV ((k:Nat):Int))∧H 3=(bk 1 86 1 [[(V.sl (List.map cF (c)))]])∧H 16=(bk v 86 1 (List.map cCl ((z.take k).filter (fun d=> !conB d c))))∧(k≤z.length)) ?_ ?_
 ·
  refine ⟨_,0,1,rfl,rfl,(Eq.trans (@rfl V (V.ms 16 1 0 (0))) (by rfl)),rfl,rfl,(Eq.trans (@rfl V (iV (0:Int))) rfl),rfl,(Eq.trans (@rfl Blk (bk 1 86 1 (List.replicate (0) [V.nilsl]))) (by rfl)),?_⟩
  · omega
 intro mm T H ⟨k,v,hmm,t3,t5,t17,t18,t19,h3,h16,hk⟩ Q3 p13 p23 p33
 unfold b60_0
 have hq1:=flt_len (fun d=> !conB d c) z k
 refine W_r (R_lss t19 t18 (R_e ?_))
 refine W_seq_if rfl (fun c4=>?_) fun c4=>?_
 ·
  refine W_seq_skip (W_seq_blockg fun Q5 n5 x5 y5 z5=>(W_r (R_idx (i:=k) t17 t19 (by omega) rfl (R_load_pp rfl rfl (R_mv rfl (R_e (W_r ?_)))))))
  refine R_mv rfl (R_lk t3 h3 rfl rfl (R_callk (ctn_pure ((nth (z) (k))) c (ha k (by omega)) (hb k (by omega)) hl) rfl (R_notb rfl (R_e ?_))))
  refine W_ifb rfl (fun c6=>?_) (fun c6=>?_)
  ·
   have d1:(fun d=> !conB d c) (nth z k)=true:=c6
   refine W_t (R_mv t5 (R_mv rfl (R_bslice rfl rfl (R_append1 (l:=((z.take k).filter (fun d=> !conB d c))) (f:=cCl) (x:=((nth (z) (k)))) (@rfl V (V.ms 16 v 0 (((z.take k).filter (fun d=> !conB d c)).length))) h16 (by rfl) (@rfl V (V.sl [[(V.sl (List.map cF ((nth (z) (k)))))]])) rfl rfl (by omega) (by omega) (R_mv rfl (R_e (n5 _ _ ?_)))))))
   refine .done (W_t (R_addN t19 (@rfl V (iV ((1:Nat):Int))) (by omega) (R_mv rfl (R_e ?_))))
   refine p13 _ _ _ ?_ ⟨(k+1),(v+1),rfl,t3,(Eq.trans (@rfl V (V.ms 16 (v+1) 0 ((((z.take k).filter (fun d=> !conB d c)).length)+1))) (by (rw [flt_yes (by omega) d1,List.length_append]; rfl))),t17,t18,(Eq.trans (@rfl V (iV ((k+1:Nat):Int))) (by rfl)),h3,(Eq.trans (@rfl Blk (bk (v+1) 86 1 (List.map cCl ((z.take k).filter (fun d=> !conB d c)++[(nth (z) (k))])))) (by (rw [flt_yes (by omega) d1]; done))),?_⟩
   · omega
   · omega
  have d1: ¬(fun d=> !conB d c) (nth z k)=true:=by simpa using c6
  refine W_skip (n5 _ _ (.done (W_t (R_addN t19 (@rfl V (iV ((1:Nat):Int))) (by omega) (R_mv rfl (R_e ?_))))))
  refine p13 _ _ _ ?_ ⟨(k+1),v,rfl,t3,(Eq.trans t5 (by (rw [flt_no (by omega) d1]; done))),t17,t18,(Eq.trans (@rfl V (iV ((k+1:Nat):Int))) (by rfl)),h3,(Eq.trans h16 (by (rw [flt_no (by omega) d1]; done))),?_⟩
  · omega
  · omega
 refine W_seq_exit (p33 _ _ _ (x2 _ _ (.done (W_r (R_mv t5 (R_lk t3 h3 rfl rfl (R_bslice rfl rfl ?_)))))))
 refine R_append1 (l:=((z.take k).filter (fun d=> !conB d c))) (f:=cCl) (x:=c) (@rfl V (V.ms 16 v 0 (((z.take k).filter (fun d=> !conB d c)).length))) h16 (by rfl) (@rfl V (V.sl [[(V.sl (List.map cF (c)))]])) rfl rfl (by omega) (by omega) (R_mv rfl (R_e (W_ret ?_)))
 refine Ret_1 (@rfl V (V.ms 16 (v+1) 0 ((((z.take k).filter (fun d=> !conB d c)).length)+1))) (fz_ms (@rfl Blk (bk (v+1) 86 1 (List.map cCl ((z.take k).filter (fun d=> !conB d c)++[c])))) (by simp) (l:=((z.take k).filter (fun d=> !conB d c)++[c])) rfl (by simp) (fun _=>by simp) ?_)
 · rw [show k=z.length by omega,List.take_length]; first|exact wth_add d0|exact (wth_add d0).symm
end Go.Proofs.YteehaobohaecmaaDoor
namespace Go.Proofs.YteehaobohaecmaaDoor
open Go Go.Proofs
def s61:SF:=⟨8,[.tmp 2,.tmp 3],.seq (.reg [sO 2 (.mv (.c (.nilsl))),qI 3 0]) (.seq (.seq (.reg [qM 4 0,qN 5 4,qC 6 .gtr 5 64]) (.cond (.t 6) (.seq (.reg [sO 2 (.mv (.c (.nilsl))),qI 3 11]) (.ret)) (.skip))) (.seq (.reg [qM 7 0,qM 2 7,qI 3 0]) (.ret)))⟩
theorem s61_ok:slimF Tryd.prog ⟨[32,48,55,93,94,95,100],[],[],[]⟩ Tryd.f61=some s61:=by kernel_rfl
theorem limited_pure (z:List Cl):PureC Tryd.prog 61 [(V.sl (List.map cCl (z)))] (V.tup [(V.sl (List.map cCl (if 64 < z.length then [] else z))),(iV (if 64 < z.length then 11 else 0))]):=by
 refine pW Tryd.func61 s61_ok fun hB=>?_
 unfold s61
 dsimp only
 refine W_r (R_mv rfl (R_mv rfl (R_e (W_seq_seq (W_r (R_mv rfl (R_len rfl ?_)))))))
 refine R_gtr rfl rfl (R_e ?_)
 refine W_seq_if rfl (fun c1=>?_) fun c1=>?_
 ·
  refine W_seq_seq (W_r (R_mv rfl (R_mv rfl (R_e (W_seq_ret ?_)))))
  refine Ret_2 (@rfl V V.nilsl) (@rfl V (iV (11:Int))) (fz_nil ?_) (fz_int ?_)
  · rw [if_pos (by omega)]
  · rw [if_pos (by omega)]
 refine W_seq_skip (W_r (R_mv rfl (R_mv rfl (R_mv rfl (R_e (W_ret ?_))))))
 refine Ret_2 (@rfl V (V.sl (List.map cCl (z)))) (@rfl V (iV (0:Int))) (fz_sl ?_ (fun _=>by simp)) (fz_int ?_)
 · rw [if_neg (by omega)]
 · rw [if_neg (by omega)]
theorem disj_pure (l:List Fm) (hok: ∀ k,k < l.length→okF (nth l k)=true) (hz:Fm.szs l≤268435456) (hq: ∀ k,k < l.length→PureC Tryd.prog 45 [(V.agg [(iV ((nth l k).op)),(iV ((nth l k).arg)),(V.sl (List.map cF ((nth l k).kids)))])] (V.tup [(V.sl (List.map cCl (cVal (cls (nth l k))))),(iV (cErr (cls (nth l k))))])):PureC Tryd.prog 53 [(V.sl (List.map cF (l)))] (V.tup [(V.sl (List.map cCl (cVal (djL l [])))),(iV (cErr (djL l [])))]):=by
 refine pW Tryd.func53 s53_ok fun hB=>?_
 unfold s53
 dsimp only
 have hln:=Fm.szs_len l
 refine W_r (R_mv rfl (R_mv rfl (R_e (W_r (R_mv rfl (R_e (W_seq_seq ?_)))))))
 refine W_seq_g (fun T H=>T 4=V.nilsl∧T 11=(V.sl (List.map cF (l)))∧T 12=(iV ((l.length:Nat):Int))∧T 13=(iV (0:Int))∧H 6=(⟨0,false,false,0,0,[]⟩:Blk)∧True) ?_ ?_
 ·
  refine R_mv rfl (R_len rfl (R_mv rfl ?_))
  exact R_nil ⟨rfl,rfl,rfl,rfl,rfl,trivial⟩
 intro T H ⟨t4,t11,t12,t13,h6,_⟩
 refine G_nil t4 (fork_ (R:=fun T H=>T 4=(V.sl [])∧T 11=(V.sl (List.map cF (l)))∧T 12=(iV ((l.length:Nat):Int))∧T 13=(iV (0:Int))∧H 6=(⟨0,false,false,0,0,[]⟩:Blk)∧True) ⟨(upd_same _ _ _),((upd_ne _ _ (by decide)).trans t11),((upd_ne _ _ (by decide)).trans t12),((upd_ne _ _ (by decide)).trans t13),h6,trivial⟩ ?_)
 intro T H ⟨t4,t11,t12,t13,h6,_⟩
 refine W_seq_blockg fun Q1 n1 x1 y1 z1=>?_
 refine W_loop (fun mm T H=> ∃ (k:Nat) (out:List Cl) (v6:Nat),mm=l.length - k∧T 4=(V.sl (List.map cCl (out)))∧T 11=(V.sl (List.map cF (l)))∧T 12=(iV ((l.length:Nat):Int))∧T 13=(iV ((k:Nat):Int))∧(H 6).ver=v6∧(k≤l.length)∧(djL l []=djL (l.drop k) out)∧(Ant out)∧(CLen (Fm.szs l) out)∧(out.length≤64*k)) ?_ ?_
 ·
  refine ⟨_,0,[],0,rfl,(Eq.trans t4 (by rfl)),t11,t12,(Eq.trans t13 rfl),(congrArg Blk.ver h6),?_,?_,?_,?_,?_⟩
  · omega
  · rfl
  · exact Ant.nil
  · exact fun c hc=>absurd hc List.not_mem_nil
  · exact Nat.zero_le _
 intro mm T H ⟨k,out,v6,hmm,t4,t11,t12,t13,h6,hk,hc,hA,hL,hN⟩ Q2 p12 p22 p32
 unfold b53_0
 refine W_r (R_lss t13 t12 (R_e ?_))
 refine W_seq_if rfl (fun c3=>?_) fun c3=>?_
 ·
  refine W_seq_skip (W_seq_blockg fun Q4 n4 x4 y4 z4=>(W_r (R_idxu (i:=k) t11 t13 (by omega) (cF_eq _) rfl (R_load_pp rfl rfl (R_alloc (i:=6) (n:=v6) (m:=3) rfl h6 rfl (R_sk rfl rfl rfl rfl rfl rfl rfl rfl rfl (R_e ?_)))))))
  refine W_r (R_lk rfl rfl rfl rfl (R_callk (hq k (by omega)) rfl (R_mv rfl (R_ext rfl rfl (R_ext rfl rfl (R_mv rfl (R_mv rfl ?_)))))))
  refine R_e (W_seq_seq (W_r (R_mv rfl (R_neq rfl rfl (R_e ?_)))))
  refine W_seq_if rfl (fun c5=>?_) fun c5=>?_
  ·
   have d1:=c5
   refine W_seq_seq (W_r (R_mv rfl (R_mv rfl (R_mv rfl (R_e (W_seq_ret (y4 _ _ ?_)))))))
   refine p22 _ _ (y1 _ _ ?_)
   refine Ret_2 (@rfl V V.nilsl) (@rfl V (iV (cErr (cls (nth l k))))) (fz_nil ?_) (fz_int ?_)
   · rw [hc,djL_no (by omega) (cE_yes d1)]; try rfl
   · rw [hc,djL_no (by omega) (cE_yes d1),cE_yes d1]; try rfl
  have d1:=c5
  have g1:=kid_cl (by omega) (hok k (by omega)) d1
  refine W_seq_skip (W_r (R_mv rfl (R_len rfl (R_mv rfl (R_e (W_block fun Q6 n6 x6 y6 z6=>?_))))))
  refine W_loop (fun mm T H=> ∃ (j:Nat),mm=(cVal (cls (nth l k))).length - j∧T 4=(V.sl (List.map cCl (wths out ((cVal (cls (nth l k))).take j))))∧T 11=(V.sl (List.map cF (l)))∧T 12=(iV ((l.length:Nat):Int))∧T 13=(iV ((k:Nat):Int))∧T 25=(V.sl (List.map cCl (cVal (cls (nth l k)))))∧T 26=(iV (((cVal (cls (nth l k))).length:Nat):Int))∧T 27=(iV ((j:Nat):Int))∧H 6=(bk (v6+1) 24 3 [[(iV (((nth (l) (k))).op)),(iV (((nth (l) (k))).arg)),(V.sl (List.map cF (((nth (l) (k))).kids)))]])∧(j≤(cVal (cls (nth l k))).length)) ?_ ?_
  ·
   refine ⟨_,0,rfl,(Eq.trans t4 (by rfl)),t11,t12,t13,rfl,rfl,(Eq.trans (@rfl V (iV (0:Int))) rfl),rfl,?_⟩
   · omega
  intro mm T H ⟨j,hmm,t4,t11,t12,t13,t25,t26,t27,h6,hj⟩ Q7 p17 p27 p37
  unfold b53_1
  have hW:=wthsT_len out (cVal (cls (nth l k))) j
  have hG:=g1.1.len
  refine W_r (R_lss t27 t26 (R_e ?_))
  refine W_seq_if rfl (fun c8=>?_) fun c8=>?_
  ·
   refine W_seq_skip (W_seq_blockg fun Q9 n9 x9 y9 z9=>(W_r (R_idx (i:=j) t25 t27 (by omega) rfl (R_load_pp rfl rfl (R_mv rfl (R_e (W_t ?_)))))))
   refine R_mv t4 (R_mv rfl (R_callk (with_pure (wths out ((cVal (cls (nth l k))).take j)) ((nth (cVal (cls (nth l k))) (j))) (fun q hq=>(wthsT_ant hA g1.1.ant j).at_ hq) (fun q hq=>Nat.le_trans ((wthsT_clen hL g1.2.1 j).at_ hq) (by omega)) (by omega) (g1.1.ant.at_ (by omega)) (Nat.le_trans (g1.2.1.at_ (by omega)) (by omega))) rfl (R_mv rfl (R_e (n9 _ _ (.done (W_t ?_)))))))
   refine R_addN t27 (@rfl V (iV ((1:Nat):Int))) (by omega) (R_mv rfl (R_e ?_))
   refine p17 _ _ _ ?_ ⟨(j+1),rfl,(Eq.trans (@rfl V (V.sl (List.map cCl (wth (wths out ((cVal (cls (nth l k))).take j)) ((nth (cVal (cls (nth l k))) (j))))))) (by (rw [wths_step (by omega)]; done))),t11,t12,t13,t25,t26,(Eq.trans (@rfl V (iV ((j+1:Nat):Int))) (by rfl)),h6,?_⟩
   · omega
   · omega
  refine W_seq_exit (p37 _ _ _ (x6 _ _ (n4 _ _ (.done (W_t (R_addN t13 (@rfl V (iV ((1:Nat):Int))) (by omega) (R_mv rfl ?_)))))))
  refine R_e ?_
  refine p12 _ _ _ ?_ ⟨(k+1),(wths out (cVal (cls (nth l k)))),(v6+1),rfl,(Eq.trans t4 (by (rw [show j=(cVal (cls (nth l k))).length by omega,List.take_length]; done))),t11,t12,(Eq.trans (@rfl V (iV ((k+1:Nat):Int))) (by rfl)),(congrArg Blk.ver h6),?_,?_,?_,?_,?_⟩
  · omega
  · omega
  · rw [hc,djL_go (by omega) (cV_some d1)]
  · have q:=wthsT_ant hA g1.1.ant (cVal (cls (nth l k))).length; rwa [List.take_length] at q
  · have q:=wthsT_clen hL g1.2.1 (cVal (cls (nth l k))).length; rwa [List.take_length] at q
  · have q:=wthsT_len out (cVal (cls (nth l k))) (cVal (cls (nth l k))).length; rw [List.take_length] at q; have:=g1.1.len; omega
 refine W_seq_exit (p32 _ _ _ (x1 _ _ (.done (W_r (R_mv t4 (R_callk (limited_pure out) rfl (R_ext rfl rfl ?_)))))))
 refine R_ext rfl rfl (R_mv rfl (R_mv rfl (R_e (W_ret ?_))))
 refine Ret_2 (@rfl V (V.sl (List.map cCl (if 64 < out.length then [] else out)))) (@rfl V (iV (if 64 < out.length then 11 else 0))) (fz_sl ?_ (fun _=>by simp)) (fz_int ?_)
 · rw [hc,djL_end (by omega)]; split <;> rfl
 · rw [hc,djL_end (by omega)]; split <;> rfl
def r54_5:List SO:=[
 qL 17 3 6,
 sO 18 (.call false 45 [.t 17]),
 qM 16 18,
 qE 19 16 0,
 qE 20 16 1,
 qM 7 19,
 qM 8 20]
def r54_8:List SO:=[
 qM 25 4,
 qM 26 7,
 sO 27 (.call false 62 [.t 25,.t 26]),
 sO 28 (.call false 61 [.t 27]),
 qM 24 28,
 qE 29 24 0,
 qE 30 24 1,
 qM 4 29,
 qM 8 30]
def b54_0:SC:=.seq (.reg [qP 13 .lss 12 11]) (.seq (.cond (.t 13) (.skip) (.exit 0)) (.seq (.block 1 (.seq (.reg [qA 14 3 10 12,qL 15 3 14,sO 6 (.alloc 24 [.int .i64 0,.int .i64 0,.nilsl]),sN (.store 3 (.t 6) (.t 15))]) (.seq (.reg r54_5) (.seq (.seq (.reg [qM 21 8,qC 22 .neq 21 0]) (.cond (.t 22) (.seq (.reg [qM 23 8,sO 2 (.mv (.c (.nilsl))),qM 3 23]) (.ret)) (.skip))) (.seq (.reg r54_8) (.seq (.reg [qM 31 8,qC 32 .neq 31 0]) (.cond (.t 32) (.seq (.reg [qM 33 8,sO 2 (.mv (.c (.nilsl))),qM 3 33]) (.ret)) (.skip)))))))) (.reg [qC 34 .add 12 1,qM 12 34])))
def s54:SF:=⟨36,[.tmp 2,.tmp 3],.seq (.reg [sO 2 (.mv (.c (.nilsl))),qI 3 0]) (.seq (.reg [sO 9 (.bslice 86 1 false [.nilsl] 1 [(0,.c (.nilsl))]),qM 4 9]) (.seq (.seq (.reg [qM 10 0,qN 11 10,qI 12 0]) (.block 0 (.loop b54_0))) (.seq (.reg [qM 35 4,qM 2 35,qI 3 0]) (.ret))))⟩
theorem s54_ok:slimF Tryd.prog ⟨[32,48,55,93,94,95,100],[],[],[]⟩ Tryd.f54=some s54:=by kernel_rfl
def b62_1:SC:=.seq (.reg [qP 19 .lss 18 17]) (.seq (.cond (.t 19) (.skip) (.exit 2)) (.seq (.block 3 (.seq (.reg [qA 20 1 16 18,ql 21 20,qM 9 21]) (.reg [qM 22 5,qM 23 7,qM 24 9,sO 25 (.call false 81 [.t 23,.t 24]),sO 26 (.call false 60 [.t 22,.t 25]),qM 5 26]))) (.reg [qC 27 .add 18 1,qM 18 27])))
def b62_0:SC:=.seq (.reg [qP 13 .lss 12 11]) (.seq (.cond (.t 13) (.skip) (.exit 0)) (.seq (.block 1 (.seq (.reg [qA 14 1 10 12,ql 15 14,qM 7 15]) (.seq (.reg [qM 16 1,qN 17 16,qI 18 0]) (.block 2 (.loop b62_1))))) (.reg [qC 28 .add 12 1,qM 12 28])))
def s62:SF:=⟨30,[.tmp 4],.seq (.reg [sO 4 (.mv (.c (.nilsl)))]) (.seq (.reg [sO 5 (.mv (.c (.nilsl)))]) (.seq (.seq (.reg [qM 10 0,qN 11 10,qI 12 0]) (.block 0 (.loop b62_0))) (.seq (.reg [qM 29 5,qM 4 29]) (.ret))))⟩
theorem s62_ok:slimF Tryd.prog ⟨[32,48,55,93,94,95,100],[],[],[]⟩ Tryd.f62=some s62:=by kernel_rfl
def s81:SF:=⟨14,[.tmp 4],.seq (.reg [sO 4 (.mv (.c (.nilsl)))]) (.seq (.reg [qM 6 0,qM 7 1,sO 8 (.bslice 86 1 false [.nilsl] 2 [(0,.t 6),(1,.t 7)]),sO 9 (.call true 93 [.t 8]),qM 5 9]) (.seq (.reg [qM 10 5,sO 11 (.call true 94 [.t 10,.c (.fn 49 [] [])])]) (.seq (.reg [qM 12 5,sO 13 (.call true 95 [.t 12,.c (.fn 96 [] [])]),qM 4 13]) (.ret))))⟩
theorem s81_ok:slimF Tryd.prog ⟨[32,48,55,93,94,95,100],[],[],[]⟩ Tryd.f81=some s81:=by kernel_rfl
def b93_0:SC:=.seq (.reg [qP 12 .lss 11 10]) (.seq (.cond (.t 12) (.skip) (.exit 0)) (.seq (.block 1 (.seq (.reg [qA 13 1 9 11,ql 14 13,qM 5 14]) (.seq (.reg [qM 15 3,qM 16 5,qN 17 16,qP 18 .add 15 17,qM 3 18]) (.seq (.reg [qM 19 3,qC 20 .lss 19 0]) (.cond (.t 20) (.seq (.reg [sO 21 (.bad)]) (.seq (.pop none (.raise (.t 21))) (.reg []))) (.skip)))))) (.reg [qC 22 .add 11 1,qM 11 22])))
def b93_1:SC:=.seq (.reg [qP 28 .lss 27 26]) (.seq (.cond (.t 28) (.skip) (.exit 2)) (.seq (.block 3 (.seq (.reg [qA 29 1 25 27,ql 30 29,qM 8 30]) (.reg [qM 31 6,qM 32 8,sO 33 (.append 24 3 40 (.t 31) (.t 32)),qM 6 33]))) (.reg [qC 34 .add 27 1,qM 27 34])))
def s93:SF:=⟨36,[.tmp 2],.seq (.reg [sO 2 (.mv (.c (.nilsl)))]) (.seq (.reg [qI 3 0]) (.seq (.seq (.reg [qM 9 0,qN 10 9,qI 11 0]) (.block 0 (.loop b93_0))) (.seq (.reg [qM 23 3,sO 24 (.call true 100 [.c (.nilsl),.t 23]),qM 6 24]) (.seq (.seq (.reg [qM 25 0,qN 26 25,qI 27 0]) (.block 2 (.loop b93_1))) (.seq (.reg [qM 35 6,qM 2 35]) (.ret))))))⟩
theorem s93_ok:slimF Tryd.prog ⟨[32,48,55,93,94,95,100],[],[],[]⟩ Tryd.f93=some s93:=by kernel_rfl
end Go.Proofs.YteehaobohaecmaaDoor
namespace Go.Proofs.YteehaobohaecmaaDoor
open Go Go.Proofs Go.Shelf Go.Lib
section
variable {P:Program} {ρ:Go.Shelf.Ren}
theorem CallOK_grow (L : Lays8.n4 P ρ) (hcf : callable P (ρ.f 4)) (i0 : TypeInfo) (z : Value) (hi0 : P.info? (ρ.t 25) = some i0) (hz0 : i0.zero = some z) (hs0 : 0 < i0.size) (hzs : z.cells.size = i0.size)
    {n:Nat} (hb:n*i0.bytes≤140737488355328) (h63:n≤4611686018427387904) (id:Nat) (H:Heap) (hty:ρ.t 25 < 4294967296:=by decide):
    CallOK P (ρ.f 4) [.nilsl,iV (n:Nat)] H (.ms id ((H id).ver+1) 0 0) (upd H id ⟨(H id).ver+1,true,decide (n=0),ρ.t 25,i0.size,[]⟩):=by
  refine ⟨hcf,fun x cs hxH hx hr=>?_⟩
  subst hxH
  obtain ⟨c0,c1,rfl⟩: ∃ c0 c1,cs=[c0,c1]:=by
    have:=hr.1
    match cs with
    |[a,b]=>exact ⟨a,b,rfl⟩
    |[]=>simp at this
    |[_]=>simp at this
    |_::_::_::_=>simp at this
  have r0:R x .nilsl c0:=hr.2 0 _ rfl
  have r1:R x (iV (n:Nat)) c1:=hr.2 1 _ rfl
  have hc0:c0=.slice none 0 0:=by cases r0; rfl
  have hc1:c1=.int .i64 (n:Nat):=by unfold iV at r1; cases r1; rfl
  subst hc0; subst hc1
  by_cases hn:n=0
  · subst hn
    refine (Any8.slices_Grow_room L none 0 0 0 x.w (Nat.le_refl _) (by decide) (by decide) (by decide)).mono fun e w' h=>?_
    obtain ⟨rfl,rfl⟩:=h
    obtain ⟨h1,h2,h3⟩:=step_lazy hx id (ρ.t 25) i0.size hty
    exact ⟨_,{x with H:=upd x.H id ⟨(x.H id).ver+1,true,true,ρ.t 25,i0.size,[]⟩},rfl,rfl,by simp,h1,h3 _,h2⟩
  · refine (Any8.slices_Grow_grow L i0 z hi0 hz0 hs0 none 0 0 n [] x.w (Nat.le_refl _) (by omega) (by simpa using hb) (by simpa using h63) (by simp) (fun _=>rfl) (fun a h=>by cases h)).mono fun e w' h=>?_
    obtain ⟨rfl,rfl⟩:=h
    obtain ⟨dI,dF⟩:=step_draw hx (x.w.drawn+1) (Nat.le_succ _)
    have hge:0+n≤grownCap x.w (0+n) 0 (ρ.t 25):=grownCap_ge x.w _ _ _
    have hle:=grownCap_le_maxLen x.w (0+n) 0 (ρ.t 25) (by unfold maxLen; omega)
    generalize hG:grownCap x.w (0+n) 0 (ρ.t 25)=G at hge hle
    have hsz:((#[]:Array Value)++Builtin.zeroCells z.cells (0+n - 0)++Builtin.zeroCells z.cells (G - (0+n))).size=G*i0.size:=by
      have zc: ∀ m,(Builtin.zeroCells z.cells m).size=m*i0.size:=fun m=>by
        rw [size_zeroCells,hzs]
      rw [Array.size_append,Array.size_append,zc,zc]
      simp only [Array.size_empty,Nat.zero_add,Nat.sub_zero]
      rw [← Nat.add_mul]; congr 1; omega
    have hrf:([].toArray:Array Value)=#[]:=rfl
    rw [hrf]
    generalize ((#[]:Array Value)++Builtin.zeroCells z.cells (0+n - 0)++Builtin.zeroCells z.cells (G - (0+n)))=cc at hsz
    obtain ⟨h1,h2⟩:=step_own dI id cc false (ρ.t 25) i0.size [] (by simp) (by simp) (fun r row j v h=>by simp at h)
    refine ⟨_,_,rfl,rfl,by simp [hn],h1,?_,dF.trans h2⟩
    refine .ms _ _ _ _ _ _ _ (by simp [upd_same]) (fun _ _=>?_) fun _ _=>by simp only [upd_same]; rfl
    simp only [upd_same]
    refine ⟨trivial,Nat.zero_le _,hle,by simp,fun _=>⟨by simp [World.drew],?_⟩,fun h=>by simp [Blk.own] at h⟩
    simp only [Nat.zero_add]
    unfold rowSize
    have:(({x.w with drawn:=x.w.drawn+1}:World).alloc (.cells cc (ρ.t 25))).heap[({x.w with drawn:=x.w.drawn+1}:World).heap.size]?=some (.cells cc (ρ.t 25)):=heap_push_eq _ _
    rw [this]
    exact hsz.symm
theorem CallOK_growk (L:Lays8.n4 P ρ) (hcf:callable P (ρ.f 4)) {k b:Nat} {z:Value} (hi:(P.info? (ρ.t 25)).map (fun i=>(i.zero,i.size,i.bytes))=some (some z,k,b)) (hs0:0 < k) (hzs:z.cells.size=k)
    {n:Nat} (hb:n*b≤140737488355328) (h63:n≤4611686018427387904) (id:Nat) (H:Heap) (hty:ρ.t 25 < 4294967296:=by decide):
    CallOK P (ρ.f 4) [.nilsl,iV (n:Nat)] H (.ms id ((H id).ver+1) 0 0) (upd H id ⟨(H id).ver+1,true,decide (n=0),ρ.t 25,k,[]⟩):=by
  obtain ⟨i0,h1,h2⟩:=Option.map_eq_some_iff.1 hi
  simp only [Prod.mk.injEq] at h2
  obtain ⟨h3,h4,h5⟩:=h2
  subst h4; subst h5
  exact CallOK_grow L hcf i0 z h1 h3 hs0 hzs hb h63 id H hty
theorem CallOK_growv (L:Lays8.n4 P ρ) (hcf:callable P (ρ.f 4)) {k b:Nat} {z:Value} (hi:(P.info? (ρ.t 25)).map (fun i=>(i.zero,i.size,i.bytes))=some (some z,k,b)) (hs0:0 < k) (hzs:z.cells.size=k)
    {n:Nat} (hb:n*b≤140737488355328) (h63:n≤4611686018427387904) (id:Nat) {H:Heap} {w:Nat} (hv:(H id).ver=w) (hty:ρ.t 25 < 4294967296:=by decide):
    CallOK P (ρ.f 4) [.nilsl,iV (n:Nat)] H (.ms id (w+1) 0 0) (upd H id ⟨w+1,true,decide (n=0),ρ.t 25,k,[]⟩):=by
  subst hv; exact CallOK_growk L hcf hi hs0 hzs hb h63 id H hty
end
end Go.Proofs.YteehaobohaecmaaDoor
namespace Go.Proofs.YteehaobohaecmaaDoor
open Go Go.Proofs Go.Shelf
def growRen100:Go.Shelf.Ren:=⟨fun|4=>100|n=>n,fun|22=>86|25=>24|3=>3|4=>4|9=>9|20=>20|0=>0|n=>n,fun n=>n⟩
theorem growLay100:Lays8.n4 Tryd.prog growRen100:={
  mixed:=(by kernel_rfl),
  f4:=⟨Tryd.f100.name,by decide,Tryd.func100.trans (congrArg some (by kernel_rfl))⟩,
  t0:=Tryd.underlying0,
  a0:=Tryd.isAgg0,
  z0:=Tryd.sizeOf0,
  v0:=Tryd.zeroValue0,
  t3:=Tryd.underlying3,
  a3:=Tryd.isAgg3,
  z3:=Tryd.sizeOf3,
  v3:=Tryd.zeroValue3,
  t4:=Tryd.underlying4,
  a4:=Tryd.isAgg4,
  z4:=Tryd.sizeOf4,
  v4:=Tryd.zeroValue4,
  t9:=Tryd.underlying9,
  a9:=Tryd.isAgg9,
  z9:=Tryd.sizeOf9,
  v9:=Tryd.zeroValue9,
  t20:=Tryd.underlying20,
  a20:=Tryd.isAgg20,
  z20:=Tryd.sizeOf20,
  v20:=Tryd.zeroValue20,
  t22:=Tryd.underlying86,
  a22:=Tryd.isAgg86,
  z22:=Tryd.sizeOf86,
  v22:=Tryd.zeroValue86}
theorem growCall100:callable Tryd.prog 100:=⟨_,Tryd.func100,by kernel_rfl,by kernel_rfl⟩
theorem growInfo100:(Tryd.prog.info? 24).map (fun i=>(i.zero,i.size,i.bytes))=some (some (.agg #[.int .i64 0,.int .i64 0,.slice none 0 0]),3,40):=by kernel_rfl
end Go.Proofs.YteehaobohaecmaaDoor
namespace Go.Proofs.YteehaobohaecmaaDoor
open Go Go.Proofs
theorem catf_E (l:List Cl) (v2:Nat) (Hi:Heap) (h900:(Hi 900).ver=v2) (hs:(catF l).length≤2147483648):CallOK Tryd.prog 93 [(V.sl (List.map cCl (l)))] Hi (V.ms 900 (v2+1+l.length) 0 ((catF l).length)) (upd Hi 900 (⟨v2+1+l.length,true,decide ((catF l).length=0),24,3,(List.map cF (catF l))⟩:Blk)):=by
 refine eW (k0:=600) Tryd.func93 s93_ok fun hB=>?_
 unfold s93
 dsimp only
 refine W_r (R_mv rfl (R_e (W_r (R_mv rfl (R_e (W_seq_seq (W_r ?_)))))))
 refine R_mv rfl (R_len rfl (R_mv rfl (R_e (W_seq_blockgP fun Q1 n1 x1 y1 z1 w1=>?_))))
 refine W_loopP (fun mm T H=> ∃ (k:Nat),mm=l.length - k∧T 0=(V.sl (List.map cCl (l)))∧T 3=(iV (((catF (l.take k)).length:Nat):Int))∧T 9=(V.sl (List.map cCl (l)))∧T 10=(iV ((l.length:Nat):Int))∧T 11=(iV ((k:Nat):Int))∧(∀ j,j∉[900]→H j=Hi j)∧(H 900).ver=v2∧(k≤l.length)) ?_ ?_
 ·
  refine ⟨_,0,rfl,rfl,(Eq.trans (@rfl V (iV (0:Int))) (by rfl)),rfl,rfl,(Eq.trans (@rfl V (iV (0:Int))) rfl),(fun _ _=>rfl),h900,?_⟩
  · omega
 intro mm T H ⟨k,hmm,t0,t3,t9,t10,t11,hF,h900,hk⟩ Q2 p12 p22 p32 p42
 unfold b93_0
 refine W_r (R_lss t11 t10 (R_e ?_))
 refine W_seq_if rfl (fun c3=>?_) fun c3=>?_
 ·
  have hq:=catF_le (l:=l) (k:=k) (by omega)
  refine W_seq_skip (W_seq_blockgP fun Q4 n4 x4 y4 z4 w4=>(W_r (R_idx (i:=k) t9 t11 (by omega) rfl (R_load_pp rfl rfl (R_mv rfl (R_e (W_r ?_)))))))
  refine R_mv t3 (R_mv rfl (R_len rfl (R_addN rfl rfl (by omega) (R_mv rfl (R_e (W_r (R_mv rfl ?_)))))))
  refine R_lss rfl rfl (R_e ?_)
  refine W_if rfl (fun c5=>?_) fun c5=>?_
  · exfalso; omega
  refine W_skip (n4 _ _ (.done (W_t (R_addN t11 (@rfl V (iV ((1:Nat):Int))) (by omega) (R_mv rfl (R_e ?_))))))
  refine p12 _ _ _ ?_ ⟨(k+1),rfl,t0,(Eq.trans (@rfl V (iV ((((catF (l.take k)).length)+((nth (l) (k))).length:Nat):Int))) (by (rw [catF_take (by omega),List.length_append]; done))),t9,t10,(Eq.trans (@rfl V (iV ((k+1:Nat):Int))) (by rfl)),hF,h900,?_⟩
  · omega
  · omega
 have hk2:catF (l.take k)=catF l:=by rw [show k=l.length by omega,List.take_length]
 have hk3:(catF (l.take k)).length=(catF l).length:=by rw [hk2]
 refine W_seq_exit (p32 _ _ _ (x1 _ _ (.done (W_r (R_mv t3 (R_callE (evcons rfl (evcons rfl evnil)) (CallOK_growv growLay100 growCall100 growInfo100 (by decide) rfl (n:=((catF (l.take k)).length)) (by omega) (by omega) 900 h900) (R_mv rfl ?_)))))))
 refine R_e (W_seq_seq (W_r (R_mv t0 (R_len rfl (R_mv rfl (R_e (W_seq_blockgP fun Q6 n6 x6 y6 z6 w6=>?_)))))))
 refine W_loopP (fun mm T H=> ∃ (j:Nat),mm=l.length - j∧T 6=(V.ms 900 (v2+1+j) 0 ((catF (l.take j)).length))∧T 25=(V.sl (List.map cCl (l)))∧T 26=(iV ((l.length:Nat):Int))∧T 27=(iV ((j:Nat):Int))∧(∀ j,j∉[900]→H j=Hi j)∧H 900=(⟨v2+1+j,true,decide ((catF (l.take k)).length=0),24,3,(List.map cF (catF (l.take j)))⟩:Blk)∧(j≤l.length)) ?_ ?_
 ·
  refine ⟨_,0,rfl,(Eq.trans (@rfl V (V.ms 900 (v2+1) 0 (0))) (by rfl)),rfl,rfl,(Eq.trans (@rfl V (iV (0:Int))) rfl),(upd_out hF (by decide)),(Eq.trans (@rfl Blk (⟨v2+1,true,decide ((catF (l.take k)).length=0),24,3,[]⟩:Blk)) (by rfl)),?_⟩
  · omega
 intro mm T H ⟨j,hmm,t6,t25,t26,t27,hF,h900,hj⟩ Q7 p17 p27 p37 p47
 unfold b93_1
 refine W_r (R_lss t27 t26 (R_e ?_))
 refine W_seq_if rfl (fun c8=>?_) fun c8=>?_
 ·
  have hq:=catF_le (l:=l) (k:=j) (by omega)
  refine W_seq_skip (W_seq_blockgP fun Q9 n9 x9 y9 z9 w9=>(W_r (R_idx (i:=j) t25 t27 (by omega) rfl (R_load_pp rfl rfl (R_mv rfl (R_e (W_t ?_)))))))
  refine R_mv t6 (R_mv rfl (R_appendS (l:=(catF (l.take j))) (m:=((nth (l) (j)))) (f:=cF) (@rfl V (V.ms 900 (v2+1+j) 0 ((catF (l.take j)).length))) h900 (by rfl) (@rfl V (V.sl (List.map cF ((nth (l) (j)))))) cF_len cF_one (by omega) (by omega) (R_mv rfl (R_e (n9 _ _ (.done (W_t ?_)))))))
  refine R_addN t27 (@rfl V (iV ((1:Nat):Int))) (by omega) (R_mv rfl (R_e ?_))
  refine p17 _ _ _ ?_ ⟨(j+1),rfl,(Eq.trans (@rfl V (V.ms 900 (v2+1+j+1) 0 (((catF (l.take j)).length)+((nth (l) (j))).length))) (by (rw [catF_take (by omega),List.length_append]; rfl))),t25,t26,(Eq.trans (@rfl V (iV ((j+1:Nat):Int))) (by rfl)),(upd_out hF (by decide)),(Eq.trans (@rfl Blk (⟨v2+1+j+1,true,decide ((catF (l.take k)).length=0),24,3,(List.map cF (catF (l.take j)++((nth (l) (j)))))⟩:Blk)) (by (rw [catF_take (by omega)]; rfl))),?_⟩
  · omega
  · omega
 refine W_seq_exit (p37 _ _ _ (x6 _ _ (.done (W_r (R_mv t6 (R_mv rfl (R_e ?_)))))))
 refine W_ret (fork_ (R:=fun T H=>T 2=(V.ms 900 (v2+1+j) 0 ((catF (l.take j)).length))∧(∀ j,j∉[900]→H j=Hi j)∧H 900=(⟨v2+1+j,true,decide ((catF (l.take k)).length=0),24,3,(List.map cF (catF (l.take j)))⟩:Blk)∧True) ⟨(@rfl V (V.ms 900 (v2+1+j) 0 ((catF (l.take j)).length))),hF,h900,trivial⟩ ?_)
 intro T H ⟨t2,hF,h900,_⟩
 skip
 have fh:=FinX.fin (FinX.put (B:=(⟨v2+1+l.length,true,decide ((catF l).length=0),24,3,(List.map cF (catF l))⟩:Blk)) (FinX.start hF) h900 (FinB.eq (by rw [show j=l.length by omega,List.take_length,hk2])))
 exact RetF_1 t2 fh (FinV.trans_eq (FinV.ms (n:=(v2+1+l.length)) fh (by simp [h900]) (by simp [h900]) rfl rfl) (by (rw [show j=l.length by omega,List.take_length]; done)))
def r94_1:List SO:=[
 qM 7 0,
 qM 8 4,
 qM 9 4,
 sO 10 (.conv .u64 (.t 9)),
 sO 11 (.call false 56 [.t 10]),
 qM 12 1,
 sO 13 (.call true 55 [.t 7,.c (.int .i64 0),.t 8,.t 11,.t 12])]
def s94:SF:=⟨14,[],.seq (.reg [qM 5 0,qN 6 5,qM 4 6]) (.reg r94_1)⟩
theorem s94_ok:slimF Tryd.prog ⟨[32,48,55,93,94,95,100],[],[],[]⟩ Tryd.f94=some s94:=by kernel_rfl
end Go.Proofs.YteehaobohaecmaaDoor
namespace Go.Proofs.YteehaobohaecmaaDoor
open Go Go.Sort Go.Proofs Go.Shelf
def PdqSpec (P : Program) (f k : Nat) : Prop := ∀ {α : Type} [Inhabited α] (enc : α → List Value) (_ : ∀ x, (enc x).length = k) (_ : ∀ x, ∀ v ∈ enc x, v.oneCell' = true) (cf : α → α → Int) (_ : SWO (ltOf cf)) (g : Nat) (cb : Array Value) (blk off cap : Nat) (d : Array α) (w : World)
    (_: ∀ args w,(callFunc g args).run P w=.ok (.enter g args) w) (_:CmpLays P g cb enc k cf blk off d.size w) (_:HoldsK enc k w blk off d) (_:blk < w.heap.size) (_:d.size < 4611686018427387904),
    Calls P f #[.slice (some ⟨blk,off,none⟩) d.size cap,.int .i64 0,.int .i64 (d.size:Nat),.int .i64 (Lib.bitLen d.size:Nat),.func (.func g) #[] cb] w fun e w'=>
      e=.returned (.tuple #[])∧ ∃ d' n os,PermIn 0 d.size d d'∧SortedIn (ltOf cf) 0 d.size d'∧w'=sortWorldK enc k w blk off n d' os
def PdqNone (P:Program) (f:Nat):Prop:= ∀ (p:Option Addr) (cap:Nat) (lim:Int) (fv:Value) (w:World),Calls P f #[.slice p 0 cap,.int .i64 0,.int .i64 0,.int .i64 lim,fv] w fun e w'=>e=.returned (.tuple #[])∧w'=w
section
variable {P:Program}
theorem CallOK_pdq {f g k:Nat} (hS:PdqSpec P f k) (hN:PdqNone P f) (hcf:callable P f) (hcg:callable P g) {T:Type} [Inhabited T] {f0:T→List V} {l:List T} {cmp:T→T→Int}
    (hO:SWO fun a b=>decide (cmp a b < 0)) (hT: ∀ a∈l,∀ b∈l,¬cmp a b < 0→ ¬cmp b a < 0→a=b)
    (hc: ∀ a∈l,∀ b∈l,PureC P g [.agg (f0 a),.agg (f0 b)] (iV (cmp a b))) (hp: ∀ a∈l,pureL (f0 a)=true) (h1: ∀ a∈l,(f0 a).all V.one=true) (hk: ∀ a,(f0 a).length=k)
    (hl:l.length < 4611686018427387904) {id ver ty:Nat} {lz:Bool} {H:Heap} (hH:H id=⟨ver,true,lz,ty,k,l.map f0⟩):
    CallOK P f [.ms id ver 0 l.length,iV 0,iV (l.length:Nat),iV (Lib.bitLen l.length:Nat),.fn g [] []] H (.tup []) (upd H id ⟨ver,true,lz,ty,k,(srt cmp l).map f0⟩):=by
  refine ⟨hcf,fun x cs hxH hx hr=>?_⟩
  subst hxH
  obtain ⟨c0,k1,k2,k3,c1,rfl⟩: ∃ c0 k1 k2 k3 c1,cs=[c0,k1,k2,k3,c1]:=by
    have:=hr.1
    match cs with
    |[a,b,c,d,e]=>exact ⟨a,b,c,d,e,rfl⟩
    |[]=>simp at this
    |[_]=>simp at this
    |[_,_]=>simp at this
    |[_,_,_]=>simp at this
    |[_,_,_,_]=>simp at this
    |_::_::_::_::_::_::_=>simp at this
  have q1:R x (iV 0) k1:=hr.2 1 _ rfl
  have q2:R x (iV (l.length:Nat)) k2:=hr.2 2 _ rfl
  have q3:R x (iV (Lib.bitLen l.length:Nat)) k3:=hr.2 3 _ rfl
  have q1':k1=.int .i64 0:=by unfold iV at q1; cases q1; rfl
  have q2':k2=.int .i64 (l.length:Nat):=by unfold iV at q2; cases q2; rfl
  have q3':k3=.int .i64 (Lib.bitLen l.length:Nat):=by unfold iV at q3; cases q3; rfl
  subst q1'; subst q2'; subst q3'
  have r0:R x (.ms id ver 0 l.length) c0:=hr.2 0 _ rfl
  have r1:R x (.fn g [] []) c1:=hr.2 4 _ rfl
  cases r1 with
  |fn _ _ _ fs cb hfs hcs _ _=>
  have hfs':fs=#[]:=Array.eq_empty_of_size_eq_zero (by simpa using hfs)
  have hcs':cb=#[]:=Array.eq_empty_of_size_eq_zero (by simpa using hcs)
  subst hfs'; subst hcs'
  cases r0 with
  |ms _ _ _ _ b n cap hv hh hm=>
  obtain ⟨e1,e2,e3,e4,e5,e6⟩:=hh (by rw [hH]) (by rw [hH])
  subst e1
  by_cases hne:l=[]
  · subst hne
    refine (hN b cap (Lib.bitLen 0:Nat) (.func (.func g) #[] #[]) x.w).mono fun e w' h=>?_
    obtain ⟨rfl,rfl⟩:=h
    refine ⟨_,x,rfl,rfl,?_,hx,.tup [] #[] rfl (fun j v hj=>by simp at hj),Frame.refl x⟩
    funext j
    by_cases e:j=id
    · subst e; rw [upd_same,hH]; rfl
    · rw [upd_ne _ _ e]
  have hpos:0 < l.length:=List.length_pos_iff.2 hne
  have ho:(x.H id).own=true:=by
    rw [hH]
    cases l with
    |nil=>exact (hne rfl).elim
    |cons a l=>simp [Blk.own]
  obtain ⟨e7,_⟩:=e5 ho
  rw [hH] at e7
  simp only [Nat.zero_mul] at e7
  subst e7
  obtain ⟨cc,b1,b2,b3,b4⟩:=hx.cel id ho (hm (by rw [hH]) (by rw [hH]))
  simp only [hH] at b1 b2 b3 b4
  rw [List.length_map] at b3
  let A:Type:={i:Nat // i < l.length}
  haveI:Inhabited A:=⟨⟨0,hpos⟩⟩
  let enc:A→List Value:=fun i=>(List.range k).map fun j=>cc.getD (i.1*k+j) undef
  let cf:A→A→Int:=fun a b=>cmp (nth l a.1) (nth l b.1)
  let d:Array A:=Array.ofFn fun i:Fin l.length=>(⟨i.1,i.2⟩:A)
  have hdn:d.size=l.length:=by simp [d]
  have hdi: ∀ i (h:i < l.length),d[i]! =⟨i,h⟩:=fun i h=>by
    rw [getElem!_pos d i (by rw [hdn]; exact h)]; simp [d]
  have hek: ∀ a,(enc a).length=k:=fun a=>by simp [enc]
  have hej: ∀ (a:A) (j:Nat),j < k→(enc a)[j]?=some (cc.getD (a.1*k+j) undef):=fun a j hj=>by simp [enc,hj]
  have hrow: ∀ i,i < l.length→(l.map f0)[i]?=some (f0 (nth l i)):=fun i hi=>by rw [List.getElem?_map,nth_eq hi]; rfl
  have hRx: ∀ (a:A) (j:Nat) (v:V),(f0 (nth l a.1))[j]?=some v→R x v (cc.getD (a.1*k+j) undef):=fun a j v hj=>b4 a.1 _ j v (hrow a.1 a.2) hj
  have hcell: ∀ (a:A) (j:Nat),j < k→a.1*k+j < cc.size:=fun a j hj=>by
    have:(a.1+1)*k≤l.length*k:=Nat.mul_le_mul_right k a.2
    rw [Nat.add_mul,Nat.one_mul] at this
    omega
  have hO':SWO (ltOf cf):=⟨fun a=>hO.irrefl _,fun a b c=>hO.trans _ _ _,fun a b c=>hO.ntrans _ _ _⟩
  have hcmp:CmpLays P g #[] enc k cf (x.σ id) 0 d.size x.w:=by
    intro m os dk hdk a b
    let W:=sortWorldK enc k x.w (x.σ id) 0 m dk os
    let z:Cx:=start {x with w:=W} x.Z
    have hz:Inv z:=start_ok (fun b hb=>Nat.lt_of_lt_of_le (hx.zlt b hb) sortWorld_size) fun p hp=>⟨(hx.tab p hp).1,by
      obtain ⟨q1,q2⟩:=hx.tab p hp
      show ∃ ty m,W.heap[p.1]?=_
      rw [show W.heap[p.1]?=x.w.heap[p.1]? from sortWorld_other (hx.zlt _ q1) fun e=>hx.zown _ id q1 ho e.symm]; exact q2⟩
    have hag: ∀ a:A,R z (.agg (f0 (nth l a.1))) (.agg (enc a).toArray):=fun a=>by
      refine .agg _ _ (by simp [hek,hk]) fun j v hj=>?_
      have hjk:j < k:=by rw [← hk (nth l a.1)]; exact (List.getElem?_eq_some_iff.1 hj).1
      have h:=hRx a j v hj
      have hg:(enc a).toArray.getD j undef=cc.getD (a.1*k+j) undef:=by
        rw [Array.getD_eq_getD_getElem?,List.getElem?_toArray,hej a j hjk]; rfl
      rw [hg]
      refine h.pure_same (y:=z) (pureL_iff.1 (hp _ (nth_mem a.2)) v (List.mem_of_getElem? hj)) (fun b hb=>?_) fun _ h=>h
      exact sortWorld_other (hx.zlt b hb) fun e=>hx.zown b id hb ho e.symm
    have hrl:RL z [.agg (f0 (nth l a.1)),.agg (f0 (nth l b.1))] [.agg (enc a).toArray,.agg (enc b).toArray]:=by
      refine ⟨rfl,fun j v hj=>?_⟩
      match j,hj with
      |0,hj=>simp at hj; subst hj; exact hag a
      |1,hj=>simp at hj; subst hj; exact hag b
    refine ((hc _ (nth_mem a.2) _ (nth_mem b.2) H0).2 z _ rfl hz hrl).mono fun e w' h=>?_
    obtain ⟨c,y,rfl,rfl,_,_,h5,h6⟩:=h
    cases h5
    obtain ⟨q,os',hq⟩:=grown_of_frame h6 fun id=>rfl
    exact ⟨rfl,q,os',hq⟩
  have hsz:d.size < 4611686018427387904:=by rw [hdn]; exact hl
  have hH':HoldsK enc k x.w (x.σ id) 0 d:=by
    intro j hj
    rw [size_flatK,hdn] at hj
    have hk0:0 < k:=Nat.pos_of_ne_zero fun e=>by subst e; simp at hj
    have hdv:j / k < l.length:=(Nat.div_lt_iff_lt_mul hk0).2 hj
    have hmd:j % k < k:=Nat.mod_lt _ hk0
    have e:(flatK enc k d)[j]! =cc.getD j undef:=by
      rw [get_flatK _ _ _ _ (by rw [hdn]; exact hj),hdi _ hdv]
      have h:=hej ⟨j / k,hdv⟩ (j % k) hmd
      rw [List.getElem!_eq_getElem?_getD,h]
      simp only [Option.getD_some]
      rw [Nat.div_add_mod' j k]
    have hjc:j < cc.size:=by omega
    refine ⟨?_,?_⟩
    · rw [e,Nat.zero_add]; exact own_cell b1 hjc
    · simp [World.frozen?,b1]
  have hcall:=hS enc hek (fun a v hv=>by
      obtain ⟨j,hj⟩:=List.getElem?_of_mem hv
      have hjk:j < k:=by rw [← hek a]; exact (List.getElem?_eq_some_iff.1 hj).1
      rw [hej a j hjk] at hj
      cases hj
      have hu: ∃ u,(f0 (nth l a.1))[j]?=some u:=⟨_,List.getElem?_eq_getElem (by rw [hk]; exact hjk)⟩
      obtain ⟨u,hu⟩:=hu
      exact (hRx a j u hu).one (List.all_eq_true.1 (h1 _ (nth_mem a.2)) u (List.mem_of_getElem? hu))) cf hO' g #[] (x.σ id) 0 cap d x.w (enters_callable hcg) hcmp hH' (hx.lt ho) hsz
  rw [hdn] at hcall
  refine hcall.mono fun e w' h=>?_
  obtain ⟨rfl,d',n',os',hP,hSo,rfl⟩:=h
  obtain ⟨p1,_,p3⟩:=hP
  rw [hdn] at p1
  have x1:d'.extract 0 l.length=d':=by rw [← p1]; simp
  have x2:d.extract 0 l.length=d:=by rw [← hdn]; simp
  rw [x1,x2] at p3
  have hmap:d.toList.map (fun a:A=>nth l a.1)=l:=by
    refine nth_ext (by simp [hdn]) fun j hj=>?_
    have hj':j < l.length:=by simpa [hdn] using hj
    rw [nth_map (by simpa using hj),← nth_set_eq d j (by rw [hdn]; exact hj'),hdi j hj']
  have hl':d'.toList.map (fun a:A=>nth l a.1)=srt cmp l:=by
    have hperm:(d'.toList.map (fun a:A=>nth l a.1)).Perm l:=by
      have:=p3.map (fun a:A=>nth l a.1)
      rwa [hmap] at this
    refine sorted_uniq (le:=fun a b=> ¬cmp b a < 0) (fun a ha b hb h1 h2=>hT a (hperm.mem_iff.1 ha) b (hperm.mem_iff.1 hb) h2 h1) (hperm.trans (srt_perm cmp l).symm) ?_ (srt_sorted hO l)
    rw [List.pairwise_map,List.pairwise_iff_getElem]
    intro i j hi hj hij
    have h:=hSo i j (Nat.zero_le _) hij (by rw [← p1]; simpa using hj)
    rw [nth_set_eq d' i (by simpa using hi),nth_set_eq d' j (by simpa using hj),← nth_getElem hi,← nth_getElem hj] at h
    simpa [ltOf,cf] using h
  let cc':=putCells _root_.id 0 (flatK enc k d') cc
  have hcs:cc'.size=cc.size:=by simp [cc',putCells]
  have hg: ∀ r j,r < l.length→j < k→ ∀ (hr:r < d'.size),cc'.getD (r*k+j) undef=cc.getD ((d'[r]'hr).1*k+j) undef:=by
    intro r j hr hj hr'
    have hb:r*k+j < l.length*k:=by
      have:(r+1)*k≤l.length*k:=Nat.mul_le_mul_right k hr
      rw [Nat.add_mul,Nat.one_mul] at this; omega
    have hsz':(flatK enc k d').size=l.length*k:=by rw [size_flatK,p1]
    have e:cc'[r*k+j]?=some ((flatK enc k d')[r*k+j]!):=by
      simp only [cc',putCells,Array.getElem?_mapIdx]
      rw [Array.getElem?_eq_getElem (by omega)]
      simp [hsz',hb]
    rw [Array.getD_eq_getD_getElem?,e,get_flatK _ _ _ _ (by rw [p1]; exact hb)]
    have q1:(r*k+j) / k=r:=by rw [Nat.mul_comm,Nat.mul_add_div (by omega),Nat.div_eq_of_lt hj]; rfl
    have q2:(r*k+j) % k=j:=by rw [Nat.mul_comm,Nat.mul_add_mod]; exact Nat.mod_eq_of_lt hj
    rw [q1,q2,getElem!_pos d' r hr',List.getElem!_eq_getElem?_getD,hej _ j hj]
    rfl
  have hrows: ∀ (r:Nat) (row:List V) (j:Nat) (v:V),((srt cmp l).map f0)[r]?=some row→row[j]?=some v→R x v (cc'.getD (r*k+j) undef):=by
    intro r row j v hr hj
    rw [← hl',List.map_map,List.getElem?_map] at hr
    obtain ⟨a,ha,rfl⟩:=map_some hr
    have har:=List.getElem?_eq_some_iff.1 ha
    obtain ⟨hlt,hae⟩:=har
    have hlt':r < d'.size:=by simpa using hlt
    have hjk:j < k:=by rw [← hk (nth l a.1)]; exact (List.getElem?_eq_some_iff.1 hj).1
    rw [hg r j (by omega) hjk hlt']
    have hae':d'[r]'hlt'=a:=by simpa using hae
    rw [hae']
    exact hRx a j v hj
  have st:=step_set hx id ho cc cc' (by rw [hH]; exact b1) hcs (x.H id).ver ((srt cmp l).map f0) (Nat.le_refl _) (fun _=>by rw [hH]; simp [srt_len]) (by
      rw [hH]
      have:(srt cmp l).length=l.length:=by simp [srt_len]
      cases hq:srt cmp l with
      |nil=>rw [hq] at this; simp at this; omega
      |cons a q=>simp) (fun r hr=>by
      rw [hH]
      obtain ⟨a,_,rfl⟩:=List.mem_map.1 hr
      exact hk a) (by rw [hH]; simpa [srt_len] using b3) (by simp only [hH]; exact hrows)
  simp only [hH] at st
  obtain ⟨i1,f1⟩:=st
  obtain ⟨i2,f2⟩:=step_draw i1 (x.w.drawn+n') (Nat.le_add_right _ _)
  obtain ⟨i3,f3⟩:=step_grow i2 os'
  refine ⟨.tuple #[],_,rfl,?_,?_,i3,.tup [] #[] rfl (fun j v hj=>by simp at hj),(f1.trans f2).trans f3⟩
  · rw [sortWorld_eq b1]
  · rfl
end
end Go.Proofs.YteehaobohaecmaaDoor
namespace Go.Proofs.YteehaobohaecmaaDoor
open Go Go.Proofs Go.Shelf Go.Sort
theorem pdqSpec55:PdqSpec Tryd.prog 55 3:=fun {α} _ enc hk h1 cf hO g cb blk off cap d w eg hcmp hH hblk hsz=>
  (AnyQ.pdqsortCmpFunc_all (P:=Tryd.prog) (ρ:=sortRen48) {sortLay48 with} 3 Tryd.isAgg24 Tryd.sizeOf24 enc cf g cb hO blk off cap d w eg hcmp ⟨hk,h1,hH,hblk⟩ (d.size+1) 0 d.size (Lib.bitLen d.size) d w (by omega) rfl (SWK.start hH) (Nat.zero_le _) (Nat.le_refl _) hsz
    (Nat.lt_of_le_of_lt (Lib.bitLen_le d.size 62 (by omega) (by omega)) (by omega)) (Or.inl rfl)).mono fun _ _ ⟨he,n,os,hw⟩=>
      have h:=pdq_sorts (ltOf cf) hO d 0 d.size (Lib.bitLen d.size) true true (Nat.zero_le _) (Nat.le_refl _) (Or.inl rfl)
      ⟨he,_,n,os,h.1,h.2,hw⟩
theorem pdqNone55:PdqNone Tryd.prog 55:=fun p cap lim fv w=>AnyF.pdqsortCmpFunc_none (P:=Tryd.prog) (ρ:=sortRen48) {sortLay48 with} p cap lim fv w
theorem pdqCall55:callable Tryd.prog 55:=⟨_,Tryd.func55,by kernel_rfl,by kernel_rfl⟩
theorem len56_pure {n:Nat} (h:n < 4611686018427387904):PureC Tryd.prog 56 [.int .u64 (n:Nat)] (iV (Lib.bitLen n:Nat)):=fun H=>by
  refine ⟨⟨_,Tryd.func56,by kernel_rfl,by kernel_rfl⟩,fun x cs hxH hx hr=>?_⟩
  obtain ⟨c0,rfl⟩: ∃ c0,cs=[c0]:=by
    have:=hr.1
    match cs with
    |[a]=>exact ⟨a,rfl⟩
    |[]=>simp at this
    |_::_::_=>simp at this
  have r0:R x (.int .u64 (n:Nat)) c0:=hr.2 0 _ rfl
  have hc:c0=.int .u64 (n:Nat):=by cases r0; rfl
  subst hc
  have h:=Any.bits_Len (SlLaysF0.n15.bits (P:=Tryd.prog) (ρ:=sortRen48) {sortLay48 with}) (n:Int) x.w (by omega) (by omega)
  rw [Int.toNat_natCast] at h
  refine h.mono fun e w' hh=>?_
  obtain ⟨rfl,rfl⟩:=hh
  exact ⟨_,x,rfl,rfl,hxH,hx,.int _ _,Frame.refl x⟩
end Go.Proofs.YteehaobohaecmaaDoor
namespace Go.Proofs.YteehaobohaecmaaDoor
open Go Go.Proofs
theorem sortc_E (l:List Fm) (v2:Nat) (z:Bool) (Hi:Heap) (h900:Hi 900=(⟨v2,true,z,24,3,(List.map cF (l))⟩:Blk)) (hl:l.length≤2147483648):CallOK Tryd.prog 94 [(V.ms 900 v2 0 (l.length)),(V.fn 49 [] [])] Hi (V.tup []) (upd Hi 900 (⟨v2,true,z,24,3,(List.map cF (srt ordF l))⟩:Blk)):=by
 refine eW (k0:=650) Tryd.func94 s94_ok fun hB=>?_
 unfold s94
 dsimp only
 refine W_r (R_mv rfl (R_len_ms rfl h900 (by simp) (R_mv rfl (R_e (W_t (R_mv rfl (R_mv rfl ?_)))))))
 refine R_mv rfl (R_convU (n:=l.length) (@rfl V (iV ((l.length:Nat):Int))) (by omega) (R_callk ((len56_pure (n:=l.length) (by omega))) rfl (R_mv rfl (R_callE (evcons rfl (evcons rfl (evcons rfl (evcons rfl (evcons rfl evnil))))) (CallOK_pdq (f0:=cF) (l:=l) (cmp:=ordF) pdqSpec55 pdqNone55 pdqCall55 ⟨_,Tryd.func49,by kernel_rfl,by kernel_rfl⟩ ordF_swo (fun a _ b _ h1 h2=>ord_zero_of h1 h2) (fun a _ b _=>by rw [cF_eq,cF_eq]; exact cmpf_pure a b) (fun a _=>by simp) (fun a _=>cF_one a) cF_len (by omega) h900) (R_e (fork_ (R:=fun T H=>(∀ j,j∉[900]→H j=Hi j)∧H 900=(⟨v2,true,z,24,3,(List.map cF (srt ordF l))⟩:Blk)∧True) ⟨(upd_out (fun _ _=>rfl) (by decide)),rfl,trivial⟩ ?_))))))
 intro T H ⟨hF,h900,_⟩
 skip
 have fh:=FinX.fin (FinX.put (FinX.start hF) h900 (FinB.eq rfl))
 exact RetF_0 fh
def r95_6:List SO:=[
 qM 18 1,
 qM 19 0,
 qM 20 5,
 qA 21 3 19 20,
 qL 22 3 21,
 qM 23 0,
 qM 24 5,
 qC 25 .sub 24 1,
 qA 26 3 23 25,
 qL 27 3 26,
 sO 28 (.callv false (.t 18) [.t 22,.t 27])]
def r95_11:List SO:=[
 qM 38 1,
 qM 39 6,
 qM 40 7,
 qA 41 3 39 40,
 qL 42 3 41,
 qM 43 6,
 qM 44 7,
 qC 45 .sub 44 1,
 qA 46 3 43 45,
 qL 47 3 46,
 sO 48 (.callv false (.t 38) [.t 42,.t 47]),
 sO 49 (.un .not (.t 48))]
def r95_12:List SO:=[
 qM 50 0,
 qM 51 5,
 qM 52 6,
 qM 53 7,
 qA 54 3 52 53,
 qL 55 3 54,
 qA 56 3 50 51,
 sN (.store 3 (.t 56) (.t 55))]
def b95_1:SC:=.seq (.seq (.reg [qM 32 7,qM 33 6,qN 34 33,qP 35 .lss 32 34]) (.cond (.t 35) (.skip) (.exit 2))) (.seq (.block 3 (.seq (.reg r95_11) (.cond (.t 49) (.seq (.reg r95_12) (.reg [qM 57 5,qC 58 .add 57 1,qM 5 58])) (.skip)))) (.reg [qM 36 7,qC 37 .add 36 1,qM 7 37]))
def b95_0:SC:=.seq (.seq (.reg [qM 12 5,qM 13 0,qN 14 13,qP 15 .lss 12 14]) (.cond (.t 15) (.skip) (.exit 0))) (.seq (.block 1 (.seq (.reg r95_6) (.cond (.t 28) (.seq (.reg [qM 29 0,qM 30 5,sO 31 (.slice 3 (.t 29) (some (.t 30)) none),qM 6 31]) (.seq (.seq (.reg [qI 7 1]) (.block 2 (.loop b95_1))) (.seq (.reg [qM 59 0,qM 60 5,sO 61 (.slice 3 (.t 59) (some (.t 60)) none),sN (.clr [.int .i64 0,.int .i64 0,.nilsl] (.t 61))]) (.seq (.reg [qM 62 0,qM 63 5,sO 64 (.slice 3 (.t 62) none (some (.t 63))),qM 4 64]) (.ret))))) (.skip)))) (.reg [qM 16 5,qC 17 .add 16 1,qM 5 17]))
def s95:SF:=⟨66,[.tmp 4],.seq (.reg [sO 4 (.mv (.c (.nilsl)))]) (.seq (.seq (.reg [qM 8 0,qN 9 8,qC 10 .lss 9 2]) (.cond (.t 10) (.seq (.reg [qM 11 0,qM 4 11]) (.ret)) (.skip))) (.seq (.seq (.reg [qI 5 1]) (.block 0 (.loop b95_0))) (.seq (.reg [qM 65 0,qM 4 65]) (.ret))))⟩
theorem s95_ok:slimF Tryd.prog ⟨[32,48,55,93,94,95,100],[],[],[]⟩ Tryd.f95=some s95:=by kernel_rfl
def r96_1:List SO:=[
 qF 5 0 2,
 ql 6 5,
 qF 7 0 3,
 ql 8 7,
 qP 9 .eql 6 8,
 qM 10 9,
 ⟨some (10,true),some 11,.fld 1 (.t 2)⟩,
 ⟨some (10,true),some 12,.load false 1 (.t 11)⟩,
 ⟨some (10,true),some 13,.fld 1 (.t 3)⟩,
 ⟨some (10,true),some 14,.load false 1 (.t 13)⟩,
 ⟨some (10,true),some 15,.bin .eql (.t 12) (.t 14)⟩,
 sO 16 (.pick (.t 10) (.t 15) (.c (.bool false))),
 qM 17 16,
 ⟨some (17,true),some 18,.fld 2 (.t 2)⟩,
 ⟨some (17,true),some 19,.load false 1 (.t 18)⟩,
 ⟨some (17,true),some 20,.fld 2 (.t 3)⟩,
 ⟨some (17,true),some 21,.load false 1 (.t 20)⟩,
 ⟨some (17,true),some 22,.call false 101 [.t 19,.t 21,.c (.fn 96 [] [])]⟩,
 sO 23 (.pick (.t 17) (.t 22) (.c (.bool false))),
 qM 4 23]
def s96:SF:=⟨24,[.tmp 4],.seq (.reg [sO 2 (.box 24 3 (.t 0)),sO 3 (.box 24 3 (.t 1)),sO 4 (.mv (.c (.bool false)))]) (.seq (.reg r96_1) (.ret))⟩
theorem s96_ok:slimF Tryd.prog ⟨[32,48,55,93,94,95,100],[],[],[]⟩ Tryd.f96=some s96:=by kernel_rfl
def b101_0:SC:=.seq (.reg [qP 18 .lss 17 16]) (.seq (.cond (.t 18) (.skip) (.exit 0)) (.seq (.block 1 (.seq (.reg [qM 19 17,qA 20 3 15 17,qL 21 3 20,sO 8 (.alloc 24 [.int .i64 0,.int .i64 0,.nilsl]),qM 7 19,sN (.store 3 (.t 8) (.t 21))]) (.seq (.reg [qM 22 1,qM 23 7,qA 24 3 22 23,qL 25 3 24,sO 9 (.alloc 24 [.int .i64 0,.int .i64 0,.nilsl]),sN (.store 3 (.t 9) (.t 25))]) (.seq (.reg [qM 26 2,qL 27 3 8,qL 28 3 9,sO 29 (.callv false (.t 26) [.t 27,.t 28]),sO 30 (.un .not (.t 29))]) (.cond (.t 30) (.seq (.reg [sO 6 (.mv (.c (.bool false)))]) (.ret)) (.skip)))))) (.reg [qC 31 .add 17 1,qM 17 31])))
def s101:SF:=⟨32,[.tmp 6],.seq (.reg [sO 6 (.mv (.c (.bool false)))]) (.seq (.seq (.reg [qM 10 0,qN 11 10,qM 12 1,qN 13 12,qP 14 .neq 11 13]) (.cond (.t 14) (.seq (.reg [sO 6 (.mv (.c (.bool false)))]) (.ret)) (.skip))) (.seq (.seq (.reg [qM 15 0,qN 16 15,qI 17 0]) (.block 0 (.loop b101_0))) (.seq (.reg [sO 6 (.mv (.c (.bool true)))]) (.ret))))⟩
theorem s101_ok:slimF Tryd.prog ⟨[32,48,55,93,94,95,100],[],[],[]⟩ Tryd.f101=some s101:=by kernel_rfl
theorem eqf_pure (l m:List Fm) (hq: ∀ k,k < l.length→k < m.length→PureC Tryd.prog 96 [(V.agg [(iV ((nth l k).op)),(iV ((nth l k).arg)),(V.sl (List.map cF ((nth l k).kids)))]),(V.agg [(iV ((nth m k).op)),(iV ((nth m k).arg)),(V.sl (List.map cF ((nth m k).kids)))])] (V.bool (sameF (nth l k) (nth m k)))):PureC Tryd.prog 101 [(V.sl (List.map cF (l))),(V.sl (List.map cF (m))),(V.fn 96 [] [])] (V.bool (decide (l.length=m.length)&&sameL l m)):=by
 refine pW Tryd.func101 s101_ok fun hB=>?_
 unfold s101
 dsimp only
 refine W_r (R_mv rfl (R_e (W_seq_seq (W_r (R_mv rfl (R_len rfl (R_mv rfl ?_)))))))
 refine R_len rfl (R_neq rfl rfl (R_e ?_))
 refine W_seq_if rfl (fun c1=>?_) fun c1=>?_
 ·
  refine W_seq_seq (W_r (R_mv rfl (R_e (W_seq_ret ?_))))
  refine Ret_1 (@rfl V (V.bool false)) (fz_bool ?_)
  · rw [decide_eq_false (by omega),Bool.false_and]
 refine W_seq_skip (W_seq_seq (W_r (R_mv rfl (R_len rfl (R_mv rfl (R_e (W_seq_blockg fun Q2 n2 x2 y2 z2=>?_)))))))
 refine W_loop (fun mm T H=> ∃ (k:Nat) (v8:Nat) (v9:Nat),mm=l.length - k∧T 1=(V.sl (List.map cF (m)))∧T 2=(V.fn 96 [] [])∧T 15=(V.sl (List.map cF (l)))∧T 16=(iV ((l.length:Nat):Int))∧T 17=(iV ((k:Nat):Int))∧(H 8).ver=v8∧(H 9).ver=v9∧(k≤l.length)∧(l.length=m.length)∧(sameL l m=sameL (l.drop k) (m.drop k))) ?_ ?_
 ·
  refine ⟨_,0,0,0,rfl,rfl,rfl,rfl,rfl,(Eq.trans (@rfl V (iV (0:Int))) rfl),(congrArg Blk.ver rfl),(congrArg Blk.ver rfl),?_,?_,?_⟩
  · omega
  · omega
  · rfl
 intro mm T H ⟨k,v8,v9,hmm,t1,t2,t15,t16,t17,h8,h9,hk,hl,hc⟩ Q3 p13 p23 p33
 unfold b101_0
 refine W_r (R_lss t17 t16 (R_e ?_))
 refine W_seq_if rfl (fun c4=>?_) fun c4=>?_
 ·
  refine W_seq_skip (W_seq_blockg fun Q5 n5 x5 y5 z5=>(W_r (R_mv t17 (R_idxu (i:=k) t15 t17 (by omega) (cF_eq _) rfl (R_load_pp rfl rfl (R_alloc (i:=8) (n:=v8) (m:=3) rfl h8 rfl (R_mv rfl ?_)))))))
  refine R_sk rfl rfl rfl rfl rfl rfl rfl rfl rfl (R_e (W_r (R_mv t1 (R_mv rfl (R_idxu (i:=k) (@rfl V (V.sl (List.map cF (m)))) (@rfl V (iV ((k:Nat):Int))) (by omega) (cF_eq _) rfl (R_load_pp rfl rfl (R_alloc (i:=9) (n:=v9) (m:=3) rfl h9 rfl ?_)))))))
  refine R_sk rfl rfl rfl rfl rfl rfl rfl rfl rfl (R_e (W_r (R_mv t2 (R_lk rfl rfl rfl rfl (R_lk rfl rfl rfl rfl (R_callv (@rfl V (V.fn 96 [] [])) (evcons (@rfl V (V.agg [(iV (((nth (l) (k))).op)),(iV (((nth (l) (k))).arg)),(V.sl (List.map cF (((nth (l) (k))).kids)))])) (evcons (@rfl V (V.agg [(iV (((nth (m) (k))).op)),(iV (((nth (m) (k))).arg)),(V.sl (List.map cF (((nth (m) (k))).kids)))])) evnil)) (hq k (by omega) (by omega)) (fzv_mapcanon _ _ (by simp [-List.map_take,-List.map_drop,-List.map_append,-List.map_reverse])) (by simp [-List.map_take,-List.map_drop,-List.map_append,-List.map_reverse]) (Or.inl (by simp [-List.map_take,-List.map_drop,-List.map_append,-List.map_reverse])) (R_notb rfl ?_)))))))
  refine R_e ?_
  refine W_ifb rfl (fun c6=>?_) (fun c6=>?_)
  ·
   have d1:sameF (nth l k) (nth m k)=false:=by simpa using c6
   refine W_r (R_mv rfl (R_e (W_ret (y5 _ _ (p23 _ _ (y2 _ _ ?_))))))
   refine Ret_1 (@rfl V (V.bool false)) (fz_bool ?_)
   · rw [hc,sameL_no (by omega) (by omega) d1,Bool.and_false]
  have d1:sameF (nth l k) (nth m k)=true:=by simpa using c6
  refine W_skip (n5 _ _ (.done (W_t (R_addN t17 (@rfl V (iV ((1:Nat):Int))) (by omega) (R_mv rfl (R_e ?_))))))
  refine p13 _ _ _ ?_ ⟨(k+1),(v8+1),(v9+1),rfl,t1,t2,t15,t16,(Eq.trans (@rfl V (iV ((k+1:Nat):Int))) (by rfl)),(congrArg Blk.ver rfl),(congrArg Blk.ver rfl),?_,?_,?_⟩
  · omega
  · omega
  · omega
  · rw [hc,sameL_yes (by omega) (by omega) d1]
 refine W_seq_exit (p33 _ _ _ (x2 _ _ (.done (W_r (R_mv rfl (R_e (W_ret ?_)))))))
 refine Ret_1 (@rfl V (V.bool true)) (fz_bool ?_)
 · rw [hc,sameL_end (by omega),Bool.and_true,decide_eq_true (by omega)]
theorem fsame_pure_step (f h:Fm) (ih: ∀ (g h:Fm),g.sz < f.sz→PureC Tryd.prog 96 [(V.agg [(iV (g.op)),(iV (g.arg)),(V.sl (List.map cF (g.kids)))]),(V.agg [(iV (h.op)),(iV (h.arg)),(V.sl (List.map cF (h.kids)))])] (V.bool (sameF g h))):PureC Tryd.prog 96 [(V.agg [(iV (f.op)),(iV (f.arg)),(V.sl (List.map cF (f.kids)))]),(V.agg [(iV (h.op)),(iV (h.arg)),(V.sl (List.map cF (h.kids)))])] (V.bool (sameF f h)):=by
 refine pW Tryd.func96 s96_ok fun hB=>?_
 unfold s96
 dsimp only
 refine W_r (R_box (i:=2) (n:=0) (m:=3) (cs:=[(iV (f.op)),(iV (f.arg)),(V.sl (List.map cF (f.kids)))]) rfl (congrArg Blk.ver rfl) rfl rfl rfl (R_box (i:=3) (n:=0) (m:=3) (cs:=[(iV (h.op)),(iV (h.arg)),(V.sl (List.map cF (h.kids)))]) rfl (congrArg Blk.ver rfl) rfl rfl rfl (R_mv rfl (R_e (W_r (R_fk rfl rfl (R_lk rfl rfl rfl rfl ?_)))))))
 refine R_fk rfl rfl (R_lk rfl rfl rfl rfl (R_eql rfl rfl (R_mv rfl ?_)))
 refine Ops_seg 6 (fun T H=>T 2=(V.mp 2 1 0 0)∧T 3=(V.mp 3 1 0 0)∧T 16=(V.bool (decide (((f.op)=(h.op))∧((f.arg)=(h.arg)))))∧H 2=(bk 1 24 3 [[(iV (f.op)),(iV (f.arg)),(V.sl (List.map cF (f.kids)))]])∧H 3=(bk 1 24 3 [[(iV (h.op)),(iV (h.arg)),(V.sl (List.map cF (h.kids)))]])∧True) ?_ ?_
 ·
  by_cases g1:(f.op)=(h.op)
  ·
   refine G_yes (edT g1 rfl) (R_fk rfl rfl (G_yes (edT g1 rfl) (R_lk rfl rfl rfl rfl (G_yes (edT g1 rfl) (R_fk rfl rfl (G_yes (edT g1 rfl) (R_lk rfl rfl rfl rfl ?_)))))))
   refine G_yes (edT g1 rfl) (R_eql rfl rfl (R_pickT (edT g1 rfl) rfl ?_))
   exact ⟨rfl,rfl,(dec_andT g1),rfl,rfl,trivial⟩
  ·
   refine G_n (edF g1 rfl) (G_n (edF g1 rfl) (G_n (edF g1 rfl) (G_n (edF g1 rfl) (G_n (edF g1 rfl) (R_pickF (edF g1 rfl) rfl ?_)))))
   exact ⟨rfl,rfl,(dec_andF g1),rfl,rfl,trivial⟩
 intro T H ⟨t2,t3,t16,h2,h3,_⟩
 refine R_mv t16 ?_
 refine Ops_seg 6 (fun T H=>T 23=(V.bool ((decide (((f.op)=(h.op))∧((f.arg)=(h.arg)))&&(decide (f.kids.length=h.kids.length)&&sameL f.kids h.kids))))∧H 2=(bk 1 24 3 [[(iV (f.op)),(iV (f.arg)),(V.sl (List.map cF (f.kids)))]])∧H 3=(bk 1 24 3 [[(iV (h.op)),(iV (h.arg)),(V.sl (List.map cF (h.kids)))]])∧True) ?_ ?_
 ·
  by_cases g2:((f.op)=(h.op))∧((f.arg)=(h.arg))
  ·
   refine G_yes (edT g2 rfl) (R_fk t2 h2 (G_yes (edT g2 rfl) (R_lk rfl h2 rfl rfl (G_yes (edT g2 rfl) (R_fk t3 h3 (G_yes (edT g2 rfl) (R_lk rfl h3 rfl rfl ?_)))))))
   refine G_yes (edT g2 rfl) (R_callk (eqf_pure f.kids h.kids (fun k h1 h2=>ih (nth f.kids k) (nth h.kids k) (Fm.sz_kid h1))) rfl (R_pickT (edT g2 rfl) rfl ?_))
   exact ⟨(dbandT g2),h2,h3,trivial⟩
  ·
   refine G_n (edF g2 rfl) (G_n (edF g2 rfl) (G_n (edF g2 rfl) (G_n (edF g2 rfl) (G_n (edF g2 rfl) (R_pickF (edF g2 rfl) rfl ?_)))))
   exact ⟨(dbandF g2),h2,h3,trivial⟩
 intro T H ⟨t23,h2,h3,_⟩
 refine R_mv t23 (R_e (W_ret ?_))
 refine Ret_1 (@rfl V (V.bool ((decide (((f.op)=(h.op))∧((f.arg)=(h.arg)))&&(decide (f.kids.length=h.kids.length)&&sameL f.kids h.kids))))) (fz_bool ?_)
 · rw [sameF_eq]; simp only [Bool.and_assoc,Bool.decide_and]
theorem fsame_pure (f h:Fm):PureC Tryd.prog 96 [(V.agg [(iV (f.op)),(iV (f.arg)),(V.sl (List.map cF (f.kids)))]),(V.agg [(iV (h.op)),(iV (h.arg)),(V.sl (List.map cF (h.kids)))])] (V.bool (sameF f h)):=by
  have key: ∀ (mm:Nat) (f h:Fm),f.sz < mm→PureC Tryd.prog 96 [(V.agg [(iV (f.op)),(iV (f.arg)),(V.sl (List.map cF (f.kids)))]),(V.agg [(iV (h.op)),(iV (h.arg)),(V.sl (List.map cF (h.kids)))])] (V.bool (sameF f h)):=by
    intro mm
    induction mm with
    |zero=>intro f h hlt; exact absurd hlt (Nat.not_lt_zero _)
    | succ mm ih =>
      intro f h hlt
      exact fsame_pure_step f h fun f2 h2 hlt2=>ih f2 h2 (by omega)
  exact key (f.sz+1) f h (Nat.lt_succ_self _)
theorem compc_E (l:List Fm) (v2 len:Nat) (z:Bool) (Hi:Heap) (h900:Hi 900=(⟨v2,true,z,24,3,(List.map cF (l))⟩:Blk)) (hn:len=l.length) (hl:l.length≤2147483648):CallOK Tryd.prog 95 [(V.ms 900 v2 0 (len)),(V.fn 96 [] [])] Hi (V.ms 900 v2 0 ((dfK l l.length).length)) (upd Hi 900 (⟨v2,true,z,24,3,(List.map cF (dfK l l.length)++List.replicate (l.length - (dfK l l.length).length) [iV 0,iV 0,V.nilsl])⟩:Blk)):=by
 refine eW (k0:=400) Tryd.func95 s95_ok fun hB=>?_
 unfold s95
 dsimp only
 refine W_r (R_mv rfl (R_e (W_seq_seq (W_r (R_mv rfl (R_len_ms rfl h900 (by simp) (R_lss rfl rfl ?_)))))))
 refine R_e ?_
 refine W_seq_if rfl (fun c1=>?_) fun c1=>?_
 ·
  refine W_seq_seq (W_r (R_mv rfl (R_mv rfl (R_e (W_seq_ret (fork_ (R:=fun T H=>T 4=(V.ms 900 v2 0 (len))∧(∀ j,j∉[900]→H j=Hi j)∧H 900=(⟨v2,true,z,24,3,(List.map cF (l))⟩:Blk)∧True) ⟨(@rfl V (V.ms 900 v2 0 (len))),(fun _ _=>rfl),h900,trivial⟩ ?_))))))
  intro T H ⟨t4,hF,h900,_⟩
  have hall:=df_all (l:=l) (fun i i1 i2=>by omega)
  have fh:=FinX.fin (FinX.put (B:=(⟨v2,true,z,24,3,(List.map cF (dfK l l.length)++List.replicate (l.length - (dfK l l.length).length) [iV 0,iV 0,V.nilsl])⟩:Blk)) (FinX.start hF) h900 (FinB.eq (by (rw [hall]; simp; done))))
  exact RetF_1 t4 fh (FinV.trans_eq (FinV.same fh _) (by (rw [hall,hn]; done)))
 refine W_seq_skip (W_seq_seq (W_r (R_mv rfl (R_e (W_seq_blockg fun Q2 n2 x2 y2 z2=>?_)))))
 refine W_loop (fun mm T H=> ∃ (k:Nat),mm=l.length - k∧T 0=(V.ms 900 v2 0 (len))∧T 1=(V.fn 96 [] [])∧T 5=(iV ((k:Nat):Int))∧(∀ j,j∉[900]→H j=Hi j)∧H 900=(⟨v2,true,z,24,3,(List.map cF (l))⟩:Blk)∧(1≤k)∧(k≤l.length)∧(∀ i,1≤i→i < k→nth l i≠nth l (i - 1))) ?_ ?_
 ·
  refine ⟨_,1,rfl,rfl,rfl,(Eq.trans (@rfl V (iV (1:Int))) rfl),(fun _ _=>rfl),h900,?_,?_,?_⟩
  · omega
  · omega
  · intro i h1 h2; omega
 intro mm T H ⟨k,hmm,t0,t1,t5,hF,h900,h1,hk,hc⟩ Q3 p13 p23 p33
 unfold b95_0
 refine W_seq_seq (W_r (R_mv t5 (R_mv t0 (R_len_ms rfl h900 (by simp) (R_lss rfl rfl (R_e ?_))))))
 refine W_seq_if rfl (fun c4=>?_) fun c4=>?_
 ·
  refine W_seq_skip (W_seq_blockg fun Q5 n5 x5 y5 z5=>(W_r (R_mv t1 (R_mv t0 (R_mv t5 (R_idx_ms0 (i:=k) (@rfl V (V.ms 900 v2 0 (len))) (@rfl V (iV ((k:Nat):Int))) h900 (okB_map (by omega)) rfl (by omega) (R_load_mp (v:=(V.agg [(iV (((nth (l) (k))).op)),(iV (((nth (l) (k))).arg)),(V.sl (List.map cF (((nth (l) (k))).kids)))])) rfl h900 (ldB_map (by omega) (by (rw [cF_eq]; rfl))) ?_)))))))
  refine R_mv t0 (R_mv t5 (R_sub rfl rfl (by omega) (by omega) (R_idxI_ms0 (i:=(((k:Nat):Int) - (1:Int))) (@rfl V (V.ms 900 v2 0 (len))) (@rfl V (iV (((k:Nat):Int) - (1:Int)))) h900 (okB_map (by omega)) rfl (by omega) (by omega) (R_load_mp (v:=(V.agg [(iV (((nth (l) (((((k:Nat):Int) - (1:Int))).toNat))).op)),(iV (((nth (l) (((((k:Nat):Int) - (1:Int))).toNat))).arg)),(V.sl (List.map cF (((nth (l) (((((k:Nat):Int) - (1:Int))).toNat))).kids)))])) rfl h900 (ldB_map (by omega) (by (rw [cF_eq]; rfl))) (R_callv (@rfl V (V.fn 96 [] [])) (evcons (@rfl V (V.agg [(iV (((nth (l) (k))).op)),(iV (((nth (l) (k))).arg)),(V.sl (List.map cF (((nth (l) (k))).kids)))])) (evcons (@rfl V (V.agg [(iV (((nth (l) (((((k:Nat):Int) - (1:Int))).toNat))).op)),(iV (((nth (l) (((((k:Nat):Int) - (1:Int))).toNat))).arg)),(V.sl (List.map cF (((nth (l) (((((k:Nat):Int) - (1:Int))).toNat))).kids)))])) evnil)) (fsame_pure (((nth (l) (k)))) (((nth (l) (((((k:Nat):Int) - (1:Int))).toNat))))) (fzv_mapcanon _ _ (by simp [-List.map_take,-List.map_drop,-List.map_append,-List.map_reverse])) (by simp [-List.map_take,-List.map_drop,-List.map_append,-List.map_reverse]) (Or.inl (by simp [-List.map_take,-List.map_drop,-List.map_append,-List.map_reverse])) (R_e ?_))))))
  refine W_ifb rfl (fun c6=>?_) (fun c6=>?_)
  ·
   have d1:nth l k=nth l (k - 1):=by have q:=(sameF_iff _ _).1 c6; rwa [show (((k:Nat):Int) - (1:Int)).toNat=k - 1 by omega] at q
   have hd:=df_start h1 (by omega) hc d1
   refine W_r (R_mv t0 (R_mv t5 (R_slice_ms_lo (n:=k) (@rfl V (V.ms 900 v2 0 (len))) (@rfl V (iV ((k:Nat):Int))) h900 (okB_map (by omega)) rfl (by omega) (R_mv rfl (R_e (W_seq_seq (W_r ?_)))))))
   refine R_mv rfl (R_e (W_seq_blockg fun Q7 n7 x7 y7 z7=>?_))
   refine W_loop (fun mm T H=> ∃ (j:Nat),mm=l.length - (k+j)∧T 0=(V.ms 900 v2 0 (len))∧T 1=(V.fn 96 [] [])∧T 5=(iV (((dfK l (k+j)).length:Nat):Int))∧T 6=(V.ms 900 v2 (0+k) (len - k))∧T 7=(iV ((j:Nat):Int))∧(∀ j,j∉[900]→H j=Hi j)∧H 900=(⟨v2,true,z,24,3,(List.map cF (dfL l (k+j)))⟩:Blk)∧(k+j≤l.length)∧(1≤j)∧((dfK l (k+j)).length < k+j)) ?_ ?_
   ·
    refine ⟨_,1,rfl,t0,t1,(Eq.trans t5 (by (rw [hd.1]; done))),(Eq.trans (@rfl V (V.ms 900 v2 (0+k) (len - k))) (by rfl)),(Eq.trans (@rfl V (iV (1:Int))) rfl),hF,(Eq.trans h900 (by (rw [hd.2]; done))),?_,?_,?_⟩
    · omega
    · omega
    · rw [hd.1]; omega
   intro mm T H ⟨j,hmm,t0,t1,t5,t6,t7,hF,h900,hj,hj1,hlt⟩ Q8 p18 p28 p38
   unfold b95_1
   have q1:=dfL_len (L:=l) (j:=k+j) hj
   have q5:=df_at hlt hj1
   have q6:=df_pos (l:=l) (j:=k+j) (by omega)
   refine W_seq_seq (W_r (R_mv t7 (R_mv t6 (R_len_ms rfl h900 (by simp) (R_lss rfl rfl (R_e ?_))))))
   refine W_seq_if rfl (fun c9=>?_) fun c9=>?_
   ·
    refine W_seq_skip (W_seq_blockg fun Q10 n10 x10 y10 z10=>(W_r (R_mv t1 (R_mv t6 (R_mv t7 (R_idx_ms (i:=j) (@rfl V (V.ms 900 v2 (0+k) (len - k))) (@rfl V (iV ((j:Nat):Int))) h900 (okB_map (by omega)) rfl (by omega) (R_load_mp (v:=(V.agg [(iV (((nth (dfL l (k+j)) ((0+k)+(j)))).op)),(iV (((nth (dfL l (k+j)) ((0+k)+(j)))).arg)),(V.sl (List.map cF (((nth (dfL l (k+j)) ((0+k)+(j)))).kids)))])) rfl h900 (ldB_map (by omega) (by (rw [cF_eq]; rfl))) ?_)))))))
    refine R_mv t6 (R_mv t7 (R_sub rfl rfl (by omega) (by omega) (R_idxI_ms (i:=(((j:Nat):Int) - (1:Int))) (@rfl V (V.ms 900 v2 (0+k) (len - k))) (@rfl V (iV (((j:Nat):Int) - (1:Int)))) h900 (okB_map (by omega)) rfl (by omega) (by omega) (R_load_mp (v:=(V.agg [(iV (((nth (dfL l (k+j)) ((0+k)+((((j:Nat):Int) - (1:Int))).toNat))).op)),(iV (((nth (dfL l (k+j)) ((0+k)+((((j:Nat):Int) - (1:Int))).toNat))).arg)),(V.sl (List.map cF (((nth (dfL l (k+j)) ((0+k)+((((j:Nat):Int) - (1:Int))).toNat))).kids)))])) rfl h900 (ldB_map (by omega) (by (rw [cF_eq]; rfl))) (R_callv (@rfl V (V.fn 96 [] [])) (evcons (@rfl V (V.agg [(iV (((nth (dfL l (k+j)) ((0+k)+(j)))).op)),(iV (((nth (dfL l (k+j)) ((0+k)+(j)))).arg)),(V.sl (List.map cF (((nth (dfL l (k+j)) ((0+k)+(j)))).kids)))])) (evcons (@rfl V (V.agg [(iV (((nth (dfL l (k+j)) ((0+k)+((((j:Nat):Int) - (1:Int))).toNat))).op)),(iV (((nth (dfL l (k+j)) ((0+k)+((((j:Nat):Int) - (1:Int))).toNat))).arg)),(V.sl (List.map cF (((nth (dfL l (k+j)) ((0+k)+((((j:Nat):Int) - (1:Int))).toNat))).kids)))])) evnil)) (fsame_pure (((nth (dfL l (k+j)) ((0+k)+(j))))) (((nth (dfL l (k+j)) ((0+k)+((((j:Nat):Int) - (1:Int))).toNat))))) (fzv_mapcanon _ _ (by simp [-List.map_take,-List.map_drop,-List.map_append,-List.map_reverse])) (by simp [-List.map_take,-List.map_drop,-List.map_append,-List.map_reverse]) (Or.inl (by simp [-List.map_take,-List.map_drop,-List.map_append,-List.map_reverse])) (R_notb rfl (R_e ?_)))))))
    refine W_ifb rfl (fun c11=>?_) (fun c11=>?_)
    ·
     have d5:nth l (k+j)≠nth l (k+j - 1):=fun q=>by have e:=(sameF_iff _ _).2 q; have c:=c11; rw [q5.1,q5.2,e] at c; cases c
     refine W_r (R_mv t0 (R_mv t5 (R_mv t6 (R_mv t7 (R_idx_ms (i:=j) (@rfl V (V.ms 900 v2 (0+k) (len - k))) (@rfl V (iV ((j:Nat):Int))) h900 (okB_map (by omega)) rfl (by omega) (R_load_mp (v:=(V.agg [(iV (((nth (dfL l (k+j)) ((0+k)+(j)))).op)),(iV (((nth (dfL l (k+j)) ((0+k)+(j)))).arg)),(V.sl (List.map cF (((nth (dfL l (k+j)) ((0+k)+(j)))).kids)))])) rfl h900 (ldB_map (by omega) (by (rw [cF_eq]; rfl))) (R_idx_ms0 (i:=((dfK l (k+j)).length)) (@rfl V (V.ms 900 v2 0 (len))) (@rfl V (iV (((dfK l (k+j)).length:Nat):Int))) h900 (okB_map (by omega)) rfl (by omega) ?_)))))))
     refine R_store (vs:=[(iV (((nth (dfL l (k+j)) ((0+k)+(j)))).op)),(iV (((nth (dfL l (k+j)) ((0+k)+(j)))).arg)),(V.sl (List.map cF (((nth (dfL l (k+j)) ((0+k)+(j)))).kids)))]) (B':=(⟨v2,true,z,24,3,(List.map cF ((dfL l (k+j)).set ((dfK l (k+j)).length) (((nth (dfL l (k+j)) ((0+k)+(j)))))))⟩:Blk)) rfl rfl rfl h900 (stB_map (x:=(((nth (dfL l (k+j)) ((0+k)+(j)))))) (i:=((dfK l (k+j)).length)) (by omega) (cF_eq _).symm rfl (cF_len _) rfl) (R_e (W_t (R_mv t5 (R_addN rfl (@rfl V (iV ((1:Nat):Int))) (by omega) (R_mv rfl (R_e (n10 _ _ ?_)))))))
     refine .done (W_t (R_mv t7 (R_addN rfl (@rfl V (iV ((1:Nat):Int))) (by omega) (R_mv rfl (R_e ?_)))))
     refine p18 _ _ _ ?_ ⟨(j+1),rfl,t0,t1,(Eq.trans (@rfl V (iV ((((dfK l (k+j)).length)+1:Nat):Int))) (by (show _=iV (((dfK l ((k+j)+1)).length:Nat):Int); rw [dfK_keep (.inr d5),List.length_append]; rfl))),(Eq.trans t6 (by rfl)),(Eq.trans (@rfl V (iV ((j+1:Nat):Int))) (by rfl)),(upd_out hF (by decide)),(Eq.trans (@rfl Blk (⟨v2,true,z,24,3,(List.map cF ((dfL l (k+j)).set ((dfK l (k+j)).length) (((nth (dfL l (k+j)) ((0+k)+(j)))))))⟩:Blk)) (by (rw [q5.1,dfL_keep (show k+j < l.length by omega) (.inr d5)]; rfl))),?_,?_,?_⟩
     · omega
     · omega
     · omega
     · first|(show (dfK l ((k+j)+1)).length < (k+j)+1; rw [dfK_keep (.inr d5),List.length_append]; simp; omega)|(show (dfK l ((k+j)+1)).length < (k+j)+1; rw [dfK_skip (by rintro (q|q); omega; exact q d5)]; omega)
    have d5:nth l (k+j)=nth l (k+j - 1):=by have c:=c11; rw [q5.1,q5.2] at c; exact (sameF_iff _ _).1 (by simpa using c)
    refine W_skip (n10 _ _ (.done (W_t (R_mv t7 (R_addN rfl (@rfl V (iV ((1:Nat):Int))) (by omega) (R_mv rfl (R_e ?_)))))))
    refine p18 _ _ _ ?_ ⟨(j+1),rfl,t0,t1,(Eq.trans t5 (by (show _=iV (((dfK l ((k+j)+1)).length:Nat):Int); rw [dfK_skip (by rintro (q|q); omega; exact q d5)]; done))),(Eq.trans t6 (by rfl)),(Eq.trans (@rfl V (iV ((j+1:Nat):Int))) (by rfl)),hF,(Eq.trans h900 (by (show _=(⟨_,_,_,_,_,List.map cF (dfL l ((k+j)+1))⟩:Blk); rw [dfL_skip (by rintro (q|q); omega; exact q d5)]; done))),?_,?_,?_⟩
    · omega
    · omega
    · omega
    · first|(show (dfK l ((k+j)+1)).length < (k+j)+1; rw [dfK_keep (.inr d5),List.length_append]; simp; omega)|(show (dfK l ((k+j)+1)).length < (k+j)+1; rw [dfK_skip (by rintro (q|q); omega; exact q d5)]; omega)
   refine W_seq_exit (p38 _ _ _ (x7 _ _ (.done (W_r (R_mv t0 (R_mv t5 (R_slice_ms_lo (n:=((dfK l (k+j)).length)) (@rfl V (V.ms 900 v2 0 (len))) (@rfl V (iV (((dfK l (k+j)).length:Nat):Int))) h900 (okB_map (by omega)) rfl (by omega) ?_)))))))
   refine R_clr (m:=(((dfK l (k+j)).length))) (n:=(len - ((dfK l (k+j)).length))) (f:=cF) (l:=(dfL l (k+j))) (Eq.trans (@rfl V (V.ms 900 v2 (0+((dfK l (k+j)).length)) (len - ((dfK l (k+j)).length)))) (congrArg (fun n=>V.ms 900 v2 n (len - ((dfK l (k+j)).length))) (Nat.zero_add _))) h900 rfl (by decide) rfl (by omega) (by omega) (R_e (W_r (R_mv t0 (R_mv t5 (R_slice_ms_hi (n:=((dfK l (k+j)).length)) (@rfl V (V.ms 900 v2 0 (len))) (@rfl V (iV (((dfK l (k+j)).length:Nat):Int))) (@rfl Blk (⟨v2,true,z,24,3,(List.map cF (List.take (((dfK l (k+j)).length)) (dfL l (k+j)))++List.replicate (len - ((dfK l (k+j)).length)) [(iV (0:Int)),(iV (0:Int)),V.nilsl])⟩:Blk)) (okB_zap (by (simp only [List.length_take]; omega))) rfl (by omega) (R_mv rfl (R_e ?_)))))))
   refine W_ret (y5 _ _ (p23 _ _ (y2 _ _ (fork_ (R:=fun T H=>T 4=(V.ms 900 v2 0 ((dfK l (k+j)).length))∧(∀ j,j∉[900]→H j=Hi j)∧H 900=(⟨v2,true,z,24,3,(List.map cF (List.take (((dfK l (k+j)).length)) (dfL l (k+j)))++List.replicate (len - ((dfK l (k+j)).length)) [(iV (0:Int)),(iV (0:Int)),V.nilsl])⟩:Blk)∧True) ⟨(@rfl V (V.ms 900 v2 0 ((dfK l (k+j)).length))),(upd_out hF (by decide)),rfl,trivial⟩ ?_))))
   intro T H ⟨t4,hF,h900,_⟩
   skip
   have fh:=FinX.fin (FinX.put (B:=(⟨v2,true,z,24,3,(List.map cF (dfK l l.length)++List.replicate (l.length - (dfK l l.length).length) [iV 0,iV 0,V.nilsl])⟩:Blk)) (FinX.start hF) h900 (FinB.eq (by (rw [df_take (show l.length≤k+j by omega) hj,show k+j=l.length by omega,hn]; done))))
   exact RetF_1 t4 fh (FinV.trans_eq (FinV.same fh _) (by (rw [show k+j=l.length by omega]; done)))
  have d1:nth l k≠nth l (k - 1):=fun q=>by have e:=(sameF_iff _ _).2 q; rw [← show (((k:Nat):Int) - (1:Int)).toNat=k - 1 by omega,c6] at e; cases e
  refine W_skip (n5 _ _ (.done (W_t (R_mv t5 (R_addN rfl (@rfl V (iV ((1:Nat):Int))) (by omega) (R_mv rfl (R_e ?_)))))))
  refine p13 _ _ _ ?_ ⟨(k+1),rfl,t0,t1,(Eq.trans (@rfl V (iV ((k+1:Nat):Int))) (by rfl)),hF,h900,?_,?_,?_⟩
  · omega
  · omega
  · omega
  · intro i i1 i2
    by_cases e:i=k
    · subst e; exact d1
    · exact hc i i1 (by omega)
 refine W_seq_exit (p33 _ _ _ (x2 _ _ (.done (W_r (R_mv t0 (R_mv rfl (R_e ?_)))))))
 refine W_ret (fork_ (R:=fun T H=>T 4=(V.ms 900 v2 0 (len))∧(∀ j,j∉[900]→H j=Hi j)∧H 900=(⟨v2,true,z,24,3,(List.map cF (l))⟩:Blk)∧True) ⟨(@rfl V (V.ms 900 v2 0 (len))),hF,h900,trivial⟩ ?_)
 intro T H ⟨t4,hF,h900,_⟩
 have hall:=df_all (l:=l) (fun i i1 i2=>hc i i1 (by omega))
 have fh:=FinX.fin (FinX.put (B:=(⟨v2,true,z,24,3,(List.map cF (dfK l l.length)++List.replicate (l.length - (dfK l l.length).length) [iV 0,iV 0,V.nilsl])⟩:Blk)) (FinX.start hF) h900 (FinB.eq (by (rw [hall]; simp; done))))
 exact RetF_1 t4 fh (FinV.trans_eq (FinV.same fh _) (by (rw [hall,hn]; done)))
theorem union_pure (c d:Cl) (hs:SrtF c) (hl:c.length≤1073741824) (hd:d.length≤1073741824):PureC Tryd.prog 81 [(V.sl (List.map cF (c))),(V.sl (List.map cF (d)))] (V.sl (List.map cF (unF c d))):=by
 refine pW Tryd.func81 s81_ok fun hB=>?_
 unfold s81
 dsimp only
 refine W_r (R_mv rfl (R_e (W_r (R_mv rfl (R_mv rfl (R_bslice rfl rfl (R_callE (evcons rfl evnil) (catf_E ([c,d]) 0 _ (congrArg Blk.ver rfl) (by (simp only [catF2,List.length_append]; omega))) ?_)))))))
 refine R_mv rfl (R_e (W_r (R_mv rfl (R_callE (evcons rfl (evcons rfl evnil)) (sortc_E (catF ([c,d])) (0+1+([c,d]).length) (decide ((catF ([c,d])).length=0)) _ (@rfl Blk (⟨0+1+([c,d]).length,true,decide ((catF ([c,d])).length=0),24,3,(List.map cF (catF ([c,d])))⟩:Blk)) (by simp only [catF2,List.length_append]; omega)) (R_e (W_r (R_mv rfl ?_)))))))
 refine R_callE (evcons rfl (evcons rfl evnil)) (compc_E (srt ordF (catF ([c,d]))) (0+1+([c,d]).length) ((catF ([c,d])).length) (decide ((catF ([c,d])).length=0)) _ (@rfl Blk (⟨0+1+([c,d]).length,true,decide ((catF ([c,d])).length=0),24,3,(List.map cF (srt ordF (catF ([c,d]))))⟩:Blk)) (by simp [srt_len]) (by simp only [srt_len,catF2,List.length_append]; omega)) (R_mv rfl (R_e (W_ret ?_)))
 refine Ret_1 (@rfl V (V.ms 900 (0+1+([c,d]).length) 0 ((dfK (srt ordF (catF ([c,d]))) (srt ordF (catF ([c,d]))).length).length))) (fz_mstR (@rfl Blk (⟨0+1+([c,d]).length,true,decide ((catF ([c,d])).length=0),24,3,(List.map cF (dfK (srt ordF (catF ([c,d]))) (srt ordF (catF ([c,d]))).length)++List.replicate ((srt ordF (catF ([c,d]))).length - (dfK (srt ordF (catF ([c,d]))) (srt ordF (catF ([c,d]))).length).length) [iV 0,iV 0,V.nilsl])⟩:Blk)) (by rfl) (take_zap (l:=(dfK (srt ordF (catF ([c,d]))) (srt ordF (catF ([c,d]))).length)) (by rfl)) (fun _=>by simp) ?_)
 · rw [catF2,un_srt hs]
theorem prod_pure (a b:List Cl) (ha: ∀ k,k < a.length→SrtF (nth a k)) (la: ∀ k,k < a.length→(nth a k).length≤536870912) (lb: ∀ k,k < b.length→(nth b k).length≤536870912) (na:a.length≤64) (nb:b.length≤65536):PureC Tryd.prog 62 [(V.sl (List.map cCl (a))),(V.sl (List.map cCl (b)))] (V.sl (List.map cCl (prd a b))):=by
 refine pW Tryd.func62 s62_ok fun hB=>?_
 unfold s62
 dsimp only
 refine W_r (R_mv rfl (R_e (W_r (R_mv rfl (R_e (W_seq_seq ?_))))))
 refine W_seq_g (fun T H=>T 1=(V.sl (List.map cCl (b)))∧T 5=V.nilsl∧T 10=(V.sl (List.map cCl (a)))∧T 11=(iV ((a.length:Nat):Int))∧T 12=(iV (0:Int))∧True) ?_ ?_
 ·
  refine R_mv rfl (R_len rfl (R_mv rfl ?_))
  exact R_nil ⟨rfl,rfl,rfl,rfl,rfl,trivial⟩
 intro T H ⟨t1,t5,t10,t11,t12,_⟩
 refine G_nil t5 (fork_ (R:=fun T H=>T 1=(V.sl (List.map cCl (b)))∧T 5=(V.sl [])∧T 10=(V.sl (List.map cCl (a)))∧T 11=(iV ((a.length:Nat):Int))∧T 12=(iV (0:Int))∧True) ⟨((upd_ne _ _ (by decide)).trans t1),(upd_same _ _ _),((upd_ne _ _ (by decide)).trans t10),((upd_ne _ _ (by decide)).trans t11),((upd_ne _ _ (by decide)).trans t12),trivial⟩ ?_)
 intro T H ⟨t1,t5,t10,t11,t12,_⟩
 refine W_seq_blockg fun Q1 n1 x1 y1 z1=>?_
 refine W_loop (fun mm T H=> ∃ (k:Nat),mm=a.length - k∧T 1=(V.sl (List.map cCl (b)))∧T 5=(V.sl (List.map cCl (prd (a.take k) b)))∧T 10=(V.sl (List.map cCl (a)))∧T 11=(iV ((a.length:Nat):Int))∧T 12=(iV ((k:Nat):Int))∧(k≤a.length)) ?_ ?_
 ·
  refine ⟨_,0,rfl,t1,(Eq.trans t5 (by rfl)),t10,t11,(Eq.trans t12 rfl),?_⟩
  · omega
 intro mm T H ⟨k,hmm,t1,t5,t10,t11,t12,hk⟩ Q2 p12 p22 p32
 unfold b62_0
 have hN:=prd_len2 na nb hk
 refine W_r (R_lss t12 t11 (R_e ?_))
 refine W_seq_if rfl (fun c3=>?_) fun c3=>?_
 ·
  refine W_seq_skip (W_seq_blockg fun Q4 n4 x4 y4 z4=>(W_r (R_idx (i:=k) t10 t12 (by omega) rfl (R_load_pp rfl rfl (R_mv rfl (R_e (W_r ?_)))))))
  refine R_mv t1 (R_len rfl (R_mv rfl (R_e (W_block fun Q5 n5 x5 y5 z5=>?_))))
  refine W_loop (fun mm T H=> ∃ (j:Nat),mm=b.length - j∧T 1=(V.sl (List.map cCl (b)))∧T 5=(V.sl (List.map cCl (prC (prd (a.take k) b) (nth a k) (b.take j))))∧T 7=(V.sl (List.map cF ((nth (a) (k)))))∧T 10=(V.sl (List.map cCl (a)))∧T 11=(iV ((a.length:Nat):Int))∧T 12=(iV ((k:Nat):Int))∧T 16=(V.sl (List.map cCl (b)))∧T 17=(iV ((b.length:Nat):Int))∧T 18=(iV ((j:Nat):Int))∧(j≤b.length)) ?_ ?_
  ·
   refine ⟨_,0,rfl,t1,(Eq.trans t5 (by rfl)),rfl,t10,t11,t12,rfl,rfl,(Eq.trans (@rfl V (iV (0:Int))) rfl),?_⟩
   · omega
  intro mm T H ⟨j,hmm,t1,t5,t7,t10,t11,t12,t16,t17,t18,hj⟩ Q6 p16 p26 p36
  unfold b62_1
  have hM:=prC_len (prd (a.take k) b) (nth a k) (b.take j)
  have hM2:(b.take j).length=j:=by rw [List.length_take]; omega
  have hU:=unF_len (nth b j) (nth a k)
  have hla:k < a.length→(nth a k).length≤536870912:=la k
  have hlb:j < b.length→(nth b j).length≤536870912:=lb j
  refine W_r (R_lss t18 t17 (R_e ?_))
  refine W_seq_if rfl (fun c7=>?_) fun c7=>?_
  ·
   refine W_seq_skip (W_seq_blockg fun Q8 n8 x8 y8 z8=>(W_r (R_idx (i:=j) t16 t18 (by omega) rfl (R_load_pp rfl rfl (R_mv rfl (R_e (W_t ?_)))))))
   refine R_mv t5 (R_mv t7 (R_mv rfl (R_callk (union_pure ((nth (a) (k))) ((nth (b) (j))) (ha k (by omega)) (Nat.le_trans (la k (by omega)) (by decide)) (Nat.le_trans (lb j (by omega)) (by decide))) rfl (R_callk (with_pure (prC (prd (a.take k) b) (nth a k) (b.take j)) (unF ((nth (a) (k))) ((nth (b) (j)))) (fun q hq=>(prC_ant (b:=b.take j) (prdT_ant (b:=b) ha k) (ha k (by omega))).at_ hq) (fun q hq=>(prCT_clen (prdT_clen la lb k) (la k (by omega)) lb j).at_ hq) (by omega) (unF_srt (ha k (by omega))) (by omega)) rfl (R_mv rfl (R_e (n8 _ _ ?_)))))))
   refine .done (W_t (R_addN t18 (@rfl V (iV ((1:Nat):Int))) (by omega) (R_mv rfl (R_e ?_))))
   refine p16 _ _ _ ?_ ⟨(j+1),rfl,t1,(Eq.trans (@rfl V (V.sl (List.map cCl (wth (prC (prd (a.take k) b) (nth a k) (b.take j)) (unF ((nth (a) (k))) ((nth (b) (j)))))))) (by (rw [prC_step (by omega)]; done))),t7,t10,t11,t12,t16,t17,(Eq.trans (@rfl V (iV ((j+1:Nat):Int))) (by rfl)),?_⟩
   · omega
   · omega
  refine W_seq_exit (p36 _ _ _ (x5 _ _ (n4 _ _ (.done (W_t (R_addN t12 (@rfl V (iV ((1:Nat):Int))) (by omega) (R_mv rfl ?_)))))))
  refine R_e ?_
  refine p12 _ _ _ ?_ ⟨(k+1),rfl,t1,(Eq.trans t5 (by (rw [prd_step (by omega),show j=b.length by omega,List.take_length]; done))),t10,t11,(Eq.trans (@rfl V (iV ((k+1:Nat):Int))) (by rfl)),?_⟩
  · omega
  · omega
 refine W_seq_exit (p32 _ _ _ (x1 _ _ (.done (W_r (R_mv t5 (R_mv rfl (R_e ?_)))))))
 refine W_ret ?_
 refine Ret_1 (@rfl V (V.sl (List.map cCl (prd (a.take k) b)))) (fz_sl ?_ (fun _=>by simp))
 · rw [show k=a.length by omega,List.take_length]
theorem conj_pure (l:List Fm) (hok: ∀ k,k < l.length→okF (nth l k)=true) (hz:Fm.szs l≤268435456) (hq: ∀ k,k < l.length→PureC Tryd.prog 45 [(V.agg [(iV ((nth l k).op)),(iV ((nth l k).arg)),(V.sl (List.map cF ((nth l k).kids)))])] (V.tup [(V.sl (List.map cCl (cVal (cls (nth l k))))),(iV (cErr (cls (nth l k))))])):PureC Tryd.prog 54 [(V.sl (List.map cF (l)))] (V.tup [(V.sl (List.map cCl (cVal (cjL l [[]])))),(iV (cErr (cjL l [[]])))]):=by
 refine pW Tryd.func54 s54_ok fun hB=>?_
 unfold s54
 dsimp only
 have hln:=Fm.szs_len l
 refine W_r (R_mv rfl (R_mv rfl (R_e (W_r (R_bslice rfl rfl (R_mv rfl (R_e ?_)))))))
 refine W_seq_seq ?_
 refine W_seq_g (fun T H=>T 4=(V.sl [[V.nilsl]])∧T 10=(V.sl (List.map cF (l)))∧T 11=(iV ((l.length:Nat):Int))∧T 12=(iV (0:Int))∧H 6=(⟨0,false,false,0,0,[]⟩:Blk)∧True) ?_ ?_
 ·
  refine R_mv rfl (R_len rfl (R_mv rfl ?_))
  exact R_nil ⟨rfl,rfl,rfl,rfl,rfl,trivial⟩
 intro T H ⟨t4,t10,t11,t12,h6,_⟩
 refine G_nil1 t4 (.done ?_)
 refine fork_ (R:=fun T H=>T 4=(V.sl [[(V.sl (List.map cF ([])))]])∧T 10=(V.sl (List.map cF (l)))∧T 11=(iV ((l.length:Nat):Int))∧T 12=(iV (0:Int))∧H 6=(⟨0,false,false,0,0,[]⟩:Blk)∧True) ⟨(upd_same _ _ _),((upd_ne _ _ (by decide)).trans t10),((upd_ne _ _ (by decide)).trans t11),((upd_ne _ _ (by decide)).trans t12),h6,trivial⟩ ?_
 intro T H ⟨t4,t10,t11,t12,h6,_⟩
 refine W_seq_blockg fun Q1 n1 x1 y1 z1=>?_
 refine W_loop (fun mm T H=> ∃ (k:Nat) (out:List Cl) (v6:Nat),mm=l.length - k∧T 4=(V.sl (List.map cCl (out)))∧T 10=(V.sl (List.map cF (l)))∧T 11=(iV ((l.length:Nat):Int))∧T 12=(iV ((k:Nat):Int))∧(H 6).ver=v6∧(k≤l.length)∧(cjL l [[]]=cjL (l.drop k) out)∧(GdS out)∧(CLen (Fm.szs (l.take k)) out)) ?_ ?_
 ·
  refine ⟨_,0,[[]],0,rfl,(Eq.trans t4 (by rfl)),t10,t11,(Eq.trans t12 rfl),(congrArg Blk.ver h6),?_,?_,?_,?_⟩
  · omega
  · rfl
  · exact good_unit
  · exact fun c hc=>by rw [List.mem_singleton.1 hc]; exact Nat.zero_le _
 intro mm T H ⟨k,out,v6,hmm,t4,t10,t11,t12,h6,hk,hc,hG,hL⟩ Q2 p12 p22 p32
 unfold b54_0
 have hT:=szs_take_le l k
 refine W_r (R_lss t12 t11 (R_e ?_))
 refine W_seq_if rfl (fun c3=>?_) fun c3=>?_
 ·
  refine W_seq_skip (W_seq_blockg fun Q4 n4 x4 y4 z4=>(W_r (R_idxu (i:=k) t10 t12 (by omega) (cF_eq _) rfl (R_load_pp rfl rfl (R_alloc (i:=6) (n:=v6) (m:=3) rfl h6 rfl (R_sk rfl rfl rfl rfl rfl rfl rfl rfl rfl (R_e ?_)))))))
  refine W_r (R_lk rfl rfl rfl rfl (R_callk (hq k (by omega)) rfl (R_mv rfl (R_ext rfl rfl (R_ext rfl rfl (R_mv rfl (R_mv rfl ?_)))))))
  refine R_e (W_seq_seq (W_r (R_mv rfl (R_neq rfl rfl (R_e ?_)))))
  refine W_seq_if rfl (fun c5=>?_) fun c5=>?_
  ·
   have d1:=c5
   refine W_seq_seq (W_r (R_mv rfl (R_mv rfl (R_mv rfl (R_e (W_seq_ret (y4 _ _ ?_)))))))
   refine p22 _ _ (y1 _ _ ?_)
   refine Ret_2 (@rfl V V.nilsl) (@rfl V (iV (cErr (cls (nth l k))))) (fz_nil ?_) (fz_int ?_)
   · rw [hc,cjL_no (by omega) (cE_yes d1)]; try rfl
   · rw [hc,cjL_no (by omega) (cE_yes d1),cE_yes d1]; try rfl
  have d1:=c5
  have g1:=kid_cl (by omega) (hok k (by omega)) d1
  refine W_seq_skip (W_r (R_mv t4 (R_mv rfl (R_callk (prod_pure out (cVal (cls (nth l k))) (fun q hq=>hG.ant.at_ hq) (fun q hq=>Nat.le_trans (hL.at_ hq) (by omega)) (fun q hq=>Nat.le_trans (g1.2.1.at_ hq) (by omega)) hG.len (Nat.le_trans g1.1.len (by decide))) rfl (R_callk (limited_pure (prd out (cVal (cls (nth l k))))) rfl (R_mv rfl (R_ext rfl rfl ?_)))))))
  refine R_ext rfl rfl (R_mv rfl (R_mv rfl (R_e (W_r (R_mv rfl (R_neq rfl rfl (R_e ?_)))))))
  refine W_if rfl (fun c6=>?_) fun c6=>?_
  ·
   have d2:=lim_yes c6
   refine W_r (R_mv rfl (R_mv rfl (R_mv rfl (R_e (W_ret (y4 _ _ (p22 _ _ ?_)))))))
   refine y1 _ _ ?_
   refine Ret_2 (@rfl V V.nilsl) (@rfl V (iV (if 64 < (prd out (cVal (cls (nth l k)))).length then 11 else 0))) (fz_nil ?_) (fz_int ?_)
   · rw [hc,cjL_lim (by omega) (cV_some d1) d2]; try rfl
   · rw [hc,cjL_lim (by omega) (cV_some d1) d2,if_pos d2]; try rfl
  have d2:=lim_no c6
  refine W_skip (n4 _ _ (.done (W_t (R_addN t12 (@rfl V (iV ((1:Nat):Int))) (by omega) (R_mv rfl (R_e ?_))))))
  refine p12 _ _ _ ?_ ⟨(k+1),(prd out (cVal (cls (nth l k)))),(v6+1),rfl,(Eq.trans (@rfl V (V.sl (List.map cCl (if 64 < (prd out (cVal (cls (nth l k)))).length then [] else (prd out (cVal (cls (nth l k)))))))) (by (rw [if_neg d2]; done))),t10,t11,(Eq.trans (@rfl V (iV ((k+1:Nat):Int))) (by rfl)),(congrArg Blk.ver rfl),?_,?_,?_,?_⟩
  · omega
  · omega
  · rw [hc,cjL_go (by omega) (cV_some d1) d2]
  · exact cj_good hG g1.1 d2
  · exact cj_clen (by omega) hL g1.2.2
 refine W_seq_exit (p32 _ _ _ (x1 _ _ (.done (W_r (R_mv t4 (R_mv rfl (R_mv rfl ?_)))))))
 refine R_e (W_ret ?_)
 refine Ret_2 (@rfl V (V.sl (List.map cCl (out)))) (@rfl V (iV (0:Int))) (fz_sl ?_ (fun _=>by simp)) (fz_int ?_)
 · rw [hc,cjL_end (by omega)]; try rfl
 · rw [hc,cjL_end (by omega)]; try rfl
theorem cls_pure_step (f:Fm) (hok:okF f=true) (hz:f.sz≤268435456) (ih: ∀ (g:Fm),g.sz < f.sz→okF g=true→g.sz≤268435456→PureC Tryd.prog 45 [(V.agg [(iV (g.op)),(iV (g.arg)),(V.sl (List.map cF (g.kids)))])] (V.tup [(V.sl (List.map cCl (cVal (cls g)))),(iV (cErr (cls g)))])):PureC Tryd.prog 45 [(V.agg [(iV (f.op)),(iV (f.arg)),(V.sl (List.map cF (f.kids)))])] (V.tup [(V.sl (List.map cCl (cVal (cls f)))),(iV (cErr (cls f)))]):=by
 refine pW Tryd.func45 s45_ok fun hB=>?_
 unfold s45
 dsimp only
 have hp:=okF_parts hok
 have hr:=rgt_ok hp.1
 have hln:=f.sz_len
 refine W_r (R_box (i:=1) (n:=0) (m:=3) (cs:=[(iV (f.op)),(iV (f.arg)),(V.sl (List.map cF (f.kids)))]) rfl (congrArg Blk.ver rfl) rfl rfl rfl (R_mv rfl (R_mv rfl (R_e (W_seq_seq (W_r (R_fk rfl rfl ?_)))))))
 refine R_lk rfl rfl rfl rfl (R_e (W_seq_blockg fun Q1 n1 x1 y1 z1=>(W_r (R_eql rfl rfl (R_mv rfl (R_e ?_))))))
 refine W_if rfl (fun c2=>?_) fun c2=>?_
 ·
  refine W_r (R_bslice rfl rfl (R_mv rfl (R_mv rfl (R_e (W_ret (y1 _ _ ?_))))))
  refine Ret_2 (@rfl V (V.sl [[V.nilsl]])) (@rfl V (iV (0:Int))) ?_ (fz_int ?_)
  · rw [cls_1 (by omega)]; simp [fzv,cVal,cCl]
  · rw [cls_1 (by omega)]; rfl
 refine W_r (R_eql rfl rfl (R_mv rfl (R_e ?_)))
 refine W_if rfl (fun c3=>?_) fun c3=>?_
 ·
  refine W_seq_seq (W_r (R_fk rfl rfl (R_lk rfl rfl rfl rfl (R_idxu (i:=0) (@rfl V (V.sl (List.map cF (f.kids)))) (@rfl V (iV ((0:Nat):Int))) (by omega) (cF_eq _) rfl (R_fld_pp (cs':=[(iV (((nth (f.kids) (0))).op)),(iV (((nth (f.kids) (0))).arg)),(V.sl (List.map cF (((nth (f.kids) (0))).kids)))]) rfl rfl (R_load_pp rfl rfl (R_eql rfl rfl ?_)))))))
  refine R_e ?_
  refine W_seq_if rfl (fun c4=>?_) fun c4=>?_
  ·
   refine W_seq_seq (W_r (R_mv rfl (R_mv rfl (R_e (W_seq_ret (y1 _ _ ?_))))))
   refine Ret_2 (@rfl V V.nilsl) (@rfl V (iV (0:Int))) (fz_nil ?_) (fz_int ?_)
   · rw [cls_4 (by omega) (by omega)]; rfl
   · rw [cls_4 (by omega) (by omega)]; rfl
  refine W_seq_skip (W_r (R_lk rfl rfl rfl rfl (R_bslice rfl rfl (R_bslice rfl rfl (R_mv rfl (R_mv rfl (R_e ?_)))))))
  refine W_ret (y1 _ _ ?_)
  refine Ret_2 (@rfl V (V.sl [[(V.sl [[(iV (f.op)),(iV (f.arg)),(V.sl (List.map cF (f.kids)))]])]])) (@rfl V (iV (0:Int))) (fz_canon (by simp) ?_) (fz_int ?_)
  · rw [cls_4n (by omega) (by omega)]; simp [cVal,cCl,cF_eq]
  · rw [cls_4n (by omega) (by omega)]; rfl
 refine W_seq_seq (W_r (R_eql rfl rfl (R_mv rfl (R_e ?_))))
 refine W_seq_if rfl (fun c5=>?_) fun c5=>?_
 ·
  refine W_seq_skip ?_
  refine W_if rfl (fun c6=>?_) fun c6=>?_
  ·
   refine W_r (R_lk rfl rfl rfl rfl (R_bslice rfl rfl (R_bslice rfl rfl (R_mv rfl (R_mv rfl (R_e (W_ret ?_)))))))
   refine y1 _ _ ?_
   refine Ret_2 (@rfl V (V.sl [[(V.sl [[(iV (f.op)),(iV (f.arg)),(V.sl (List.map cF (f.kids)))]])]])) (@rfl V (iV (0:Int))) (fz_canon (by simp) ?_) (fz_int ?_)
   · rw [cls_23 (by omega)]; simp [cVal,cCl,cF_eq]
   · rw [cls_23 (by omega)]; rfl
  · exact (c6 c5).elim
 refine W_r (R_eql rfl rfl (R_mv rfl (R_e ?_)))
 refine W_if rfl (fun c7=>?_) fun c7=>?_
 ·
  refine W_r (R_lk rfl rfl rfl rfl (R_bslice rfl rfl (R_bslice rfl rfl (R_mv rfl (R_mv rfl (R_e (W_ret ?_)))))))
  refine y1 _ _ ?_
  refine Ret_2 (@rfl V (V.sl [[(V.sl [[(iV (f.op)),(iV (f.arg)),(V.sl (List.map cF (f.kids)))]])]])) (@rfl V (iV (0:Int))) (fz_canon (by simp) ?_) (fz_int ?_)
  · rw [cls_23 (by omega)]; simp [cVal,cCl,cF_eq]
  · rw [cls_23 (by omega)]; rfl
 refine W_r (R_eql rfl rfl (R_mv rfl (R_e ?_)))
 refine W_if rfl (fun c8=>?_) fun c8=>?_
 ·
  refine W_r (R_fk rfl rfl (R_lk rfl rfl rfl rfl (R_callk (disj_pure f.kids hp.2 (by rw [Fm.sz_eq] at hz; omega) (fun k h=>ih (nth f.kids k) (Fm.sz_kid h) (hp.2 k h) (Nat.le_trans (Nat.le_of_lt (Fm.sz_kid h)) hz))) rfl (R_ext rfl rfl (R_ext rfl rfl (R_mv rfl (R_mv rfl ?_)))))))
  refine R_e (W_ret (y1 _ _ ?_))
  refine Ret_2 (@rfl V (V.sl (List.map cCl (cVal (djL f.kids []))))) (@rfl V (iV (cErr (djL f.kids [])))) (fz_sl ?_ (fun _=>by simp)) (fz_int ?_)
  · rw [cls_6 (by omega)]
  · rw [cls_6 (by omega)]
 refine W_r (R_eql rfl rfl (R_mv rfl (R_e ?_)))
 refine W_if rfl (fun c9=>?_) fun c9=>?_
 ·
  refine W_r (R_fk rfl rfl (R_lk rfl rfl rfl rfl (R_callk (conj_pure f.kids hp.2 (by rw [Fm.sz_eq] at hz; omega) (fun k h=>ih (nth f.kids k) (Fm.sz_kid h) (hp.2 k h) (Nat.le_trans (Nat.le_of_lt (Fm.sz_kid h)) hz))) rfl (R_ext rfl rfl (R_ext rfl rfl (R_mv rfl (R_mv rfl ?_)))))))
  refine R_e (W_ret (y1 _ _ ?_))
  refine Ret_2 (@rfl V (V.sl (List.map cCl (cVal (cjL f.kids [[]]))))) (@rfl V (iV (cErr (cjL f.kids [[]])))) (fz_sl ?_ (fun _=>by simp)) (fz_int ?_)
  · rw [cls_5 (by omega)]
  · rw [cls_5 (by omega)]
 refine W_skip (n1 _ _ (.done (W_r (R_fk rfl rfl (R_lk rfl rfl rfl rfl (R_build rfl rfl (R_alloc (i:=4) (n:=0) (m:=3) rfl (congrArg Blk.ver rfl) rfl ?_)))))))
 refine R_sk rfl rfl rfl rfl rfl rfl rfl rfl rfl (R_e (W_seq_seq ?_))
 refine W_seq_g (fun T H=>T 4=(V.mp 4 1 0 0)∧T 49=(V.sl (List.map cF (f.kids)))∧T 50=(iV ((f.kids.length:Nat):Int))∧T 51=(iV (0:Int))∧H 1=(bk 1 24 3 [[(iV (f.op)),(iV (f.arg)),(V.sl (List.map cF (f.kids)))]])∧H 4=(bk 1 24 3 [[(iV (f.op)),(iV (0:Int)),V.nilsl]])∧H 6=(⟨0,false,false,0,0,[]⟩:Blk)∧H 7=(⟨0,false,false,0,0,[]⟩:Blk)∧H 704=(⟨0,false,false,0,0,[]⟩:Blk)∧True) ?_ ?_
 ·
  refine R_fk rfl rfl (R_lk rfl rfl rfl rfl (R_len rfl (R_mv rfl ?_)))
  exact R_nil ⟨rfl,rfl,rfl,rfl,rfl,rfl,rfl,rfl,rfl,trivial⟩
 intro T H ⟨t4,t49,t50,t51,h1,h4,h6,h7,h704,_⟩
 refine .lazyCell 704 24 3 4 0 2 [(iV (f.op)),(iV (0:Int)),V.nilsl] (by decide) (by rw [h4]; rfl) (by rw [h4]; rfl) rfl (.done ?_)
 refine fork_ (R:=fun T H=>T 4=(V.mp 4 1 0 0)∧T 49=(V.sl (List.map cF (f.kids)))∧T 50=(iV ((f.kids.length:Nat):Int))∧T 51=(iV (0:Int))∧H 1=(bk 1 24 3 [[(iV (f.op)),(iV (f.arg)),(V.sl (List.map cF (f.kids)))]])∧H 4=(bk 1 24 3 [[(iV (f.op)),(iV (0:Int)),(V.ms 704 1 0 (0))]])∧H 6=(⟨0,false,false,0,0,[]⟩:Blk)∧H 7=(⟨0,false,false,0,0,[]⟩:Blk)∧H 704=(bz 1 24 3 [])∧True) ⟨t4,t49,t50,t51,((upd_ne _ _ (by decide)).trans ((upd_ne _ _ (by decide)).trans h1)),(by rw [upd_same,h4,(congrArg Blk.ver h704)]; rfl),((upd_ne _ _ (by decide)).trans ((upd_ne _ _ (by decide)).trans h6)),((upd_ne _ _ (by decide)).trans ((upd_ne _ _ (by decide)).trans h7)),(by rw [upd_ne _ _ (by decide),upd_same,(congrArg Blk.ver h704)]),trivial⟩ ?_
 intro T H ⟨t4,t49,t50,t51,h1,h4,h6,h7,h704,_⟩
 refine W_seq_blockg fun Q10 n10 x10 y10 z10=>?_
 refine W_loop (fun mm T H=> ∃ (k:Nat) (w:Nat) (g:List Fm) (v6:Nat) (v7:Nat),mm=f.kids.length - k∧T 4=(V.mp 4 1 0 0)∧T 49=(V.sl (List.map cF (f.kids)))∧T 50=(iV ((f.kids.length:Nat):Int))∧T 51=(iV ((k:Nat):Int))∧H 1=(bk 1 24 3 [[(iV (f.op)),(iV (f.arg)),(V.sl (List.map cF (f.kids)))]])∧H 4=(bk 1 24 3 [[(iV (f.op)),(iV (0:Int)),(V.ms 704 w 0 (k))]])∧(H 6).ver=v6∧(H 7).ver=v7∧H 704=(bz w 24 3 (List.map cF (g)))∧(k≤f.kids.length)∧(g.length=k)∧(canL f.kids=(canL (f.kids.drop k)).map fun r=>g++r)) ?_ ?_
 ·
  refine ⟨_,0,1,[],0,0,rfl,t4,t49,t50,(Eq.trans t51 rfl),h1,h4,(congrArg Blk.ver h6),(congrArg Blk.ver h7),(Eq.trans h704 (by rfl)),?_,?_,?_⟩
  · omega
  · rfl
  · simp
 intro mm T H ⟨k,w,g,v6,v7,hmm,t4,t49,t50,t51,h1,h4,h6,h7,h704,hk,hg,hc⟩ Q11 p111 p211 p311
 unfold b45_0
 refine W_r (R_lss t51 t50 (R_e ?_))
 refine W_seq_if rfl (fun c12=>?_) fun c12=>?_
 ·
  refine W_seq_skip (W_seq_blockg fun Q13 n13 x13 y13 z13=>(W_r (R_idxu (i:=k) t49 t51 (by omega) (cF_eq _) rfl (R_load_pp rfl rfl (R_alloc (i:=6) (n:=v6) (m:=3) rfl h6 rfl (R_sk rfl rfl rfl rfl rfl rfl rfl rfl rfl (R_e ?_)))))))
  refine W_r (R_lk rfl rfl rfl rfl (R_callk (can_pure (((nth (f.kids) (k)))) (hp.2 k (by omega)) (Nat.le_trans (Nat.le_of_lt (Fm.sz_kid (by omega))) hz) ((fun k h=>ih (nth f.kids k) (Fm.sz_kid h) (hp.2 k h) (Nat.le_trans (Nat.le_of_lt (Fm.sz_kid h)) hz)) k (by omega))) rfl (R_mv rfl (R_ext rfl rfl (R_ext rfl rfl (R_alloc (i:=7) (n:=v7) (m:=3) rfl h7 rfl (R_sk rfl rfl rfl rfl rfl rfl rfl rfl rfl ?_)))))))
  refine R_mv rfl (R_e (W_seq_seq (W_r (R_mv rfl (R_neq rfl rfl (R_e ?_))))))
  refine W_seq_if rfl (fun c14=>?_) fun c14=>?_
  ·
   have d1:=cls_tno (by omega) hc (by omega) c14
   have d0:=cE_yes c14
   refine W_seq_seq (W_r (R_mv rfl (R_mv rfl (R_mv rfl (R_e (W_seq_ret (y13 _ _ ?_)))))))
   refine p211 _ _ (y10 _ _ ?_)
   refine Ret_2 (@rfl V V.nilsl) (@rfl V (iV (cErr (can (((nth (f.kids) (k)))))))) (fz_nil ?_) (fz_int ?_)
   · rw [d1]; rfl
   · rw [d1,d0]; rfl
  have d1:=cls_tgo hc (by omega) c14
  refine W_seq_skip (W_t (R_fk t4 h4 (R_lk rfl h4 rfl rfl (R_lk rfl rfl rfl rfl (R_bslice rfl rfl (R_append1 (l:=g) (f:=cF) (x:=((fVal (can (((nth (f.kids) (k)))))))) (@rfl V (V.ms 704 w 0 (k))) h704 (by exact hg.symm) (row_F1 (x:=((fVal (can (((nth (f.kids) (k)))))))) (@rfl V (V.sl [[(iV ((fVal (can (((nth (f.kids) (k)))))).op)),(iV ((fVal (can (((nth (f.kids) (k)))))).arg)),(V.sl (List.map cF ((fVal (can (((nth (f.kids) (k)))))).kids)))]]))) (cF_len _) (cF_one _) (by omega) (by omega) (R_fk t4 h4 ?_)))))))
  refine R_sk rfl rfl rfl h4 rfl rfl rfl rfl rfl (R_e (n13 _ _ (.done (W_t (R_addN t51 (@rfl V (iV ((1:Nat):Int))) (by omega) (R_mv rfl (R_e ?_)))))))
  refine p111 _ _ _ ?_ ⟨(k+1),(w+1),(g++[fVal (can (nth f.kids k))]),(v6+1),(v7+1),rfl,t4,t49,t50,(Eq.trans (@rfl V (iV ((k+1:Nat):Int))) (by rfl)),h1,(Eq.trans (@rfl Blk (bk 1 24 3 [[(iV (f.op)),(iV (0:Int)),(V.ms 704 (w+1) 0 (k+1))]])) (by rfl)),(congrArg Blk.ver rfl),(congrArg Blk.ver rfl),(Eq.trans (@rfl Blk (bz (w+1) 24 3 (List.map cF (g++[(fVal (can (((nth (f.kids) (k))))))])))) (by rfl)),?_,?_,?_⟩
  · omega
  · omega
  · simp; exact hg
  · exact d1
 refine W_seq_exit (p311 _ _ _ (x10 _ _ (fork_ (R:=fun T H=>T 4=(V.mp 4 1 0 0)∧T 49=(V.sl (List.map cF (f.kids)))∧T 50=(iV ((f.kids.length:Nat):Int))∧T 51=(iV ((k:Nat):Int))∧T 52=(V.bool (decide (((k:Nat):Int) < ((f.kids.length:Nat):Int))))∧H 1=(bk 1 24 3 [[(iV (f.op)),(iV (f.arg)),(V.sl (List.map cF (f.kids)))]])∧H 4=(bk 1 24 3 [[(iV (f.op)),(iV (0:Int)),(V.ms 704 w 0 (k))]])∧(H 6).ver=v6∧(H 7).ver=v7∧H 704=(bz w 24 3 (List.map cF (g)))∧True) ⟨t4,t49,t50,t51,(@rfl V (V.bool (decide (((k:Nat):Int) < ((f.kids.length:Nat):Int))))),h1,h4,h6,h7,h704,trivial⟩ ?_)))
 intro T H ⟨t4,t49,t50,t51,t52,h1,h4,h6,h7,h704,_⟩
 refine frz_cellg (id:=704) (id2:=4) (rows:=[[(iV (f.op)),(iV (0:Int)),(V.ms 704 w 0 (k))]]) (i:=0) (off:=2) (r:=[(iV (f.op)),(iV (0:Int)),(V.ms 704 w 0 (k))]) (m:=g) (g:=cF) (by decide) h704 h4 (by (simp; done)) (by exact hg.symm) rfl (.done ?_)
 refine fork_ (R:=fun T H=>T 4=(V.mp 4 1 0 0)∧T 49=(V.sl (List.map cF (f.kids)))∧T 50=(iV ((f.kids.length:Nat):Int))∧T 51=(iV ((k:Nat):Int))∧T 52=(V.bool (decide (((k:Nat):Int) < ((f.kids.length:Nat):Int))))∧H 1=(bk 1 24 3 [[(iV (f.op)),(iV (f.arg)),(V.sl (List.map cF (f.kids)))]])∧H 4=(bk 1 24 3 [[(iV (f.op)),(iV (0:Int)),(V.sl (List.map cF (g)))]])∧(H 6).ver=v6∧(H 7).ver=v7∧((H 704).ver=w∧(H 704).live=false)∧True) ⟨(fzT_q t4 rfl),(fzT_q t49 rfl),(fzT_q t50 rfl),(fzT_q t51 rfl),(fzT_q t52 rfl),((upd_ne _ _ (by decide)).trans (kill_ne h1 (by decide))),(upd_same _ _ _),((congrArg Blk.ver (upd_ne _ _ (by decide))).trans (kill_ver h6)),((congrArg Blk.ver (upd_ne _ _ (by decide))).trans (kill_ver h7)),⟨(congrArg Blk.ver (upd_ne _ _ (by decide))).trans (kill_self (congrArg Blk.ver h704)).1,(congrArg Blk.live (upd_ne _ _ (by decide))).trans (kill_self (congrArg Blk.ver h704)).2⟩,trivial⟩ ?_
 intro T H ⟨t4,t49,t50,t51,t52,h1,h4,h6,h7,h704,_⟩
 refine W_r (R_lk t4 h4 rfl rfl (R_bslice rfl rfl (R_bslice rfl rfl (R_mv rfl (R_mv rfl (R_e (W_ret ?_)))))))
 refine Ret_2 (@rfl V (V.sl [[(V.sl [[(iV (f.op)),(iV (0:Int)),(V.sl (List.map cF (g)))]])]])) (@rfl V (iV (0:Int))) (fz_canon (by simp) ?_) (fz_int ?_)
 · rw [cls_tend (by omega) hc (by omega)]; simp [cVal,cCl,cF_eq]; exact ⟨rfl,rfl,rfl⟩
 · rw [cls_tend (by omega) hc (by omega)]; rfl
theorem cls_pure (f:Fm) (hok:okF f=true) (hz:f.sz≤268435456):PureC Tryd.prog 45 [(V.agg [(iV (f.op)),(iV (f.arg)),(V.sl (List.map cF (f.kids)))])] (V.tup [(V.sl (List.map cCl (cVal (cls f)))),(iV (cErr (cls f)))]):=by
  have key: ∀ (mm:Nat) (f:Fm),f.sz < mm→okF f=true→f.sz≤268435456→PureC Tryd.prog 45 [(V.agg [(iV (f.op)),(iV (f.arg)),(V.sl (List.map cF (f.kids)))])] (V.tup [(V.sl (List.map cCl (cVal (cls f)))),(iV (cErr (cls f)))]):=by
    intro mm
    induction mm with
    |zero=>intro f hlt; exact absurd hlt (Nat.not_lt_zero _)
    | succ mm ih =>
      intro f hlt hok hz
      exact cls_pure_step f hok hz fun f2 hlt2=>ih f2 (by omega)
  exact key (f.sz+1) f (Nat.lt_succ_self _) hok hz
theorem checked_pure (f:Fm) (hok:okF f=true) (hz:f.sz≤268435456):PureC Tryd.prog 22 [(V.agg [(iV (f.op)),(iV (f.arg)),(V.sl (List.map cF (f.kids)))])] (V.tup [(V.agg [(iV ((chk f).1.op)),(iV ((chk f).1.arg)),(V.sl (List.map cF ((chk f).1.kids)))]),(iV ((chk f).2))]):=by
 refine pW Tryd.func22 s22_ok fun hB=>?_
 unfold s22
 dsimp only
 refine W_r (R_box (i:=1) (n:=0) (m:=3) (cs:=[(iV (f.op)),(iV (f.arg)),(V.sl (List.map cF (f.kids)))]) rfl (congrArg Blk.ver rfl) rfl rfl rfl (R_alloc (i:=2) (n:=0) (m:=3) rfl (congrArg Blk.ver rfl) rfl (R_mv rfl (R_e (W_r (R_lk rfl rfl rfl rfl (R_callk (can_pure f hok hz (cls_pure f hok hz)) rfl ?_)))))))
 refine R_mv rfl (R_ext rfl rfl (R_ext rfl rfl (R_alloc (i:=4) (n:=0) (m:=3) rfl (congrArg Blk.ver rfl) rfl (R_sk rfl rfl rfl rfl rfl rfl rfl rfl rfl (R_mv rfl (R_e (W_seq_seq ?_)))))))
 refine W_r (R_mv rfl (R_neq rfl rfl (R_e ?_)))
 refine W_seq_if rfl (fun c1=>?_) fun c1=>?_
 ·
  have d1:=chk_e c1
  refine W_seq_seq (W_r (R_build rfl rfl (R_mv rfl (R_sk rfl rfl rfl rfl rfl rfl rfl rfl rfl (R_mv rfl (R_e (W_seq_ret ?_)))))))
  refine RetC_2 (resV_c (u:=(V.agg [(iV (0:Int)),(iV (0:Int)),V.nilsl])) rfl (@rfl Blk (bk 1 24 3 [[(iV (0:Int)),(iV (0:Int)),V.nilsl]])) (lB oB rfl rfl)) (resV_t (@rfl V (iV (cErr (can f))))) (fz_agg3 (fz_int ?_) (fz_int ?_) (fz_nil ?_)) (fz_int ?_)
  · rw [d1]; rfl
  · rw [d1]; rfl
  · rw [d1]; rfl
  · rw [d1]
 have d0:=c1
 refine W_seq_skip (W_seq_seq (W_r (R_lk rfl rfl rfl rfl (R_callk (fvalid_pure ((fVal (can f)))) rfl (R_mv rfl (R_e (W_seq_seq ?_)))))))
 refine W_r (R_mv rfl (R_neq rfl rfl (R_e ?_)))
 refine W_seq_if rfl (fun c2=>?_) fun c2=>?_
 ·
  have d1:=chk_b d0 c2
  refine W_seq_seq (W_r (R_build rfl rfl (R_mv rfl (R_sk rfl rfl rfl rfl rfl rfl rfl rfl rfl (R_mv rfl (R_e (W_seq_ret ?_)))))))
  refine RetC_2 (resV_c (u:=(V.agg [(iV (0:Int)),(iV (0:Int)),V.nilsl])) rfl (@rfl Blk (bk 1 24 3 [[(iV (0:Int)),(iV (0:Int)),V.nilsl]])) (lB oB rfl rfl)) (resV_t (@rfl V (iV (fval ((fVal (can f))))))) (fz_agg3 (fz_int ?_) (fz_int ?_) (fz_nil ?_)) (fz_int ?_)
  · rw [d1]; rfl
  · rw [d1]; rfl
  · rw [d1]; rfl
  · rw [d1]
 have d1:=chk_g d0 c2
 refine W_seq_skip (W_r (R_lk rfl rfl rfl rfl (R_callk (copied_pure ((fVal (can f))) (fval_sz (by omega))) rfl (R_sk rfl rfl rfl rfl rfl rfl rfl rfl rfl (R_mv rfl (R_e (W_ret ?_)))))))
 refine RetC_2 (resV_c (u:=(V.agg [(iV (((fVal (can f))).op)),(iV (((fVal (can f))).arg)),(V.sl (List.map cF (((fVal (can f))).kids)))])) rfl (@rfl Blk (bk 1 24 3 [[(iV (((fVal (can f))).op)),(iV (((fVal (can f))).arg)),(V.sl (List.map cF (((fVal (can f))).kids)))]])) (lB oB rfl rfl)) (resV_t (@rfl V (iV (0:Int)))) (fz_agg3 (fz_int ?_) (fz_int ?_) (fz_sl ?_ (fun _=>by simp))) (fz_int ?_)
 · rw [d1]
 · rw [d1]
 · rw [d1]
 · rw [d1]
def r23_2:List SO:=[
 qF 12 2 2,
 ql 13 12,
 sO 14 (.idx 3 (.t 13) (.c (.int .i64 0))),
 qL 15 3 14,
 qM 16 1,
 sO 17 (.un .not (.t 16)),
 sO 18 (.call false 23 [.t 15,.t 17]),
 sN (.store 3 (.t 4) (.t 18))]
def r23_4:List SO:=[
 qF 23 0 2,
 ql 24 23,
 qF 25 1 2,
 ql 26 25,
 sO 27 (.build [.int .i64 0,.int .i64 0,.nilsl] [(0,1,.t 24),(1,1,.t 26)]),
 sO 5 (.alloc 24 [.int .i64 0,.int .i64 0,.nilsl]),
 sN (.store 3 (.t 5) (.t 27))]
def r23_14:List SO:=[
 qF 47 2 6,
 ql 48 47,
 qL 49 3 8,
 qM 50 1,
 sO 51 (.call false 23 [.t 49,.t 50]),
 sO 52 (.bslice 24 3 false [.int .i64 0,.int .i64 0,.nilsl] 1 [(0,.t 51)]),
 sO 53 (.append 24 3 40 (.t 48) (.t 52)),
 qF 54 2 6,
 sN (.store 1 (.t 54) (.t 53))]
def b23_0:SC:=.seq (.reg [qP 44 .lss 43 42]) (.seq (.cond (.t 44) (.skip) (.exit 0)) (.seq (.block 1 (.seq (.reg [qA 45 3 41 43,qL 46 3 45,sO 8 (.alloc 24 [.int .i64 0,.int .i64 0,.nilsl]),sN (.store 3 (.t 8) (.t 46))]) (.reg r23_14))) (.reg [qC 55 .add 43 1,qM 43 55])))
def s23:SF:=⟨57,[.cell 4 true 3],.seq (.reg [sO 2 (.box 24 3 (.t 0)),sO 4 (.alloc 24 [.int .i64 0,.int .i64 0,.nilsl])]) (.seq (.seq (.reg [qF 9 0 2,ql 10 9,qC 11 .eql 10 4]) (.cond (.t 11) (.seq (.reg r23_2) (.ret)) (.skip))) (.seq (.seq (.reg [qF 19 2 2,ql 20 19,qN 21 20,qC 22 .eql 21 0]) (.cond (.t 22) (.seq (.reg r23_4) (.seq (.seq (.reg [qM 28 1]) (.cond (.t 28) (.seq (.reg [qL 29 3 5,sO 30 (.call false 35 [.t 29]),sN (.store 3 (.t 4) (.t 30))]) (.ret)) (.skip))) (.seq (.reg [qL 31 3 5,sN (.store 3 (.t 4) (.t 31))]) (.ret)))) (.skip))) (.seq (.reg [qF 32 0 2,ql 33 32,sO 34 (.build [.int .i64 0,.int .i64 0,.nilsl] [(0,1,.t 33)]),sO 6 (.alloc 24 [.int .i64 0,.int .i64 0,.nilsl]),sN (.store 3 (.t 6) (.t 34))]) (.seq (.seq (.reg [qM 35 1]) (.cond (.t 35) (.reg [qF 36 0 2,ql 37 36,sO 38 (.call false 36 [.t 37]),qF 39 0 6,sN (.store 1 (.t 39) (.t 38))]) (.skip))) (.seq (.seq (.reg [qF 40 2 2,ql 41 40,qN 42 41,qI 43 0]) (.block 0 (.loop b23_0))) (.seq (.reg [qL 56 3 6,sN (.store 3 (.t 4) (.t 56))]) (.ret)))))))⟩
theorem s23_ok:slimF Tryd.prog ⟨[32,48,55,93,94,95,100],[],[],[]⟩ Tryd.f23=some s23:=by kernel_rfl
def s36:SF:=⟨14,[.tmp 2],.seq (.reg [qI 2 0]) (.seq (.seq (.reg [qM 3 0]) (.block 0 (.seq (.reg [qC 5 .eql 3 5,qM 4 5]) (.cond (.t 4) (.seq (.reg [qI 2 6]) (.ret)) (.seq (.reg [qC 7 .eql 3 6,qM 6 7]) (.cond (.t 6) (.seq (.reg [qI 2 5]) (.ret)) (.seq (.reg [qC 9 .eql 3 7,qM 8 9]) (.cond (.t 8) (.seq (.reg [qI 2 9]) (.ret)) (.seq (.reg [qC 11 .eql 3 9,qM 10 11]) (.cond (.t 10) (.seq (.reg [qI 2 7]) (.ret)) (.seq (.reg [qC 13 .eql 3 8,qM 12 13]) (.cond (.t 12) (.seq (.reg [qI 2 10]) (.ret)) (.skip))))))))))))) (.seq (.reg [qI 2 8]) (.ret)))⟩
theorem s36_ok:slimF Tryd.prog ⟨[32,48,55,93,94,95,100],[],[],[]⟩ Tryd.f36=some s36:=by kernel_rfl
theorem opp_pure (o:Int):PureC Tryd.prog 36 [(iV (o))] (iV (dualI o)):=by
 refine pW Tryd.func36 s36_ok fun hB=>?_
 unfold s36
 dsimp only
 refine W_r (R_mv rfl (R_e (W_seq_seq (W_r (R_mv rfl (R_e (W_seq_blockg fun Q1 n1 x1 y1 z1=>?_)))))))
 refine W_r (R_eql rfl rfl (R_mv rfl (R_e ?_)))
 refine W_if rfl (fun c2=>?_) fun c2=>?_
 ·
  refine W_r (R_mv rfl (R_e (W_ret (y1 _ _ ?_))))
  refine Ret_1 (@rfl V (iV (6:Int))) (fz_int ?_)
  · simp only [dualI]; repeat (first|rfl|omega|split)
 refine W_r (R_eql rfl rfl (R_mv rfl (R_e ?_)))
 refine W_if rfl (fun c3=>?_) fun c3=>?_
 ·
  refine W_r (R_mv rfl (R_e (W_ret (y1 _ _ ?_))))
  refine Ret_1 (@rfl V (iV (5:Int))) (fz_int ?_)
  · simp only [dualI]; repeat (first|rfl|omega|split)
 refine W_r (R_eql rfl rfl (R_mv rfl (R_e ?_)))
 refine W_if rfl (fun c4=>?_) fun c4=>?_
 ·
  refine W_r (R_mv rfl (R_e (W_ret (y1 _ _ ?_))))
  refine Ret_1 (@rfl V (iV (9:Int))) (fz_int ?_)
  · simp only [dualI]; repeat (first|rfl|omega|split)
 refine W_r (R_eql rfl rfl (R_mv rfl (R_e ?_)))
 refine W_if rfl (fun c5=>?_) fun c5=>?_
 ·
  refine W_r (R_mv rfl (R_e (W_ret (y1 _ _ ?_))))
  refine Ret_1 (@rfl V (iV (7:Int))) (fz_int ?_)
  · simp only [dualI]; repeat (first|rfl|omega|split)
 refine W_r (R_eql rfl rfl (R_mv rfl (R_e ?_)))
 refine W_if rfl (fun c6=>?_) fun c6=>?_
 ·
  refine W_r (R_mv rfl (R_e (W_ret (y1 _ _ ?_))))
  refine Ret_1 (@rfl V (iV (10:Int))) (fz_int ?_)
  · simp only [dualI]; repeat (first|rfl|omega|split)
 refine W_skip (n1 _ _ (.done (W_r (R_mv rfl (R_e (W_ret ?_))))))
 refine Ret_1 (@rfl V (iV (8:Int))) (fz_int ?_)
 · simp only [dualI]; repeat (first|rfl|omega|split)
theorem mnormal_pure_step (f:Fm) (b:Bool) (hf:okF f=true) (hz:f.sz≤4096) (ih: ∀ (g:Fm) (b:Bool),g.sz < f.sz→okF g=true→g.sz≤4096→PureC Tryd.prog 23 [(V.agg [(iV (g.op)),(iV (g.arg)),(V.sl (List.map cF (g.kids)))]),(V.bool b)] (V.agg [(iV ((nrm g b).op)),(iV ((nrm g b).arg)),(V.sl (List.map cF ((nrm g b).kids)))])):PureC Tryd.prog 23 [(V.agg [(iV (f.op)),(iV (f.arg)),(V.sl (List.map cF (f.kids)))]),(V.bool b)] (V.agg [(iV ((nrm f b).op)),(iV ((nrm f b).arg)),(V.sl (List.map cF ((nrm f b).kids)))]):=by
 refine pW Tryd.func23 s23_ok fun hB=>?_
 unfold s23
 dsimp only
 have hp:=okF_parts hf
 have hr:=rgt_ok hp.1
 have hln:=f.sz_len
 refine W_r (R_box (i:=2) (n:=0) (m:=3) (cs:=[(iV (f.op)),(iV (f.arg)),(V.sl (List.map cF (f.kids)))]) rfl (congrArg Blk.ver rfl) rfl rfl rfl (R_alloc (i:=4) (n:=0) (m:=3) rfl (congrArg Blk.ver rfl) rfl (R_e (W_seq_seq (W_r (R_fk rfl rfl (R_lk rfl rfl rfl rfl ?_)))))))
 refine R_eql rfl rfl (R_e ?_)
 refine W_seq_if rfl (fun c1=>?_) fun c1=>?_
 ·
  refine W_seq_seq (W_r (R_fk rfl rfl (R_lk rfl rfl rfl rfl (R_idxu (i:=0) (@rfl V (V.sl (List.map cF (f.kids)))) (@rfl V (iV ((0:Nat):Int))) (by omega) (cF_eq _) rfl (R_load_pp rfl rfl (R_mv rfl (R_notb rfl ?_)))))))
  refine R_callk (ih (((nth (f.kids) (0)))) ((!b)) (Fm.sz_kid (by omega)) (hp.2 _ (by omega)) (Nat.le_trans (Nat.le_of_lt (Fm.sz_kid (by omega))) hz)) rfl (R_sk rfl rfl rfl rfl rfl rfl rfl rfl rfl (R_e (W_seq_ret ?_)))
  refine RetC_1 (resV_c (u:=(V.agg [(iV ((nrm (((nth (f.kids) (0)))) ((!b))).op)),(iV ((nrm (((nth (f.kids) (0)))) ((!b))).arg)),(V.sl (List.map cF ((nrm (((nth (f.kids) (0)))) ((!b))).kids)))])) rfl (@rfl Blk (bk 1 24 3 [[(iV ((nrm (((nth (f.kids) (0)))) ((!b))).op)),(iV ((nrm (((nth (f.kids) (0)))) ((!b))).arg)),(V.sl (List.map cF ((nrm (((nth (f.kids) (0)))) ((!b))).kids)))]])) (lB oB rfl rfl)) (fz_agg3 (fz_int ?_) (fz_int ?_) (fz_sl ?_ (fun _=>by simp)))
  · rw [nrm_not (f:=f) (b:=b) (by omega) (by omega)]
  · rw [nrm_not (f:=f) (b:=b) (by omega) (by omega)]
  · rw [nrm_not (f:=f) (b:=b) (by omega) (by omega)]
 refine W_seq_skip (W_seq_seq (W_r (R_fk rfl rfl (R_lk rfl rfl rfl rfl (R_len rfl (R_eql rfl rfl (R_e ?_)))))))
 refine W_seq_if rfl (fun c2=>?_) fun c2=>?_
 ·
  refine W_seq_seq (W_r (R_fk rfl rfl (R_lk rfl rfl rfl rfl (R_fk rfl rfl (R_lk rfl rfl rfl rfl (R_build rfl rfl (R_alloc (i:=5) (n:=0) (m:=3) rfl (congrArg Blk.ver rfl) rfl ?_)))))))
  refine R_sk rfl rfl rfl rfl rfl rfl rfl rfl rfl (R_e (W_seq_seq (W_seq_seq (W_r (R_mv rfl (R_e ?_))))))
  refine W_seq_ifb rfl (fun c3=>?_) (fun c3=>?_)
  ·
   have hb:b=true:=c3
   refine W_seq_seq (W_r (R_lk rfl rfl rfl rfl (R_call (evcons (@rfl V (V.agg [(iV (f.op)),(iV (f.arg)),V.nilsl])) evnil) (mnot_pure (⟨((f.op)),((f.arg)),([])⟩:Fm)) (mcons (by rfl) rfl) (by simp [-List.map_take,-List.map_drop,-List.map_append,-List.map_reverse]) (Or.inl (by simp [-List.map_take,-List.map_drop,-List.map_append,-List.map_reverse])) (R_sk rfl rfl rfl rfl rfl rfl rfl rfl rfl (R_e (W_seq_ret ?_))))))
   refine RetC_1 (resV_c (u:=(V.agg [(iV (4:Int)),(iV (0:Int)),(V.sl (List.map cF ([(⟨((f.op)),((f.arg)),([])⟩:Fm)])))])) rfl (@rfl Blk (bk 1 24 3 [[(iV (4:Int)),(iV (0:Int)),(V.sl (List.map cF ([(⟨((f.op)),((f.arg)),([])⟩:Fm)])))]])) (lB oB rfl rfl)) (fz_agg3 (fz_int ?_) (fz_int ?_) (fz_sl ?_ (fun _=>by simp)))
   · rw [hb,nrm_leafT (by omega) (by omega)]; rfl
   · rw [hb,nrm_leafT (by omega) (by omega)]; rfl
   · rw [hb,nrm_leafT (by omega) (by omega)]; rfl
  have hb:b=false:=by simpa using c3
  refine W_seq_skip (W_seq_seq (W_r (R_lk rfl rfl rfl rfl (R_sk rfl rfl rfl rfl rfl rfl rfl rfl rfl (R_e (W_seq_ret ?_))))))
  refine RetC_1 (resV_c (u:=(V.agg [(iV (f.op)),(iV (f.arg)),V.nilsl])) rfl (@rfl Blk (bk 1 24 3 [[(iV (f.op)),(iV (f.arg)),V.nilsl]])) (lB oB rfl rfl)) (fz_agg3 (fz_int ?_) (fz_int ?_) (fz_nil ?_))
  · rw [hb,nrm_leafF (by omega) (by omega)]; rfl
  · rw [hb,nrm_leafF (by omega) (by omega)]; rfl
  · rw [hb,nrm_leafF (by omega) (by omega)]; rfl
 refine W_seq_skip (W_r (R_fk rfl rfl (R_lk rfl rfl rfl rfl (R_build rfl rfl (R_alloc (i:=6) (n:=0) (m:=3) rfl (congrArg Blk.ver rfl) rfl (R_sk rfl rfl rfl rfl rfl rfl rfl rfl rfl (R_e ?_)))))))
 refine W_seq_seq (W_r (R_mv rfl (R_e ?_)))
 refine W_seq_ifb rfl (fun c4=>?_) (fun c4=>?_)
 ·
  have hb:b=true:=c4
  refine W_r (R_fk rfl rfl (R_lk rfl rfl rfl rfl (R_callk (opp_pure ((f.op))) rfl (R_fk rfl rfl (R_sk rfl rfl rfl rfl rfl rfl rfl rfl rfl (R_e (W_seq_seq ?_)))))))
  refine W_seq_g (fun T H=>T 1=(V.bool b)∧T 4=(V.mp 4 1 0 0)∧T 6=(V.mp 6 1 0 0)∧T 41=(V.sl (List.map cF (f.kids)))∧T 42=(iV ((f.kids.length:Nat):Int))∧T 43=(iV (0:Int))∧H 2=(bk 1 24 3 [[(iV (f.op)),(iV (f.arg)),(V.sl (List.map cF (f.kids)))]])∧H 4=(bk 1 24 3 [[(iV (0:Int)),(iV (0:Int)),V.nilsl]])∧H 5=(⟨0,false,false,0,0,[]⟩:Blk)∧H 6=(bk 1 24 3 [[(iV (dualI ((f.op)))),(iV (0:Int)),V.nilsl]])∧H 8=(⟨0,false,false,0,0,[]⟩:Blk)∧H 653=(⟨0,false,false,0,0,[]⟩:Blk)∧True) ?_ ?_
  ·
   refine R_fk rfl rfl (R_lk rfl rfl rfl rfl (R_len rfl (R_mv rfl ?_)))
   exact R_nil ⟨rfl,rfl,rfl,rfl,rfl,rfl,rfl,rfl,rfl,rfl,rfl,rfl,trivial⟩
  intro T H ⟨t1,t4,t6,t41,t42,t43,h2,h4,h5,h6,h8,h653,_⟩
  refine .lazyCell 653 24 3 6 0 2 [(iV (dualI ((f.op)))),(iV (0:Int)),V.nilsl] (by decide) (by rw [h6]; rfl) (by rw [h6]; rfl) rfl (.done ?_)
  refine fork_ (R:=fun T H=>T 1=(V.bool b)∧T 4=(V.mp 4 1 0 0)∧T 6=(V.mp 6 1 0 0)∧T 41=(V.sl (List.map cF (f.kids)))∧T 42=(iV ((f.kids.length:Nat):Int))∧T 43=(iV (0:Int))∧H 2=(bk 1 24 3 [[(iV (f.op)),(iV (f.arg)),(V.sl (List.map cF (f.kids)))]])∧H 4=(bk 1 24 3 [[(iV (0:Int)),(iV (0:Int)),V.nilsl]])∧H 5=(⟨0,false,false,0,0,[]⟩:Blk)∧H 6=(bk 1 24 3 [[(iV (dualI ((f.op)))),(iV (0:Int)),(V.ms 653 1 0 (0))]])∧H 8=(⟨0,false,false,0,0,[]⟩:Blk)∧H 653=(bz 1 24 3 [])∧True) ⟨t1,t4,t6,t41,t42,t43,((upd_ne _ _ (by decide)).trans ((upd_ne _ _ (by decide)).trans h2)),((upd_ne _ _ (by decide)).trans ((upd_ne _ _ (by decide)).trans h4)),((upd_ne _ _ (by decide)).trans ((upd_ne _ _ (by decide)).trans h5)),(by rw [upd_same,h6,(congrArg Blk.ver h653)]; rfl),((upd_ne _ _ (by decide)).trans ((upd_ne _ _ (by decide)).trans h8)),(by rw [upd_ne _ _ (by decide),upd_same,(congrArg Blk.ver h653)]),trivial⟩ ?_
  intro T H ⟨t1,t4,t6,t41,t42,t43,h2,h4,h5,h6,h8,h653,_⟩
  refine W_seq_blockg fun Q5 n5 x5 y5 z5=>?_
  refine W_loop (fun mm T H=> ∃ (k:Nat) (w:Nat) (v8:Nat),mm=f.kids.length - k∧T 1=(V.bool b)∧T 4=(V.mp 4 1 0 0)∧T 6=(V.mp 6 1 0 0)∧T 41=(V.sl (List.map cF (f.kids)))∧T 42=(iV ((f.kids.length:Nat):Int))∧T 43=(iV ((k:Nat):Int))∧H 2=(bk 1 24 3 [[(iV (f.op)),(iV (f.arg)),(V.sl (List.map cF (f.kids)))]])∧H 4=(bk 1 24 3 [[(iV (0:Int)),(iV (0:Int)),V.nilsl]])∧H 5=(⟨0,false,false,0,0,[]⟩:Blk)∧H 6=(bk 1 24 3 [[(iV (nop f.op b)),(iV (0:Int)),(V.ms 653 w 0 (k))]])∧(H 8).ver=v8∧H 653=(bz w 24 3 (List.map cF ((f.kids.take k).map (fun g=>nrm g b))))∧(k≤f.kids.length)) ?_ ?_
  ·
   refine ⟨_,0,1,0,rfl,t1,t4,t6,t41,t42,(Eq.trans t43 rfl),h2,h4,h5,(Eq.trans h6 (by (exact bk_op (by simp only [nop,dualI,hb,if_true,Bool.false_eq_true,if_false]; repeat (first|rfl|omega|split))))),(congrArg Blk.ver h8),(Eq.trans h653 (by rfl)),?_⟩
   · omega
  intro mm T H ⟨k,w,v8,hmm,t1,t4,t6,t41,t42,t43,h2,h4,h5,h6,h8,h653,hk⟩ Q6 p16 p26 p36
  unfold b23_0
  refine W_r (R_lss t43 t42 (R_e ?_))
  refine W_seq_if rfl (fun c7=>?_) fun c7=>?_
  ·
   refine W_seq_skip (W_seq_blockg fun Q8 n8 x8 y8 z8=>(W_r (R_idxu (i:=k) t41 t43 (by omega) (cF_eq _) rfl (R_load_pp rfl rfl (R_alloc (i:=8) (n:=v8) (m:=3) rfl h8 rfl (R_sk rfl rfl rfl rfl rfl rfl rfl rfl rfl (R_e ?_)))))))
   refine W_t (R_fk t6 h6 (R_lk rfl h6 rfl rfl (R_lk rfl rfl rfl rfl (R_mv t1 (R_callk (ih (((nth (f.kids) (k)))) b (Fm.sz_kid (by omega)) (hp.2 _ (by omega)) (Nat.le_trans (Nat.le_of_lt (Fm.sz_kid (by omega))) hz)) rfl (R_bslice rfl rfl (R_append1 (l:=((f.kids.take k).map (fun g=>nrm g b))) (f:=cF) (x:=((nrm (((nth (f.kids) (k)))) b))) (@rfl V (V.ms 653 w 0 (k))) h653 (by (simp; omega)) (row_F1 (x:=((nrm (((nth (f.kids) (k)))) b))) (@rfl V (V.sl [[(iV ((nrm (((nth (f.kids) (k)))) b).op)),(iV ((nrm (((nth (f.kids) (k)))) b).arg)),(V.sl (List.map cF ((nrm (((nth (f.kids) (k)))) b).kids)))]]))) (cF_len _) (cF_one _) (by omega) (by omega) ?_)))))))
   refine R_fk t6 h6 (R_sk rfl rfl rfl h6 rfl rfl rfl rfl rfl (R_e (n8 _ _ (.done (W_t (R_addN t43 (@rfl V (iV ((1:Nat):Int))) (by omega) (R_mv rfl ?_)))))))
   refine R_e ?_
   refine p16 _ _ _ ?_ ⟨(k+1),(w+1),(v8+1),rfl,t1,t4,t6,t41,t42,(Eq.trans (@rfl V (iV ((k+1:Nat):Int))) (by rfl)),h2,h4,h5,(Eq.trans (@rfl Blk (bk 1 24 3 [[(iV (nop f.op b)),(iV (0:Int)),(V.ms 653 (w+1) 0 (k+1))]])) (by rfl)),(congrArg Blk.ver rfl),(Eq.trans (@rfl Blk (bz (w+1) 24 3 (List.map cF ((f.kids.take k).map (fun g=>nrm g b)++[(nrm (((nth (f.kids) (k)))) b)])))) (by (rw [mapTake (by omega)]; done))),?_⟩
   · omega
   · omega
  refine W_seq_exit (p36 _ _ _ (x5 _ _ (.done (W_r (R_lk t6 h6 rfl rfl (R_sk t4 rfl rfl h4 rfl rfl rfl rfl rfl (R_e ?_)))))))
  refine W_ret ?_
  refine RetC_1 (resV_c (u:=(V.agg [(iV (nop f.op b)),(iV (0:Int)),(V.ms 653 w 0 (k))])) t4 (@rfl Blk (bk 1 24 3 [[(iV (nop f.op b)),(iV (0:Int)),(V.ms 653 w 0 (k))]])) (lB oB rfl rfl)) (fz_agg3 (fz_int ?_) (fz_int ?_) (fz_ms h653 (by simp) (l:=((f.kids.take k).map (fun g=>nrm g b))) rfl (by (simp; omega)) (fun _=>by simp) ?_))
  · rw [nrm_node (by omega) (by omega)]; rfl
  · rw [nrm_node (by omega) (by omega)]; rfl
  · rw [nrm_node (by omega) (by omega)]; first|rfl|(show _=List.map _ f.kids; rw [show k=f.kids.length by omega,List.take_length]; done)
 have hb:b=false:=by simpa using c4
 refine W_seq_skip (W_seq_seq ?_)
 refine W_seq_g (fun T H=>T 1=(V.bool b)∧T 4=(V.mp 4 1 0 0)∧T 6=(V.mp 6 1 0 0)∧T 41=(V.sl (List.map cF (f.kids)))∧T 42=(iV ((f.kids.length:Nat):Int))∧T 43=(iV (0:Int))∧H 2=(bk 1 24 3 [[(iV (f.op)),(iV (f.arg)),(V.sl (List.map cF (f.kids)))]])∧H 4=(bk 1 24 3 [[(iV (0:Int)),(iV (0:Int)),V.nilsl]])∧H 5=(⟨0,false,false,0,0,[]⟩:Blk)∧H 6=(bk 1 24 3 [[(iV (f.op)),(iV (0:Int)),V.nilsl]])∧H 8=(⟨0,false,false,0,0,[]⟩:Blk)∧H 653=(⟨0,false,false,0,0,[]⟩:Blk)∧True) ?_ ?_
 ·
  refine R_fk rfl rfl (R_lk rfl rfl rfl rfl (R_len rfl (R_mv rfl ?_)))
  exact R_nil ⟨rfl,rfl,rfl,rfl,rfl,rfl,rfl,rfl,rfl,rfl,rfl,rfl,trivial⟩
 intro T H ⟨t1,t4,t6,t41,t42,t43,h2,h4,h5,h6,h8,h653,_⟩
 refine .lazyCell 653 24 3 6 0 2 [(iV (f.op)),(iV (0:Int)),V.nilsl] (by decide) (by rw [h6]; rfl) (by rw [h6]; rfl) rfl (.done ?_)
 refine fork_ (R:=fun T H=>T 1=(V.bool b)∧T 4=(V.mp 4 1 0 0)∧T 6=(V.mp 6 1 0 0)∧T 41=(V.sl (List.map cF (f.kids)))∧T 42=(iV ((f.kids.length:Nat):Int))∧T 43=(iV (0:Int))∧H 2=(bk 1 24 3 [[(iV (f.op)),(iV (f.arg)),(V.sl (List.map cF (f.kids)))]])∧H 4=(bk 1 24 3 [[(iV (0:Int)),(iV (0:Int)),V.nilsl]])∧H 5=(⟨0,false,false,0,0,[]⟩:Blk)∧H 6=(bk 1 24 3 [[(iV (f.op)),(iV (0:Int)),(V.ms 653 1 0 (0))]])∧H 8=(⟨0,false,false,0,0,[]⟩:Blk)∧H 653=(bz 1 24 3 [])∧True) ⟨t1,t4,t6,t41,t42,t43,((upd_ne _ _ (by decide)).trans ((upd_ne _ _ (by decide)).trans h2)),((upd_ne _ _ (by decide)).trans ((upd_ne _ _ (by decide)).trans h4)),((upd_ne _ _ (by decide)).trans ((upd_ne _ _ (by decide)).trans h5)),(by rw [upd_same,h6,(congrArg Blk.ver h653)]; rfl),((upd_ne _ _ (by decide)).trans ((upd_ne _ _ (by decide)).trans h8)),(by rw [upd_ne _ _ (by decide),upd_same,(congrArg Blk.ver h653)]),trivial⟩ ?_
 intro T H ⟨t1,t4,t6,t41,t42,t43,h2,h4,h5,h6,h8,h653,_⟩
 refine W_seq_blockg fun Q9 n9 x9 y9 z9=>?_
 refine W_loop (fun mm T H=> ∃ (k:Nat) (w:Nat) (v8:Nat),mm=f.kids.length - k∧T 1=(V.bool b)∧T 4=(V.mp 4 1 0 0)∧T 6=(V.mp 6 1 0 0)∧T 41=(V.sl (List.map cF (f.kids)))∧T 42=(iV ((f.kids.length:Nat):Int))∧T 43=(iV ((k:Nat):Int))∧H 2=(bk 1 24 3 [[(iV (f.op)),(iV (f.arg)),(V.sl (List.map cF (f.kids)))]])∧H 4=(bk 1 24 3 [[(iV (0:Int)),(iV (0:Int)),V.nilsl]])∧H 5=(⟨0,false,false,0,0,[]⟩:Blk)∧H 6=(bk 1 24 3 [[(iV (nop f.op b)),(iV (0:Int)),(V.ms 653 w 0 (k))]])∧(H 8).ver=v8∧H 653=(bz w 24 3 (List.map cF ((f.kids.take k).map (fun g=>nrm g b))))∧(k≤f.kids.length)) ?_ ?_
 ·
  refine ⟨_,0,1,0,rfl,t1,t4,t6,t41,t42,(Eq.trans t43 rfl),h2,h4,h5,(Eq.trans h6 (by (exact bk_op (by simp only [nop,dualI,hb,if_true,Bool.false_eq_true,if_false]; repeat (first|rfl|omega|split))))),(congrArg Blk.ver h8),(Eq.trans h653 (by rfl)),?_⟩
  · omega
 intro mm T H ⟨k,w,v8,hmm,t1,t4,t6,t41,t42,t43,h2,h4,h5,h6,h8,h653,hk⟩ Q10 p110 p210 p310
 unfold b23_0
 refine W_r (R_lss t43 t42 (R_e ?_))
 refine W_seq_if rfl (fun c11=>?_) fun c11=>?_
 ·
  refine W_seq_skip (W_seq_blockg fun Q12 n12 x12 y12 z12=>(W_r (R_idxu (i:=k) t41 t43 (by omega) (cF_eq _) rfl (R_load_pp rfl rfl (R_alloc (i:=8) (n:=v8) (m:=3) rfl h8 rfl (R_sk rfl rfl rfl rfl rfl rfl rfl rfl rfl (R_e ?_)))))))
  refine W_t (R_fk t6 h6 (R_lk rfl h6 rfl rfl (R_lk rfl rfl rfl rfl (R_mv t1 (R_callk (ih (((nth (f.kids) (k)))) b (Fm.sz_kid (by omega)) (hp.2 _ (by omega)) (Nat.le_trans (Nat.le_of_lt (Fm.sz_kid (by omega))) hz)) rfl (R_bslice rfl rfl (R_append1 (l:=((f.kids.take k).map (fun g=>nrm g b))) (f:=cF) (x:=((nrm (((nth (f.kids) (k)))) b))) (@rfl V (V.ms 653 w 0 (k))) h653 (by (simp; omega)) (row_F1 (x:=((nrm (((nth (f.kids) (k)))) b))) (@rfl V (V.sl [[(iV ((nrm (((nth (f.kids) (k)))) b).op)),(iV ((nrm (((nth (f.kids) (k)))) b).arg)),(V.sl (List.map cF ((nrm (((nth (f.kids) (k)))) b).kids)))]]))) (cF_len _) (cF_one _) (by omega) (by omega) ?_)))))))
  refine R_fk t6 h6 (R_sk rfl rfl rfl h6 rfl rfl rfl rfl rfl (R_e (n12 _ _ (.done (W_t (R_addN t43 (@rfl V (iV ((1:Nat):Int))) (by omega) (R_mv rfl ?_)))))))
  refine R_e ?_
  refine p110 _ _ _ ?_ ⟨(k+1),(w+1),(v8+1),rfl,t1,t4,t6,t41,t42,(Eq.trans (@rfl V (iV ((k+1:Nat):Int))) (by rfl)),h2,h4,h5,(Eq.trans (@rfl Blk (bk 1 24 3 [[(iV (nop f.op b)),(iV (0:Int)),(V.ms 653 (w+1) 0 (k+1))]])) (by rfl)),(congrArg Blk.ver rfl),(Eq.trans (@rfl Blk (bz (w+1) 24 3 (List.map cF ((f.kids.take k).map (fun g=>nrm g b)++[(nrm (((nth (f.kids) (k)))) b)])))) (by (rw [mapTake (by omega)]; done))),?_⟩
  · omega
  · omega
 refine W_seq_exit (p310 _ _ _ (x9 _ _ (.done (W_r (R_lk t6 h6 rfl rfl (R_sk t4 rfl rfl h4 rfl rfl rfl rfl rfl (R_e ?_)))))))
 refine W_ret ?_
 refine RetC_1 (resV_c (u:=(V.agg [(iV (nop f.op b)),(iV (0:Int)),(V.ms 653 w 0 (k))])) t4 (@rfl Blk (bk 1 24 3 [[(iV (nop f.op b)),(iV (0:Int)),(V.ms 653 w 0 (k))]])) (lB oB rfl rfl)) (fz_agg3 (fz_int ?_) (fz_int ?_) (fz_ms h653 (by simp) (l:=((f.kids.take k).map (fun g=>nrm g b))) rfl (by (simp; omega)) (fun _=>by simp) ?_))
 · rw [nrm_node (by omega) (by omega)]; rfl
 · rw [nrm_node (by omega) (by omega)]; rfl
 · rw [nrm_node (by omega) (by omega)]; first|rfl|(show _=List.map _ f.kids; rw [show k=f.kids.length by omega,List.take_length]; done)
theorem mnormal_pure (f:Fm) (b:Bool) (hf:okF f=true) (hz:f.sz≤4096):PureC Tryd.prog 23 [(V.agg [(iV (f.op)),(iV (f.arg)),(V.sl (List.map cF (f.kids)))]),(V.bool b)] (V.agg [(iV ((nrm f b).op)),(iV ((nrm f b).arg)),(V.sl (List.map cF ((nrm f b).kids)))]):=by
  have key: ∀ (mm:Nat) (f:Fm) (b:Bool),f.sz < mm→okF f=true→f.sz≤4096→PureC Tryd.prog 23 [(V.agg [(iV (f.op)),(iV (f.arg)),(V.sl (List.map cF (f.kids)))]),(V.bool b)] (V.agg [(iV ((nrm f b).op)),(iV ((nrm f b).arg)),(V.sl (List.map cF ((nrm f b).kids)))]):=by
    intro mm
    induction mm with
    |zero=>intro f b hlt; exact absurd hlt (Nat.not_lt_zero _)
    | succ mm ih =>
      intro f b hlt hf hz
      exact mnormal_pure_step f b hf hz fun f2 b2 hlt2=>ih f2 b2 (by omega)
  exact key (f.sz+1) f b (Nat.lt_succ_self _) hf hz
theorem simplify_pure (f:Fm):PureC Tryd.prog 9 [(V.agg [(iV (f.op)),(iV (f.arg)),(V.sl (List.map cF (f.kids)))])] (V.tup [(V.agg [(iV ((simp_ f).1.op)),(iV ((simp_ f).1.arg)),(V.sl (List.map cF ((simp_ f).1.kids)))]),(iV ((simp_ f).2))]):=by
 refine pW Tryd.func9 s9_ok fun hB=>?_
 unfold s9
 dsimp only
 refine W_r (R_box (i:=1) (n:=0) (m:=3) (cs:=[(iV (f.op)),(iV (f.arg)),(V.sl (List.map cF (f.kids)))]) rfl (congrArg Blk.ver rfl) rfl rfl rfl (R_alloc (i:=2) (n:=0) (m:=3) rfl (congrArg Blk.ver rfl) rfl (R_mv rfl (R_e (W_seq_seq (W_r (R_lk rfl rfl rfl rfl ?_)))))))
 refine R_callk (fvalid_pure f) rfl (R_mv rfl (R_e (W_seq_seq (W_r (R_mv rfl (R_neq rfl rfl (R_e ?_)))))))
 refine W_seq_if rfl (fun c1=>?_) fun c1=>?_
 ·
  have d1:=simp_e c1
  refine W_seq_seq (W_r (R_build rfl rfl (R_mv rfl (R_sk rfl rfl rfl rfl rfl rfl rfl rfl rfl (R_mv rfl (R_e (W_seq_ret ?_)))))))
  refine RetC_2 (resV_c (u:=(V.agg [(iV (0:Int)),(iV (0:Int)),V.nilsl])) rfl (@rfl Blk (bk 1 24 3 [[(iV (0:Int)),(iV (0:Int)),V.nilsl]])) (lB oB rfl rfl)) (resV_t (@rfl V (iV (fval f)))) (fz_agg3 (fz_int ?_) (fz_int ?_) (fz_nil ?_)) (fz_int ?_)
  · rw [d1]; rfl
  · rw [d1]; rfl
  · rw [d1]; rfl
  · rw [d1]
 have d1:=simp_g c1
 refine W_seq_skip (W_r (R_lk rfl rfl rfl rfl (R_callk (mnormal_pure f false (fval_ok (by omega)) (fval_sz (by omega))) rfl (R_callk (checked_pure ((nrm f false)) (nrm_ok f (fval_ok (by omega)) false) (Nat.le_trans (nrm_sz f false) (by have:=fval_sz (f:=f) (by omega); omega))) rfl (R_ext rfl rfl (R_ext rfl rfl (R_sk rfl rfl rfl rfl rfl rfl rfl rfl rfl ?_)))))))
 refine R_mv rfl (R_e (W_ret ?_))
 refine RetC_2 (resV_c (u:=(V.agg [(iV ((chk ((nrm f false))).1.op)),(iV ((chk ((nrm f false))).1.arg)),(V.sl (List.map cF ((chk ((nrm f false))).1.kids)))])) rfl (@rfl Blk (bk 1 24 3 [[(iV ((chk ((nrm f false))).1.op)),(iV ((chk ((nrm f false))).1.arg)),(V.sl (List.map cF ((chk ((nrm f false))).1.kids)))]])) (lB oB rfl rfl)) (resV_t (@rfl V (iV ((chk ((nrm f false))).2)))) (fz_agg3 (fz_int ?_) (fz_int ?_) (fz_sl ?_ (fun _=>by simp))) (fz_int ?_)
 · rw [d1]
 · rw [d1]
 · rw [d1]
 · rw [d1]
def r10_1:List SO:=[
 qF 6 0 2,
 ql 7 6,
 qF 8 0 3,
 ql 9 8,
 qP 10 .neq 7 9,
 qM 11 10,
 ⟨some (11,false),some 12,.fld 1 (.t 2)⟩,
 ⟨some (11,false),some 13,.load false 1 (.t 12)⟩,
 ⟨some (11,false),some 14,.fld 1 (.t 3)⟩,
 ⟨some (11,false),some 15,.load false 1 (.t 14)⟩,
 ⟨some (11,false),some 16,.bin .neq (.t 13) (.t 15)⟩,
 sO 17 (.pick (.t 11) (.c (.bool true)) (.t 16)),
 qM 18 17,
 ⟨some (18,false),some 19,.fld 2 (.t 2)⟩,
 ⟨some (18,false),some 20,.load false 1 (.t 19)⟩,
 ⟨some (18,false),some 21,.len (.t 20)⟩,
 ⟨some (18,false),some 22,.fld 2 (.t 3)⟩,
 ⟨some (18,false),some 23,.load false 1 (.t 22)⟩,
 ⟨some (18,false),some 24,.len (.t 23)⟩,
 ⟨some (18,false),some 25,.bin .neq (.t 21) (.t 24)⟩,
 sO 26 (.pick (.t 18) (.c (.bool true)) (.t 25))]
def r10_6:List SO:=[
 qF 34 2 2,
 ql 35 34,
 qM 36 5,
 qA 37 3 35 36,
 qL 38 3 37,
 qF 39 2 3,
 ql 40 39,
 qM 41 5,
 qA 42 3 40 41,
 qL 43 3 42,
 sO 44 (.call false 10 [.t 38,.t 43]),
 sO 45 (.un .not (.t 44))]
def b10_0:SC:=.seq (.seq (.reg [qM 27 5,qF 28 2 2,ql 29 28,qN 30 29,qP 31 .lss 27 30]) (.cond (.t 31) (.skip) (.exit 0))) (.seq (.block 1 (.seq (.reg r10_6) (.cond (.t 45) (.seq (.reg [sO 4 (.mv (.c (.bool false)))]) (.ret)) (.skip)))) (.reg [qM 32 5,qC 33 .add 32 1,qM 5 33]))
def s10:SF:=⟨46,[.tmp 4],.seq (.reg [sO 2 (.box 24 3 (.t 0)),sO 3 (.box 24 3 (.t 1)),sO 4 (.mv (.c (.bool false)))]) (.seq (.seq (.reg r10_1) (.cond (.t 26) (.seq (.reg [sO 4 (.mv (.c (.bool false)))]) (.ret)) (.skip))) (.seq (.seq (.reg [qI 5 0]) (.block 0 (.loop b10_0))) (.seq (.reg [sO 4 (.mv (.c (.bool true)))]) (.ret))))⟩
theorem s10_ok:slimF Tryd.prog ⟨[32,48,55,93,94,95,100],[],[],[]⟩ Tryd.f10=some s10:=by kernel_rfl
theorem rsame_pure_step (f h:Fm) (ih: ∀ (g h:Fm),g.sz < f.sz→PureC Tryd.prog 10 [(V.agg [(iV (g.op)),(iV (g.arg)),(V.sl (List.map cF (g.kids)))]),(V.agg [(iV (h.op)),(iV (h.arg)),(V.sl (List.map cF (h.kids)))])] (V.bool (sameF g h))):PureC Tryd.prog 10 [(V.agg [(iV (f.op)),(iV (f.arg)),(V.sl (List.map cF (f.kids)))]),(V.agg [(iV (h.op)),(iV (h.arg)),(V.sl (List.map cF (h.kids)))])] (V.bool (sameF f h)):=by
 refine pW Tryd.func10 s10_ok fun hB=>?_
 unfold s10
 dsimp only
 refine W_r (R_box (i:=2) (n:=0) (m:=3) (cs:=[(iV (f.op)),(iV (f.arg)),(V.sl (List.map cF (f.kids)))]) rfl (congrArg Blk.ver rfl) rfl rfl rfl (R_box (i:=3) (n:=0) (m:=3) (cs:=[(iV (h.op)),(iV (h.arg)),(V.sl (List.map cF (h.kids)))]) rfl (congrArg Blk.ver rfl) rfl rfl rfl (R_mv rfl (R_e (W_seq_seq (W_r (R_fk rfl rfl ?_)))))))
 refine R_lk rfl rfl rfl rfl (R_fk rfl rfl (R_lk rfl rfl rfl rfl (R_neq rfl rfl (R_mv rfl ?_))))
 refine Ops_seg 6 (fun T H=>T 2=(V.mp 2 1 0 0)∧T 3=(V.mp 3 1 0 0)∧T 17=(V.bool (decide (((f.op)≠(h.op))∨((f.arg)≠(h.arg)))))∧H 2=(bk 1 24 3 [[(iV (f.op)),(iV (f.arg)),(V.sl (List.map cF (f.kids)))]])∧H 3=(bk 1 24 3 [[(iV (h.op)),(iV (h.arg)),(V.sl (List.map cF (h.kids)))]])∧True) ?_ ?_
 ·
  by_cases g1:(f.op)≠(h.op)
  ·
   refine G_n (edT g1 rfl) (G_n (edT g1 rfl) (G_n (edT g1 rfl) (G_n (edT g1 rfl) (G_n (edT g1 rfl) (R_pickT (edT g1 rfl) rfl ?_)))))
   exact ⟨rfl,rfl,(dec_orT g1),rfl,rfl,trivial⟩
  ·
   refine G_yes (edF g1 rfl) (R_fk rfl rfl (G_yes (edF g1 rfl) (R_lk rfl rfl rfl rfl (G_yes (edF g1 rfl) (R_fk rfl rfl (G_yes (edF g1 rfl) (R_lk rfl rfl rfl rfl ?_)))))))
   refine G_yes (edF g1 rfl) (R_neq rfl rfl (R_pickF (edF g1 rfl) rfl ?_))
   exact ⟨rfl,rfl,(dec_orF g1),rfl,rfl,trivial⟩
 intro T H ⟨t2,t3,t17,h2,h3,_⟩
 refine R_mv t17 ?_
 refine Ops_seg 8 (fun T H=>T 2=(V.mp 2 1 0 0)∧T 3=(V.mp 3 1 0 0)∧T 26=(V.bool (decide ((((f.op)≠(h.op))∨((f.arg)≠(h.arg)))∨(((f.kids.length:Nat):Int)≠((h.kids.length:Nat):Int)))))∧H 2=(bk 1 24 3 [[(iV (f.op)),(iV (f.arg)),(V.sl (List.map cF (f.kids)))]])∧H 3=(bk 1 24 3 [[(iV (h.op)),(iV (h.arg)),(V.sl (List.map cF (h.kids)))]])∧True) ?_ ?_
 ·
  by_cases g2:((f.op)≠(h.op))∨((f.arg)≠(h.arg))
  ·
   refine G_n (edT g2 rfl) (G_n (edT g2 rfl) (G_n (edT g2 rfl) (G_n (edT g2 rfl) (G_n (edT g2 rfl) (G_n (edT g2 rfl) (G_n (edT g2 rfl) (R_pickT (edT g2 rfl) rfl ?_)))))))
   exact ⟨t2,t3,(dec_orT g2),h2,h3,trivial⟩
  ·
   refine G_yes (edF g2 rfl) (R_fk t2 h2 (G_yes (edF g2 rfl) (R_lk rfl h2 rfl rfl (G_yes (edF g2 rfl) (R_len rfl (G_yes (edF g2 rfl) (R_fk t3 h3 ?_)))))))
   refine G_yes (edF g2 rfl) (R_lk rfl h3 rfl rfl (G_yes (edF g2 rfl) (R_len rfl (G_yes (edF g2 rfl) (R_neq rfl rfl (R_pickF (edF g2 rfl) rfl ?_))))))
   exact ⟨t2,t3,(dec_orF g2),h2,h3,trivial⟩
 intro T H ⟨t2,t3,t26,h2,h3,_⟩
 refine R_e ?_
 refine W_seq_if t26 (fun c3=>?_) fun c3=>?_
 ·
  refine W_seq_seq (W_r (R_mv rfl (R_e (W_seq_ret ?_))))
  refine Ret_1 (@rfl V (V.bool false)) (fz_bool ?_)
  · rw [sameF_eq]; symm; simp only [Bool.and_eq_false_iff,decide_eq_false_iff_not]; omega
 refine W_seq_skip (W_seq_seq (W_r (R_mv rfl (R_e (W_seq_blockg fun Q4 n4 x4 y4 z4=>?_)))))
 refine W_loop (fun mm T H=> ∃ (k:Nat),mm=f.kids.length - k∧T 2=(V.mp 2 1 0 0)∧T 3=(V.mp 3 1 0 0)∧T 5=(iV ((k:Nat):Int))∧H 2=(bk 1 24 3 [[(iV (f.op)),(iV (f.arg)),(V.sl (List.map cF (f.kids)))]])∧H 3=(bk 1 24 3 [[(iV (h.op)),(iV (h.arg)),(V.sl (List.map cF (h.kids)))]])∧(k≤f.kids.length)∧(f.kids.length=h.kids.length)∧(sameL f.kids h.kids=sameL (f.kids.drop k) (h.kids.drop k))) ?_ ?_
 ·
  refine ⟨_,0,rfl,t2,t3,(Eq.trans (@rfl V (iV (0:Int))) rfl),h2,h3,?_,?_,?_⟩
  · omega
  · omega
  · rfl
 intro mm T H ⟨k,hmm,t2,t3,t5,h2,h3,hk,hl,hc⟩ Q5 p15 p25 p35
 unfold b10_0
 refine W_seq_seq (W_r (R_mv t5 (R_fk t2 h2 (R_lk rfl h2 rfl rfl (R_len rfl (R_lss rfl rfl (R_e ?_)))))))
 refine W_seq_if rfl (fun c6=>?_) fun c6=>?_
 ·
  refine W_seq_skip (W_seq_blockg fun Q7 n7 x7 y7 z7=>(W_r (R_fk t2 h2 (R_lk rfl h2 rfl rfl (R_mv t5 (R_idxu (i:=k) (@rfl V (V.sl (List.map cF (f.kids)))) (@rfl V (iV ((k:Nat):Int))) (by omega) (cF_eq _) rfl (R_load_pp rfl rfl ?_)))))))
  refine R_fk t3 h3 (R_lk rfl h3 rfl rfl (R_mv t5 (R_idxu (i:=k) (@rfl V (V.sl (List.map cF (h.kids)))) (@rfl V (iV ((k:Nat):Int))) (by omega) (cF_eq _) rfl (R_load_pp rfl rfl (R_callk (ih (((nth (f.kids) (k)))) (((nth (h.kids) (k)))) (Fm.sz_kid (by omega))) rfl (R_notb rfl (R_e ?_)))))))
  refine W_ifb rfl (fun c8=>?_) (fun c8=>?_)
  ·
   have d1:sameF (nth f.kids k) (nth h.kids k)=false:=by simpa using c8
   refine W_r (R_mv rfl (R_e (W_ret (y7 _ _ (p25 _ _ (y4 _ _ ?_))))))
   refine Ret_1 (@rfl V (V.bool false)) (fz_bool ?_)
   · rw [sameF_eq,hc,sameL_no (by omega) (by omega) d1,Bool.and_false]
  have d1:sameF (nth f.kids k) (nth h.kids k)=true:=by simpa using c8
  refine W_skip (n7 _ _ (.done (W_t (R_mv t5 (R_addN rfl (@rfl V (iV ((1:Nat):Int))) (by omega) (R_mv rfl (R_e ?_)))))))
  refine p15 _ _ _ ?_ ⟨(k+1),rfl,t2,t3,(Eq.trans (@rfl V (iV ((k+1:Nat):Int))) (by rfl)),h2,h3,?_,?_,?_⟩
  · omega
  · omega
  · omega
  · rw [hc,sameL_yes (by omega) (by omega) d1]
 refine W_seq_exit (p35 _ _ _ (x4 _ _ (.done (W_r (R_mv rfl (R_e (W_ret ?_)))))))
 refine Ret_1 (@rfl V (V.bool true)) (fz_bool ?_)
 · rw [sameF_eq,hc,sameL_end (by omega),Bool.and_true]; symm; simp only [Bool.and_eq_true,decide_eq_true_eq]; omega
theorem rsame_pure (f h:Fm):PureC Tryd.prog 10 [(V.agg [(iV (f.op)),(iV (f.arg)),(V.sl (List.map cF (f.kids)))]),(V.agg [(iV (h.op)),(iV (h.arg)),(V.sl (List.map cF (h.kids)))])] (V.bool (sameF f h)):=by
  have key: ∀ (mm:Nat) (f h:Fm),f.sz < mm→PureC Tryd.prog 10 [(V.agg [(iV (f.op)),(iV (f.arg)),(V.sl (List.map cF (f.kids)))]),(V.agg [(iV (h.op)),(iV (h.arg)),(V.sl (List.map cF (h.kids)))])] (V.bool (sameF f h)):=by
    intro mm
    induction mm with
    |zero=>intro f h hlt; exact absurd hlt (Nat.not_lt_zero _)
    | succ mm ih =>
      intro f h hlt
      exact rsame_pure_step f h fun f2 h2 hlt2=>ih f2 h2 (by omega)
  exact key (f.sz+1) f h (Nat.lt_succ_self _)
def r11_4:List SO:=[
 qM 17 1,
 qC 18 .lss 17 0,
 qM 19 18,
 ⟨some (19,false),some 20,.mv (.t 1)⟩,
 ⟨some (19,false),some 21,.bin .geq (.t 20) (.c (.int .i64 64))⟩,
 sO 22 (.pick (.t 19) (.c (.bool true)) (.t 21)),
 qM 23 22,
 ⟨some (23,false),some 24,.mv (.t 2)⟩,
 ⟨some (23,false),some 25,.bin .lss (.t 24) (.c (.int .i64 0))⟩,
 sO 26 (.pick (.t 23) (.c (.bool true)) (.t 25)),
 qM 27 26,
 ⟨some (27,false),some 28,.mv (.t 2)⟩,
 ⟨some (27,false),some 29,.bin .gtr (.t 28) (.c (.int .i64 1048576))⟩,
 sO 30 (.pick (.t 27) (.c (.bool true)) (.t 29))]
def r11_6:List SO:=[
 qL 33 3 3,
 sO 34 (.call false 9 [.t 33]),
 qM 32 34,
 qE 35 32 0,
 qE 36 32 1,
 sO 9 (.alloc 24 [.int .i64 0,.int .i64 0,.nilsl]),
 sN (.store 3 (.t 9) (.t 35)),
 qM 10 36]
def r11_9:List SO:=[
 qL 41 3 9,
 qM 42 1,
 qM 43 2,
 sO 44 (.call false 24 [.t 41,.t 42,.t 43]),
 sO 45 (.call false 22 [.t 44]),
 qE 46 45 0,
 qE 47 45 1,
 sN (.store 3 (.t 6) (.t 46)),
 qM 7 47]
def s11:SF:=⟨48,[.cell 6 true 3,.tmp 7],.seq (.reg [sO 3 (.box 24 3 (.t 0)),sO 6 (.alloc 24 [.int .i64 0,.int .i64 0,.nilsl]),qI 7 0]) (.seq (.seq (.reg [qL 11 3 3,sO 12 (.call false 21 [.t 11]),qM 8 12]) (.seq (.reg [qM 13 8,qC 14 .neq 13 0]) (.cond (.t 14) (.seq (.reg [sO 15 (.build [.int .i64 0,.int .i64 0,.nilsl] []),qM 16 8,sN (.store 3 (.t 6) (.t 15)),qM 7 16]) (.ret)) (.skip)))) (.seq (.seq (.reg r11_4) (.cond (.t 30) (.seq (.reg [sO 31 (.build [.int .i64 0,.int .i64 0,.nilsl] []),sN (.store 3 (.t 6) (.t 31)),qI 7 2]) (.ret)) (.skip))) (.seq (.reg r11_6) (.seq (.seq (.reg [qM 37 10,qC 38 .neq 37 0]) (.cond (.t 38) (.seq (.reg [sO 39 (.build [.int .i64 0,.int .i64 0,.nilsl] []),qM 40 10,sN (.store 3 (.t 6) (.t 39)),qM 7 40]) (.ret)) (.skip))) (.seq (.reg r11_9) (.ret))))))⟩
theorem s11_ok:slimF Tryd.prog ⟨[32,48,55,93,94,95,100],[],[],[]⟩ Tryd.f11=some s11:=by kernel_rfl
def r24_8:List SO:=[
 qF 33 0 7,
 ql 34 33,
 qC 35 .eql 34 2,
 qM 36 35,
 ⟨some (36,true),some 37,.fld 1 (.t 7)⟩,
 ⟨some (36,true),some 38,.load false 1 (.t 37)⟩,
 ⟨some (36,true),some 39,.mv (.t 1)⟩,
 ⟨some (36,true),some 40,.bin .neq (.t 38) (.t 39)⟩,
 sO 41 (.pick (.t 36) (.t 40) (.c (.bool false))),
 qM 42 41,
 ⟨some (42,false),some 43,.fld 0 (.t 7)⟩,
 ⟨some (42,false),some 44,.load false 1 (.t 43)⟩,
 ⟨some (42,false),some 45,.bin .eql (.t 44) (.c (.int .i64 3))⟩,
 ⟨some (42,false),some 46,.mv (.t 45)⟩,
 ⟨some (46,true),some 47,.fld 1 (.t 7)⟩,
 ⟨some (46,true),some 48,.load false 1 (.t 47)⟩,
 ⟨some (46,true),some 49,.mv (.t 2)⟩,
 ⟨some (46,true),some 50,.bin .neq (.t 48) (.t 49)⟩,
 ⟨some (42,false),some 51,.pick (.t 46) (.t 50) (.c (.bool false))⟩,
 sO 52 (.pick (.t 42) (.c (.bool true)) (.t 51)),
 sO 53 (.call false 37 [.t 52]),
 sN (.store 3 (.t 6) (.t 53))]
def r24_13:List SO:=[
 qF 63 2 3,
 ql 64 63,
 sO 65 (.idx 3 (.t 64) (.c (.int .i64 1))),
 qL 66 3 65,
 qM 67 1,
 qM 68 2,
 sO 69 (.call false 24 [.t 66,.t 67,.t 68]),
 qF 70 2 3,
 ql 71 70,
 sO 72 (.idx 3 (.t 71) (.c (.int .i64 0))),
 qL 73 3 72,
 qM 74 1,
 qM 75 2,
 sO 76 (.call false 24 [.t 73,.t 74,.t 75]),
 qL 77 3 3,
 sO 78 (.bslice 24 3 false [.int .i64 0,.int .i64 0,.nilsl] 2 [(0,.t 76),(1,.t 77)]),
 sO 79 (.call false 38 [.c (.int .i64 5),.t 78]),
 sO 80 (.bslice 24 3 false [.int .i64 0,.int .i64 0,.nilsl] 2 [(0,.t 69),(1,.t 79)]),
 sO 81 (.call false 38 [.c (.int .i64 6),.t 80]),
 sN (.store 3 (.t 6) (.t 81))]
def r24_15:List SO:=[
 qF 84 2 3,
 ql 85 84,
 sO 86 (.idx 3 (.t 85) (.c (.int .i64 1))),
 qL 87 3 86,
 qM 88 1,
 qM 89 2,
 sO 90 (.call false 24 [.t 87,.t 88,.t 89]),
 qF 91 2 3,
 ql 92 91,
 sO 93 (.idx 3 (.t 92) (.c (.int .i64 0))),
 qL 94 3 93,
 qM 95 1,
 qM 96 2,
 sO 97 (.call false 24 [.t 94,.t 95,.t 96]),
 qL 98 3 3,
 sO 99 (.bslice 24 3 false [.int .i64 0,.int .i64 0,.nilsl] 2 [(0,.t 97),(1,.t 98)]),
 sO 100 (.call false 38 [.c (.int .i64 6),.t 99]),
 sO 101 (.bslice 24 3 false [.int .i64 0,.int .i64 0,.nilsl] 2 [(0,.t 90),(1,.t 100)]),
 sO 102 (.call false 38 [.c (.int .i64 5),.t 101]),
 sN (.store 3 (.t 6) (.t 102))]
def r24_20:List SO:=[
 qF 113 2 8,
 ql 114 113,
 qL 115 3 10,
 qM 116 1,
 qM 117 2,
 sO 118 (.call false 24 [.t 115,.t 116,.t 117]),
 sO 119 (.bslice 24 3 false [.int .i64 0,.int .i64 0,.nilsl] 1 [(0,.t 118)]),
 sO 120 (.append 24 3 40 (.t 114) (.t 119)),
 qF 121 2 8,
 sN (.store 1 (.t 121) (.t 120))]
def b24_0:SC:=.seq (.reg [qP 110 .lss 109 108]) (.seq (.cond (.t 110) (.skip) (.exit 1)) (.seq (.block 2 (.seq (.reg [qA 111 3 107 109,qL 112 3 111,sO 10 (.alloc 24 [.int .i64 0,.int .i64 0,.nilsl]),sN (.store 3 (.t 10) (.t 112))]) (.reg r24_20))) (.reg [qC 122 .add 109 1,qM 109 122])))
def s24:SF:=⟨124,[.cell 6 true 3],.seq (.reg [sO 3 (.box 24 3 (.t 0)),sO 6 (.alloc 24 [.int .i64 0,.int .i64 0,.nilsl])]) (.seq (.seq (.reg [qF 11 0 3,ql 12 11]) (.block 0 (.seq (.reg [qC 14 .eql 12 2,qM 13 14]) (.cond (.t 13) (.seq (.reg [qF 15 1 3,ql 16 15,qM 17 1,qP 18 .eql 16 17,sO 19 (.call false 37 [.t 18]),sN (.store 3 (.t 6) (.t 19))]) (.ret)) (.seq (.reg [qC 21 .eql 12 3,qM 20 21]) (.cond (.t 20) (.seq (.reg [qF 22 1 3,ql 23 22,qM 24 2,qP 25 .eql 23 24,sO 26 (.call false 37 [.t 25]),sN (.store 3 (.t 6) (.t 26))]) (.ret)) (.seq (.reg [qC 28 .eql 12 4,qM 27 28]) (.cond (.t 27) (.seq (.reg [qF 29 2 3,ql 30 29,sO 31 (.idx 3 (.t 30) (.c (.int .i64 0))),qL 32 3 31,sO 7 (.alloc 24 [.int .i64 0,.int .i64 0,.nilsl]),sN (.store 3 (.t 7) (.t 32))]) (.seq (.reg r24_8) (.ret))) (.seq (.seq (.reg [qC 55 .eql 12 7,qM 54 55]) (.cond (.t 54) (.skip) (.reg [qC 56 .eql 12 9,qM 54 56]))) (.cond (.t 54) (.seq (.reg [qF 57 2 3,ql 58 57,sO 59 (.idx 3 (.t 58) (.c (.int .i64 0))),qL 60 3 59,sN (.store 3 (.t 6) (.t 60))]) (.ret)) (.seq (.reg [qC 62 .eql 12 8,qM 61 62]) (.cond (.t 61) (.seq (.reg r24_13) (.ret)) (.seq (.reg [qC 83 .eql 12 10,qM 82 83]) (.cond (.t 82) (.seq (.reg r24_15) (.ret)) (.skip))))))))))))))) (.seq (.reg [qF 103 0 3,ql 104 103,sO 105 (.build [.int .i64 0,.int .i64 0,.nilsl] [(0,1,.t 104)]),sO 8 (.alloc 24 [.int .i64 0,.int .i64 0,.nilsl]),sN (.store 3 (.t 8) (.t 105))]) (.seq (.seq (.reg [qF 106 2 3,ql 107 106,qN 108 107,qI 109 0]) (.block 1 (.loop b24_0))) (.seq (.reg [qL 123 3 8,sN (.store 3 (.t 6) (.t 123))]) (.ret)))))⟩
theorem s24_ok:slimF Tryd.prog ⟨[32,48,55,93,94,95,100],[],[],[]⟩ Tryd.f24=some s24:=by kernel_rfl
def s37:SF:=⟨6,[.cell 2 true 3],.seq (.reg [sO 2 (.alloc 24 [.int .i64 0,.int .i64 0,.nilsl])]) (.seq (.seq (.reg [qM 3 0]) (.cond (.t 3) (.seq (.reg [sO 4 (.call false 47 []),sN (.store 3 (.t 2) (.t 4))]) (.ret)) (.skip))) (.seq (.reg [sO 5 (.call false 46 []),sN (.store 3 (.t 2) (.t 5))]) (.ret)))⟩
theorem s37_ok:slimF Tryd.prog ⟨[32,48,55,93,94,95,100],[],[],[]⟩ Tryd.f37=some s37:=by kernel_rfl
theorem truth_pure (b:Bool):PureC Tryd.prog 37 [(V.bool b)] (V.agg [(iV ((trF b).op)),(iV ((trF b).arg)),(V.sl (List.map cF ((trF b).kids)))]):=by
 refine pW Tryd.func37 s37_ok fun hB=>?_
 unfold s37
 dsimp only
 refine W_r (R_alloc (i:=2) (n:=0) (m:=3) rfl (congrArg Blk.ver rfl) rfl (R_e (W_seq_seq (W_r (R_mv rfl (R_e ?_))))))
 refine W_seq_ifb rfl (fun c1=>?_) (fun c1=>?_)
 ·
  refine W_seq_seq (W_r (R_callk (myes_pure) rfl (R_sk rfl rfl rfl rfl rfl rfl rfl rfl rfl (R_e (W_seq_ret ?_)))))
  refine RetC_1 (resV_c (u:=(V.agg [(iV (1:Int)),(iV (0:Int)),(V.sl (List.map cF ([])))])) rfl (@rfl Blk (bk 1 24 3 [[(iV (1:Int)),(iV (0:Int)),(V.sl (List.map cF ([])))]])) (lB oB rfl rfl)) (fz_agg3 (fz_int ?_) (fz_int ?_) (fz_sl ?_ (fun _=>by simp)))
  · cases b <;> first|rfl|(simp_all; done)
  · cases b <;> first|rfl|(simp_all; done)
  · cases b <;> first|rfl|(simp_all; done)
 refine W_seq_skip (W_r (R_callk (mno_pure) rfl (R_sk rfl rfl rfl rfl rfl rfl rfl rfl rfl (R_e (W_ret ?_)))))
 refine RetC_1 (resV_c (u:=(V.agg [(iV (4:Int)),(iV (0:Int)),(V.sl (List.map cF ([Fm.nd 1 0 []])))])) rfl (@rfl Blk (bk 1 24 3 [[(iV (4:Int)),(iV (0:Int)),(V.sl (List.map cF ([Fm.nd 1 0 []])))]])) (lB oB rfl rfl)) (fz_agg3 (fz_int ?_) (fz_int ?_) (fz_sl ?_ (fun _=>by simp)))
 · cases b <;> first|rfl|(simp_all; done)
 · cases b <;> first|rfl|(simp_all; done)
 · cases b <;> first|rfl|(simp_all; done)
end Go.Proofs.YteehaobohaecmaaDoor
