/- Contracts of the functions that the law VN reaches, and the law itself, for every input; no condition. -/
import Derived.KernelRfl
import Derived.Test.YteehaobohaecmaaGreatDoorProg
import Derived.Sort.Statements
import Derived.Lib.Bytealg
import Derived.Test.YteehaobohaecmaaGreatDoorLay3
set_option linter.unusedSimpArgs false
set_option linter.unusedVariables false
namespace Go.Proofs.YteehaobohaecmaaGreatDoor
open Go
def fe (e:Nat→Int) (k:Nat):Nat→Int
  |0=>0
  |n+1=>if e k=0 then fe e (k+1) n else e k
theorem fe_hit {e:Nat→Int} {k N:Nat} (h:e k≠0) (hk:k < N):fe e k (N - k)=e k:=by
  obtain ⟨n,hn⟩: ∃ n,N - k=n+1:=⟨N - k - 1,by omega⟩
  rw [hn]; simp [fe,h]
theorem fe_skip {e:Nat→Int} {k N:Nat} (h:e k=0) (hk:k < N):fe e k (N - k)=fe e (k+1) (N - (k+1)):=by
  obtain ⟨n,hn⟩: ∃ n,N - k=n+1:=⟨N - k - 1,by omega⟩
  rw [hn,show N - (k+1)=n by omega]; simp [fe,h]
theorem fe_end {e:Nat→Int} {k N:Nat} (hk:N≤k):fe e k (N - k)=0:=by
  rw [show N - k=0 by omega]; rfl
theorem fe_zero_iff {e : Nat → Int} : ∀ {n k : Nat}, fe e k n = 0 ↔ ∀ j, k ≤ j → j < k + n → e j = 0 := by
  intro n
  induction n with
  |zero=>intro k; simp only [fe,true_iff]; intro j h1 h2; omega
  | succ n ih =>
    intro k
    simp only [fe]
    split
    · rename_i h
      rw [ih]
      constructor
      · intro hh j h1 h2
        by_cases hj:j=k
        · subst hj; exact h
        · exact hh j (by omega) (by omega)
      · intro hh j h1 h2; exact hh j (by omega) (by omega)
    · rename_i h
      constructor
      · intro hh; exact (h hh).elim
      · intro hh; exact hh k (Nat.le_refl _) (by omega)
def fi (p:Nat→Bool) (k:Nat):Nat→Int
  |0=> -1
  |n+1=>if p k then k else fi p (k+1) n
theorem fi_hit {p:Nat→Bool} {k N:Nat} (h:p k=true) (hk:k < N):fi p k (N - k)=k:=by
  obtain ⟨n,hn⟩: ∃ n,N - k=n+1:=⟨N - k - 1,by omega⟩
  rw [hn]; simp [fi,h]
theorem fi_skip {p:Nat→Bool} {k N:Nat} (h:p k=false) (hk:k < N):fi p k (N - k)=fi p (k+1) (N - (k+1)):=by
  obtain ⟨n,hn⟩: ∃ n,N - k=n+1:=⟨N - k - 1,by omega⟩
  rw [hn,show N - (k+1)=n by omega]; simp [fi,h]
theorem fi_end {p:Nat→Bool} {k N:Nat} (hk:N≤k):fi p k (N - k)= -1:=by
  rw [show N - k=0 by omega]; rfl
theorem fi_fe (p:Nat→Bool) (c:Int) (hc:c≠0): ∀ n k,decide (0≤fi p k n)=decide (fe (fun j=>if p j then c else 0) k n=c)∧(fe (fun j=>if p j then c else 0) k n=0∨fe (fun j=>if p j then c else 0) k n=c):=by
  intro n
  induction n with
  |zero=>intro k; simp [fi,fe,Ne.symm hc]
  | succ n ih =>
    intro k
    simp only [fi,fe]
    by_cases h:p k=true
    · simp [h,hc]
    · simp only [h,if_false,if_true]
      simpa using ih (k+1)
theorem take_succ_nth {α:Type} [Inhabited α] {l:List α} {k:Nat} (h:k < l.length):l.take (k+1)=l.take k++[nth l k]:=by
  rw [← nth_getElem h,List.take_succ_eq_append_getElem h]
def wE (w:List Int) (n:Int) (k:Nat):Int:=if nth w k < 0∨n≤nth w k then 1 else 0
def wchk (w:List Int) (n:Int):Int:=
  if n < 1∨1024 < n then 2 else if 1024 < w.length then 3 else fe (wE w n) 0 w.length
structure M where
  i:Int
  s:Int
  nx:List (List Int)
  ot:List (List Int)
abbrev mC (m:M):List V:=[iV m.i,iV m.s,intss m.nx,intss m.ot]
def cell (l:List (List Int)) (s a:Int):Int:=nth (nth l s.toNat) a.toNat
def celE (m:M) (s a:Nat):Int:=if nth (nth m.nx s) a < 0∨m.nx.length≤nth (nth m.nx s) a∨nth (nth m.ot s) a < 0∨1048576 < nth (nth m.ot s) a then 2 else 0
def rowE (m:M) (s:Nat):Int:=
  if ((nth m.nx s).length:Int)≠m.i∨((nth m.ot s).length:Int)≠m.i then 1
  else fe (celE m s) 0 m.i.toNat
def mval (m:M):Int:=
  if m.i < 1∨64 < m.i then 2 else if m.nx.length=0 then 19 else if 128 < m.nx.length then 11 else if m.s < 0∨m.nx.length≤m.s then 2
  else if m.ot.length≠m.nx.length then 1 else fe (rowE m) 0 m.nx.length
def outs (m:M):Int→List Int→List Int
  |_,[]=>[]
  |s,a::w=>cell m.ot s a::outs m (cell m.nx s a) w
def goal (m:M):Int→List Int→Int
  |s,[]=>s
  |s,a::w=>goal m (cell m.nx s a) w
theorem outs_len (m:M): ∀ (w:List Int) (s:Int),(outs m s w).length=w.length
  |[],_=>rfl
  |a::w,s=>by simp [outs,outs_len m w]
theorem outs_append (m:M): ∀ (u v:List Int) (s:Int),outs m s (u++v)=outs m s u++outs m (goal m s u) v
  |[],_,_=>rfl
  |a::u,v,s=>by simp [outs,goal,outs_append m u v]
theorem goal_append (m:M): ∀ (u v:List Int) (s:Int),goal m s (u++v)=goal m (goal m s u) v
  |[],_,_=>rfl
  |a::u,v,s=>by simp [goal,goal_append m u v]
theorem outs_step (m:M) (s:Int) {w:List Int} {k:Nat} (h:k < w.length):outs m s (w.take (k+1))=outs m s (w.take k)++[cell m.ot (goal m s (w.take k)) (nth w k)]:=by
  rw [take_succ_nth h,outs_append]; rfl
theorem goal_step (m:M) (s:Int) {w:List Int} {k:Nat} (h:k < w.length):goal m s (w.take (k+1))=cell m.nx (goal m s (w.take k)) (nth w k):=by
  rw [take_succ_nth h,goal_append]; rfl
theorem mval_ok {m:M} (h:mval m=0):1≤m.i∧m.i≤64∧0 < m.nx.length∧m.nx.length≤128∧0≤m.s∧m.s < m.nx.length∧m.ot.length=m.nx.length∧
    (∀ s,s < m.nx.length→((nth m.nx s).length:Int)=m.i∧((nth m.ot s).length:Int)=m.i∧ ∀ a:Nat,a < m.i→0≤nth (nth m.nx s) a∧nth (nth m.nx s) a < m.nx.length∧0≤nth (nth m.ot s) a∧nth (nth m.ot s) a≤1048576):=by
  unfold mval at h
  split at h; · cases h
  rename_i h1
  split at h; · cases h
  rename_i h2
  split at h; · cases h
  rename_i h3
  split at h; · cases h
  rename_i h4
  split at h; · cases h
  rename_i h5
  refine ⟨by omega,by omega,by omega,by omega,by omega,by omega,by omega,fun s hs=>?_⟩
  have h6:=fe_zero_iff.1 h s (Nat.zero_le _) (by omega)
  unfold rowE at h6
  split at h6; · cases h6
  rename_i h7
  refine ⟨by omega,by omega,fun a ha=>?_⟩
  have h8:=fe_zero_iff.1 h6 a (Nat.zero_le _) (by omega)
  unfold celE at h8
  split at h8
  · cases h8
  · omega
theorem wchk_ok {w:List Int} {n:Int} (h:wchk w n=0):w.length≤1024∧ ∀ k,k < w.length→0≤nth w k∧nth w k < n:=by
  unfold wchk at h
  split at h; · cases h
  split at h; · cases h
  refine ⟨by omega,fun k hk=>?_⟩
  have:=fe_zero_iff.1 h k (Nat.zero_le _) (by omega)
  unfold wE at this
  split at this
  · cases this
  · omega
theorem goal_in {m:M} (h:mval m=0): ∀ (w:List Int) (s:Int),0≤s→s < m.nx.length→(∀ k,k < w.length→0≤nth w k∧nth w k < m.i)→0≤goal m s w∧goal m s w < m.nx.length
  |[],s,h0,h1,_=>⟨h0,h1⟩
  | a :: w, s, h0, h1, hw => by
    have ha:0≤a∧a < m.i:=by simpa [nth] using hw 0 (by simp)
    have hc:=(mval_ok h).2.2.2.2.2.2.2 s.toNat (by omega)
    have hr:=hc.2.2 a.toNat (by omega)
    refine goal_in h w (cell m.nx s a) ?_ ?_ fun k hk=>by simpa [nth] using hw (k+1) (by simp; omega)
    · exact hr.1
    · exact hr.2.1
theorem goal_take {m:M} (h:mval m=0) {w:List Int} {s:Int} (h0:0≤s) (h1:s < m.nx.length) (hw: ∀ k,k < w.length→0≤nth w k∧nth w k < m.i) (k:Nat):0≤goal m s (w.take k)∧goal m s (w.take k) < m.nx.length:=by
  refine goal_in h _ s h0 h1 fun j hj=>?_
  have:nth (w.take k) j=nth w j:=by
    simp only [List.length_take] at hj
    rw [← nth_getElem (by simp; omega),← nth_getElem (by omega),List.getElem_take]
  rw [this]; exact hw j (by simp at hj; omega)
def stE (m:M) (s:Int):Int:=if mval m≠0 then mval m else if s < 0∨(m.nx.length:Int)≤s then 2 else 0
def inE (w:List Int) (n:Int) (k:Nat):Bool:=decide (nth w k < 0∨n≤nth w k)
theorem wE_in (w:List Int) (n:Int):wE w n=fun j=>if inE w n j then 1 else 0:=by
  funext j; simp [wE,inE]
theorem in_fe (w:List Int) (n:Int) (c k:Nat):(0≤fi (inE w n) k c↔fe (wE w n) k c=1)∧(fe (wE w n) k c=0∨fe (wE w n) k c=1):=by
  rw [wE_in]
  have h:=fi_fe (inE w n) 1 (by decide) c k
  exact ⟨by simpa using decide_eq_decide.1 h.1,h.2⟩
theorem stE_ok {m:M} {s:Int} (h:stE m s=0):mval m=0∧0≤s∧s < m.nx.length:=by
  unfold stE at h
  split at h
  · contradiction
  · split at h
    · cases h
    · omega
def frE (m:M) (s:Int) (w:List Int):Int:=if stE m s≠0 then stE m s else wchk w m.i
def frOut (m:M) (s:Int) (w:List Int):List Int:=if frE m s w≠0 then [] else outs m s w
def frEnd (m:M) (s:Int) (w:List Int):Int:=if frE m s w≠0 then 0 else goal m s w
theorem run_at {m:M} (hm:mval m=0) {s:Int} (hs:0≤s∧s < m.nx.length) {w:List Int} (hw: ∀ k,k < w.length→0≤nth w k∧nth w k < m.i) {k:Nat} (hk:k < w.length):
    (0≤goal m s (w.take k)∧goal m s (w.take k) < m.nx.length∧m.ot.length=m.nx.length)∧0≤nth w k∧nth w k < (nth m.nx (goal m s (w.take k)).toNat).length∧nth w k < (nth m.ot (goal m s (w.take k)).toNat).length:=by
  have h1:=goal_take hm hs.1 hs.2 hw k
  have h2:=mval_ok hm
  have h3:=h2.2.2.2.2.2.2.2 (goal m s (w.take k)).toNat (by omega)
  have h4:=hw k hk
  omega
structure Hy where
  m:M
  acc:List (List Int)
abbrev hC (h:Hy):List V:=[iV h.m.i,iV h.m.s,intss h.m.nx,intss h.m.ot,intss h.acc]
abbrev hV (h:Hy):V:=.agg (hC h)
abbrev hB (h:Hy):Blk:=⟨1,true,false,26,5,[hC h]⟩
def accE (h:Hy) (s:Nat):Int:=
  if wchk (nth h.acc s) h.m.i≠0 then wchk (nth h.acc s) h.m.i else if goal h.m h.m.s (nth h.acc s)≠s then 15 else 0
def hval (h:Hy):Int:=
  if mval h.m≠0 then mval h.m else if h.acc.length≠h.m.nx.length then 1
  else if fe (accE h) 0 h.acc.length≠0 then fe (accE h) 0 h.acc.length else if (nth h.acc h.m.s.toNat).length≠0 then 10 else 0
end Go.Proofs.YteehaobohaecmaaGreatDoor
namespace Go.Proofs.YteehaobohaecmaaGreatDoor
open Go
def cmn:List Int→List Int→Nat
  |a::l,b::m=>if a=b then cmn l m+1 else 0
  |_,_=>0
theorem nth_zero {α:Type} [Inhabited α] (a:α) (l:List α):nth (a::l) 0=a:=rfl
theorem nth_succ {α:Type} [Inhabited α] (a:α) (l:List α) (k:Nat):nth (a::l) (k+1)=nth l k:=rfl
theorem cmn_spec: ∀ (a b:List Int),cmn a b≤a.length∧cmn a b≤b.length∧(∀ j,j < cmn a b→nth a j=nth b j)∧(cmn a b < a.length→cmn a b < b.length→nth a (cmn a b)≠nth b (cmn a b))
  |[],b=>by simp [cmn]
  |a::l,[]=>by simp [cmn]
  | a :: l, b :: m => by
    obtain ⟨h1,h2,h3,h4⟩:=cmn_spec l m
    by_cases e:a=b
    · subst e
      simp only [cmn,if_true,List.length_cons]
      refine ⟨by omega,by omega,fun j hj=>?_,fun g1 g2=>by simpa [nth_succ] using h4 (by omega) (by omega)⟩
      cases j with
      |zero=>rfl
      |succ j=>simpa [nth_succ] using h3 j (by omega)
    · simp only [cmn,if_neg e,List.length_cons]
      exact ⟨by omega,by omega,fun j hj=>by omega,fun _ _=>e⟩
theorem cmn_next {a b:List Int} {k:Nat} (hc:k≤cmn a b) (ha:k < a.length) (hb:k < b.length) (e:nth a k=nth b k):k+1≤cmn a b:=by
  obtain ⟨h1,h2,h3,h4⟩:=cmn_spec a b
  by_cases h:k=cmn a b
  · subst h; exact (h4 ha hb e).elim
  · omega
theorem cmn_at {a b:List Int} {k:Nat} (hc:k≤cmn a b) (h:a.length≤k∨b.length≤k∨nth a k≠nth b k):cmn a b=k:=by
  obtain ⟨h1,h2,h3,h4⟩:=cmn_spec a b
  by_cases e:k=cmn a b
  · exact e.symm
  · have h5:=h3 k (by omega)
    rcases h with h|h|h
    · omega
    · omega
    · exact (h h5).elim
theorem cmn_comm (a b:List Int):cmn a b=cmn b a:=by
  obtain ⟨h1,h2,h3,h4⟩:=cmn_spec b a
  refine cmn_at ?_ ?_
  · have: ∀ k,k≤cmn b a→k≤cmn a b:=by
      intro k
      induction k with
      |zero=>intro _; exact Nat.zero_le _
      |succ k ih=>intro h; exact cmn_next (ih (by omega)) (by omega) (by omega) (h3 k (by omega)).symm
    exact this _ (Nat.le_refl _)
  · by_cases g1:a.length≤cmn b a
    · exact .inl g1
    · by_cases g2:b.length≤cmn b a
      · exact .inr (.inl g2)
      · exact .inr (.inr fun e=>h4 (by omega) (by omega) e.symm)
theorem nth_take {α:Type} [Inhabited α] {l:List α} {n j:Nat} (h:j < n):nth (l.take n) j=nth l j:=by
  simp only [nth,List.getD_eq_getElem?_getD,List.getElem?_take,if_pos h]
theorem nth_dropn {α:Type} [Inhabited α] {l:List α} {n j:Nat}:nth (l.drop n) j=nth l (n+j):=by
  simp only [nth,List.getD_eq_getElem?_getD,List.getElem?_drop]
theorem nth_app_r {α:Type} [Inhabited α] {l m:List α} {j:Nat}:nth (l++m) (l.length+j)=nth m j:=by
  simp only [nth,List.getD_eq_getElem?_getD,List.getElem?_append_right (Nat.le_add_right _ _),Nat.add_sub_cancel_left]
theorem nth_map {α β:Type} [Inhabited α] [Inhabited β] {f:α→β} {l:List α} {j:Nat} (h:j < l.length):nth (l.map f) j=f (nth l j):=by
  rw [← nth_getElem (by simpa using h),← nth_getElem h,List.getElem_map]
theorem nth_mem {α:Type} [Inhabited α] {l:List α} {j:Nat} (h:j < l.length):nth l j∈l:=by
  rw [← nth_getElem h]; exact List.getElem_mem h
theorem mem_nth {α:Type} [Inhabited α] {l:List α} {x:α} (h:x∈l): ∃ j,j < l.length∧nth l j=x:=by
  obtain ⟨j,hj,e⟩:=List.getElem_of_mem h
  exact ⟨j,hj,by rw [← nth_getElem hj]; exact e⟩
theorem nth_ext {α:Type} [Inhabited α] {l m:List α} (h1:l.length=m.length) (h2: ∀ j,j < l.length→nth l j=nth m j):l=m:=by
  refine List.ext_getElem h1 fun j g1 g2=>?_
  rw [nth_getElem g1,nth_getElem g2]; exact h2 j g1
def lexI (a b:List Int):Int:=
  if cmn a b=a.length∧cmn a b=b.length then 0
  else if cmn a b=a.length∨(cmn a b < b.length∧nth a (cmn a b) < nth b (cmn a b)) then -1 else 1
def slx (a b:List Int):Int:=if a.length < b.length then -1 else if b.length < a.length then 1 else lexI a b
def cmpI (x y:Int):Int:=if x < y then -1 else if y < x then 1 else 0
def orI:List Int→Int
  |[]=>0
  |x::l=>if x=0 then orI l else x
theorem orI_drop {l:List Int} {k:Nat} (h:k < l.length):orI (l.drop k)=if nth l k=0 then orI (l.drop (k+1)) else nth l k:=by
  rw [nth_drop h]; rfl
structure Tr where
  ni:List Int
  no:List Int
  deriving Inhabited
abbrev cT (t:Tr):List V:=[ints t.ni,ints t.no]
@[simp] theorem canonLL_trs (l:List Tr):canonLL (l.map cT)=true:=canonLL_map _ _ fun a=>by simp [cT]
structure Ob where
  i:Int
  tr:List Tr
  deriving Inhabited
def hp (w p:List Int):Bool:=decide (cmn w p=p.length)
def dfE (a b:Tr) (k:Nat):Bool:=decide (nth a.no k≠nth b.no k)
def df (a b:Tr):Int:=fi (dfE a b) 0 (cmn a.ni b.ni)
structure Proper (t:Tr) (n:Int):Prop where
  len:t.no.length=t.ni.length
  lel:t.ni.length≤1024
  sym: ∀ k,k < t.ni.length→0≤nth t.ni k∧nth t.ni k < n
  out: ∀ k,k < t.no.length→0≤nth t.no k∧nth t.no k≤1048576
theorem fi_iff {p : Nat → Bool} : ∀ {n k : Nat}, 0 ≤ fi p k n ↔ ∃ j, k ≤ j ∧ j < k + n ∧ p j = true
  |0,k=>by simp [fi]; omega
  | n + 1, k => by
    simp only [fi]
    split
    · rename_i h
      constructor
      · intro _; exact ⟨k,by omega,by omega,h⟩
      · intro _; omega
    · rename_i h
      rw [fi_iff]
      constructor
      · rintro ⟨j,h1,h2,h3⟩; exact ⟨j,by omega,by omega,h3⟩
      · rintro ⟨j,h1,h2,h3⟩
        by_cases e:j=k
        · subst e; exact (h h3).elim
        · exact ⟨j,by omega,by omega,h3⟩
theorem df_iff {a b:Tr}:0≤df a b↔ ∃ j,j < cmn a.ni b.ni∧nth a.no j≠nth b.no j:=by
  unfold df
  rw [fi_iff]
  constructor
  · rintro ⟨j,_,h2,h3⟩; exact ⟨j,by omega,by simpa [dfE] using h3⟩
  · rintro ⟨j,h2,h3⟩; exact ⟨j,by omega,by omega,by simpa [dfE] using h3⟩
structure OK (o:Ob):Prop where
  hi:1≤o.i∧o.i≤64
  len:o.tr.length≤10000
  pr: ∀ k,k < o.tr.length→Proper (nth o.tr k) o.i∧0 < (nth o.tr k).ni.length
  ord: ∀ k,k+1 < o.tr.length→slx (nth o.tr k).ni (nth o.tr (k+1)).ni < 0
  pre: ∀ i k,i < k→k < o.tr.length→hp (nth o.tr k).ni (nth o.tr i).ni=false
  cla: ∀ i k,i < k→k < o.tr.length→df (nth o.tr i) (nth o.tr k) < 0
def lngE (o:Ob) (k:Nat):Int:=if 100 < (nth o.tr k).ni.length∨100 < (nth o.tr k).no.length then 1 else 0
def ogr (o:Ob):Prop:=60 < o.tr.length∨fe (lngE o) 0 o.tr.length≠0
instance (o:Ob):Decidable (ogr o):=inferInstanceAs (Decidable (_∨_))
def cat:List (List Int)→List Int
  |[]=>[]
  |w::l=>w++cat l
theorem cat_append: ∀ (l m:List (List Int)),cat (l++m)=cat l++cat m
  |[],_=>rfl
  |w::l,m=>by simp [cat,cat_append l m]
theorem cat_take {l:List (List Int)} {k:Nat} (h:k < l.length):cat (l.take (k+1))=cat (l.take k)++nth l k:=by
  rw [take_succ_nth h,cat_append]; simp [cat]
theorem cat_take_le {l:List (List Int)} {k:Nat} (h:k < l.length):(cat (l.take k)).length+(nth l k).length≤(cat l).length:=by
  have e:cat l=cat (l.take (k+1))++cat (l.drop (k+1)):=by rw [← cat_append,List.take_append_drop]
  rw [e,cat_take h]; simp
def difn (a b:List Int):Nat:=if cmn a b < min a.length b.length then cmn a b else 0
end Go.Proofs.YteehaobohaecmaaGreatDoor
namespace Go.Proofs.YteehaobohaecmaaGreatDoor
open Go
section
variable {P:Program} {T:Nat→V} {H:Heap}
theorem resV_t {t:Nat} {u:V} (h:T t=u):resV T H (.tmp t)=some u:=by rw [← h]; rfl
theorem resV_c {t m id ver row off:Nat} {g:Bool} {u:V} {B:Blk} (ha:T t=.mp id ver row off) (hH:H id=B) (hl:ldB g m B ver row off=some u):resV T H (.cell t g m)=some u:=by
  subst hH
  simp only [resV,ha,ptr]
  unfold ldB at hl
  split at hl
  · rename_i hc
    rw [if_pos (show ok H id ver=true from hc)]
    cases hr:(H id).rows[row]? with
    |none=>rw [hr] at hl; cases hl
    |some w=>rw [hr] at hl; exact hl
  · cases hl
theorem RetC_1 {s1:SRes} {u v:V} {n:Nat} (h1:resV T H s1=some u) (h2:fzv true H n u=v):Ret [s1] (fun u G=>fzv true G n u=v) .ret T H:=by
  simp only [Ret,resT,mapO,h1,onS_some]; exact h2
theorem RetC_2 {s1 s2:SRes} {u1 u2 v1 v2:V} {n:Nat} (h1:resV T H s1=some u1) (h2:resV T H s2=some u2) (g1:fzv true H n u1=v1) (g2:fzv true H n u2=v2):Ret [s1,s2] (fun u G=>fzv true G (n+1) u=.tup [v1,v2]) .ret T H:=by
  simp only [Ret,resT,mapO,h1,h2,onS_some,fzv,List.map_cons,List.map_nil,g1,g2]
theorem RetC_3 {s1 s2 s3:SRes} {u1 u2 u3 v1 v2 v3:V} {n:Nat} (h1:resV T H s1=some u1) (h2:resV T H s2=some u2) (h3:resV T H s3=some u3) (g1:fzv true H n u1=v1) (g2:fzv true H n u2=v2) (g3:fzv true H n u3=v3):Ret [s1,s2,s3] (fun u G=>fzv true G (n+1) u=.tup [v1,v2,v3]) .ret T H:=by
  simp only [Ret,resT,mapO,h1,h2,h3,onS_some,fzv,List.map_cons,List.map_nil,g1,g2,g3]
theorem fz_aggL {n:Nat} {l m:List V} (h:l.map (fzv true H n)=m):fzv true H (n+1) (.agg l)=.agg m:=by subst h; rfl
theorem fz_agg2 {n:Nat} {u1 u2 v1 v2:V} (g1:fzv true H n u1=v1) (g2:fzv true H n u2=v2):fzv true H (n+1) (.agg [u1,u2])=.agg [v1,v2]:=by
  simp only [fzv,List.map_cons,List.map_nil,g1,g2]
theorem fz_agg3 {n:Nat} {u1 u2 u3 v1 v2 v3:V} (g1:fzv true H n u1=v1) (g2:fzv true H n u2=v2) (g3:fzv true H n u3=v3):fzv true H (n+1) (.agg [u1,u2,u3])=.agg [v1,v2,v3]:=by
  simp only [fzv,List.map_cons,List.map_nil,g1,g2,g3]
end
end Go.Proofs.YteehaobohaecmaaGreatDoor
namespace Go.Proofs.YteehaobohaecmaaGreatDoor
open Go
def FinB (b b':Blk):Prop:=b.ver≤b'.ver∧(b'.live=false∨b'={b with ver:=b'.ver})
def FinH (H H':Heap):Prop:= ∀ j,FinB (H j) (H' j)
def FinX (S:List Nat) (H H':Heap):Prop:= ∀ j,j∉S→FinB (H j) (H' j)
theorem FinB.refl (b:Blk):FinB b b:=⟨Nat.le_refl _,.inr rfl⟩
theorem FinX.start {S:List Nat} {H Hi:Heap} (h: ∀ j,j∉S→H j=Hi j):FinX S H Hi:=fun j hj=>by rw [h j hj]; exact .refl _
theorem FinX.put {S:List Nat} {H H':Heap} {i:Nat} {b B:Blk} (h:FinX (i::S) H H') (hi:H i=b) (hB:FinB b B):FinX S H (upd H' i B):=fun j hj=>by
  by_cases e:j=i
  · subst e; rw [upd_same,hi]; exact hB
  · rw [upd_ne _ _ e]; exact h j (by simp [e,hj])
theorem FinX.putv {S:List Nat} {H H':Heap} {i n:Nat} {B:Blk} (h:FinX (i::S) H H') (hi:(H i).ver=n) (hn:n≤B.ver) (hd:B.live=false):FinX S H (upd H' i B):=h.put rfl ⟨by omega,.inl hd⟩
theorem FinX.fin {H H':Heap} (h:FinX [] H H'):FinH H H':=fun j=>h j (by simp)
theorem FinB.eq {b B:Blk} (h:b=B):FinB b B:=h ▸ .refl _
theorem FinB.gone {b B:Blk} (h:b.ver≤B.ver) (hd:B.live=false):FinB b B:=⟨h,.inl hd⟩
theorem FinB.own {b b':Blk} (h:FinB b b') (ho:b'.own=true):b'={b with ver:=b'.ver}∧b.own=true:=by
  rcases h.2 with h1|h1
  · have:=own_live ho; rw [h1] at this; cases this
  · refine ⟨h1,?_⟩
    rw [h1] at ho; exact ho
def finC (x:Cx) (H':Heap):Cx:={x with Z:=fun b=>x.Z b∨ ∃ j,(x.H j).own=true∧(H' j).live=false∧b=x.σ j,H:=H'}
theorem fin_step {x : Cx} (hx : Inv x) {H' : Heap} (h : FinH x.H H') : Inv (finC x H') ∧ Frame x (finC x H') := by
  generalize hy:finC x H'=y
  have ew:y.w=x.w:=by rw [← hy]; rfl
  have eh:y.H=H':=by rw [← hy]; rfl
  have es:y.σ=x.σ:=by rw [← hy]; rfl
  have ez: ∀ b,y.Z b↔x.Z b∨ ∃ j,(x.H j).own=true∧(H' j).live=false∧b=x.σ j:=fun b=>by rw [← hy]; exact Iff.rfl
  have hf:Frame x y:=by
    refine ⟨by rw [ew],by rw [ew],by rw [ew],by rw [ew]; exact Nat.le_refl _,fun _ _ _=>by rw [ew],fun b h=>(ez b).2 (.inl h),fun b hb=>?_,fun i=>?_,fun i ho=>?_,by rw [ew]; exact Nat.le_refl _,fun i hl hv=>by
      have e:H' i=x.H i:=by
        rw [eh] at hl hv
        rcases (h i).2 with h1|h1
        · rw [h1] at hl; cases hl
        · rw [h1]; show ({x.H i with ver:=(H' i).ver}:Blk)=x.H i; rw [hv]
      rw [eh,e]⟩
    · rcases (ez b).1 hb with h1|⟨j,h1,_,h3⟩
      · exact .inl h1
      · exact .inr (.inr ⟨j,h1,h3.symm⟩)
    rotate_left
    · rw [eh] at ho; rw [es]; exact .inl ⟨((h i).own ho).2,rfl⟩
    rw [eh,es,ew]
    refine ⟨(h i).1,fun hl hv=>?_⟩
    have e:H' i=x.H i:=by
      rcases (h i).2 with h1|h1
      · have:(H' i).live=true:=hl
        rw [h1] at this; cases this
      · rw [h1]; show ({x.H i with ver:=(H' i).ver}:Blk)=x.H i; rw [show (H' i).ver=(x.H i).ver from hv]
    simp only [e]
    have hl':(x.H i).live=true:=by rw [← e]; exact hl
    exact ⟨hl',trivial,trivial,fun _=>trivial,fun _=>⟨trivial,trivial⟩⟩
  refine ⟨⟨fun b hb=>?_,fun b i hb ho=>?_,fun i ho=>?_,fun i j hi hj he=>?_,hx.tab_of hf⟩,hf⟩
  · rw [ew]
    rcases (ez b).1 hb with h1|⟨j,h1,_,h3⟩
    · exact hx.zlt b h1
    · rw [h3]; exact hx.lt h1
  · rw [eh] at ho; rw [es]
    have ho':=((h i).own ho).2
    rcases (ez b).1 hb with h1|⟨j,h1,h2,h3⟩
    · exact hx.zown b i h1 ho'
    · intro q
      have:=hx.inj i j ho' h1 (q.trans h3)
      subst this
      have:=own_live ho; rw [h2] at this; cases this
  rotate_left
  · rw [eh] at hi hj; rw [es] at he
    exact hx.inj i j ((h i).own hi).2 ((h j).own hj).2 he
  rw [eh] at ho
  obtain ⟨e,ho'⟩:=(h i).own ho
  obtain ⟨dd,h1,h2,h3,h4⟩:=hx.blk i ho'
  have e1:(y.H i).rows=(x.H i).rows:=by rw [eh,e]
  have e2:(y.H i).sz=(x.H i).sz:=by rw [eh,e]
  have e3:(y.H i).obj dd=(x.H i).obj dd:=by rw [eh,e]; rfl
  rw [e1,e2,ew,es]
  exact ⟨dd,by rw [e3]; exact h1,h2,h3,fun r row j v hr hj=>(h4 r row j v hr hj).frame hx hf⟩
def FinV (H H':Heap) (v v':V):Prop:= ∀ (x:Cx) (c:Value),x.H=H→Inv x→R x v c→R (finC x H') v' c
theorem FinV.same {H H':Heap} (h:FinH H H') (v:V):FinV H H' v v:=fun x c e hx r=>by
  subst e; exact r.frame hx (fin_step hx h).2
theorem FinV.nil {H H':Heap}:FinV H H' .nilsl (.sl []):=fun x c e hx r=>by
  cases r; exact .slnil
theorem FinV.ms {H H':Heap} (h:FinH H H') {id ver n off len:Nat} (hl:(H id).live=true) (hv:(H id).ver=ver) (hl':(H' id).live=true) (hv':(H' id).ver=n):FinV H H' (.ms id ver off len) (.ms id n off len):=fun x c e hx r=>by
  subst e
  have e:H' id={x.H id with ver:=n}:=by
    rcases (h id).2 with h1|h1
    · rw [h1] at hl'; cases hl'
    · rw [hv'] at h1; exact h1
  cases r with
  | ms id ver off len b m cap hv1 hh hm =>
    refine .ms _ _ _ _ _ _ _ (by rw [show (finC x H').H id=H' id from rfl,hv']; exact Nat.le_refl _) (fun _ _=>?_) fun _ _=>by
      have:=hm hv hl
      simp only [finC,e]
      exact this
    have:=hh hv hl
    simp only [finC,e]
    exact this
theorem FinV.frz {H H' : Heap} (h : FinH H H') {id ver len : Nat} {rows : List (List V)} (hl : (H id).live = true) (hv : (H id).ver = ver) (hd : (H' id).live = false) (hr : (H id).rows.take len = rows) : FinV H H' (.ms id ver 0 len) (.sl rows) := fun x c e hx r => by
  subst e
  have hf:=(fin_step hx h).2
  subst hr
  cases r with
  | ms id ver off len b m cap hv1 hh hnm =>
    obtain ⟨e1,e2,e3,e4,e5,e6⟩:=hh hv hl
    subst e1
    rw [Nat.zero_add] at e4
    have hlen:((x.H id).rows.take m).length=m:=by simp; omega
    cases ho:(x.H id).own with
    | false =>
      have e8:=e6 ho
      have hm:m=0:=by omega
      subst hm; subst e8
      simpa using R.sl0 _
    | true =>
      obtain ⟨e7,e8⟩:=e5 ho
      subst e7
      obtain ⟨cc,h1,h2,h3,h4⟩:=hx.cel id ho (hnm hv hl)
      have hidx: ∀ (r:Nat) (row:List V),((x.H id).rows.take m)[r]?=some row→(x.H id).rows[r]?=some row:=by
        intro r row hr
        simp only [List.getElem?_take] at hr
        split at hr
        · exact hr
        · cases hr
      have key:=R.sl (x:=finC x H') ((x.H id).rows.take m) ⟨x.σ id,0,none⟩ cap (x.H id).sz
        (fun k=>cc.getD k undef) (by omega) e3 (fun _=>.inr ⟨id,ho,hd,rfl⟩)
        (fun r hr=>h2 r (List.mem_of_mem_take hr))
        (fun r row q v hr hj=>by
          have h8:=hidx _ _ hr
          have h9:=(row_lt h2 h3 h8 hj).1
          rw [Addr.add_lit]
          show x.w.cell? _=_
          rw [own_cell h1 (by omega)]
          simp)
        (fun r row q v hr hj=>(h4 _ _ _ _ (hidx _ _ hr) hj).frame hx hf)
      rw [hlen] at key
      simpa using key
theorem FinV.tup2 {H H':Heap} {a b a' b':V} (h1:FinV H H' a a') (h2:FinV H H' b b'):FinV H H' (.tup [a,b]) (.tup [a',b']):=fun x c e hx r=>by
  cases r with
  | tup vs cs hs hr =>
    refine .tup _ cs (by simpa using hs) fun j v hj=>?_
    match j,hj with
    |0,hj=>cases hj; exact h1 x _ e hx (hr 0 a rfl)
    |1,hj=>cases hj; exact h2 x _ e hx (hr 1 b rfl)
    |n+2,hj=>simp at hj
theorem FinV.trans_eq {H H':Heap} {a b b':V} (h:FinV H H' a b) (e:b=b'):FinV H H' a b':=e ▸ h
section
variable {P:Program} {op:Opt} {k0:Nat}
theorem CallOK_of_Wf {f : Nat} {fn : Func} {s : SF} (hf : P.funcs[f]? = some fn) (hs : slimF P op fn = some s) (hn : (fn.name == "runtime.NumGoroutine") = false) {args : List V} {H : Heap} {v : V} {H' : Heap}
    (hl:args.length≤s.n) (hW:bndL args=true→W P k0 s.body (Ret s.res fun u G=>FinH G H'∧FinV G H' u v) (T0 args) H):CallOK P f args H v H':=by
  refine ⟨callable_of hf hs hn,fun x cs hxH hx hr=>?_⟩
  subst hxH
  refine (calls_of_W hf hs hl (hW hr.bnd) hx hr).mono fun e w' h=>?_
  obtain ⟨c,u,y,h1,h2,⟨h3,h4⟩,h5,h6,h7⟩:=h
  obtain ⟨z1,z2⟩:=fin_step h5 h3
  exact ⟨c,finC y H',h1,h2,rfl,z1,h4 y c rfl h5 h6,h7.trans z2⟩
variable {T:Nat→V} {H H':Heap}
theorem RetF_1 {t:Nat} {u v:V} (h:T t=u) (hH:FinH H H') (hv:FinV H H' u v):Ret [.tmp t] (fun u G=>FinH G H'∧FinV G H' u v) .ret T H:=by
  simp only [Ret,resT,mapO,resV,h,onS_some]; exact ⟨hH,hv⟩
theorem RetF_2 {t1 t2:Nat} {u1 u2 v1 v2:V} (h1:T t1=u1) (h2:T t2=u2) (hH:FinH H H') (hv1:FinV H H' u1 v1) (hv2:FinV H H' u2 v2):Ret [.tmp t1,.tmp t2] (fun u G=>FinH G H'∧FinV G H' u (.tup [v1,v2])) .ret T H:=by
  simp only [Ret,resT,mapO,resV,h1,h2,onS_some]; exact ⟨hH,hv1.tup2 hv2⟩
theorem RetF_0 (hH:FinH H H'):Ret [] (fun u G=>FinH G H'∧FinV G H' u (.tup [])) .ret T H:=by
  simp only [Ret,resT,mapO,onS_some]; exact ⟨hH,.same hH _⟩
end
end Go.Proofs.YteehaobohaecmaaGreatDoor
namespace Go.Proofs.YteehaobohaecmaaGreatDoor
open Go
section
variable {P:Program} {k0:Nat} {K:(Nat→V)→Heap→Prop} {T:Nat→V} {H:Heap} {r:List SO} {d:Nat} {a b c:SX} {v u:V}
theorem R_slice_ms_hi {e id ver off len n:Nat} {B:Blk} {k:IntKind} {x:SX} (ha:ev T a=.ms id ver off len) (hx:ev T x=.int k (n:Nat)) (hH:H id=B) (hok:okB B ver=true) (hs:B.sz=e) (hn:n≤len)
    (h:Ops P k0 r (upd T d (.ms id ver off n)) H K):Ops P k0 (⟨none,some d,.slice e a none (some x)⟩::r) T H K:=by
  subst hH
  refine stp (v:=.ms id ver off n) (fun _=>rfl) ?_ h
  rw [ha]
  simp only [Option.map_some,Option.map_none,sliceV,boundV,natV,hx,Option.bind_some]
  have h0:(0:Int)≤(n:Int):=by omega
  rw [if_pos h0]
  simp only [Option.bind_some,Int.toNat_natCast]
  rw [if_pos (show ok H id ver=true from hok),if_pos hs,if_pos (Nat.zero_le _),if_pos hn]
  by_cases e:0 < n
  · rw [if_pos e]; simp
  · rw [if_neg e,if_pos trivial,show n=0 by omega]
theorem R_slice_ms_lo {e id ver off len n:Nat} {B:Blk} {k:IntKind} {x:SX} (ha:ev T a=.ms id ver off len) (hx:ev T x=.int k (n:Nat)) (hH:H id=B) (hok:okB B ver=true) (hs:B.sz=e) (hn:n < len)
    (h:Ops P k0 r (upd T d (.ms id ver (off+n) (len - n))) H K):Ops P k0 (⟨none,some d,.slice e a (some x) none⟩::r) T H K:=by
  subst hH
  refine stp (v:=.ms id ver (off+n) (len - n)) (fun _=>rfl) ?_ h
  rw [ha]
  simp only [Option.map_some,Option.map_none,sliceV,boundV,natV,hx,Option.bind_some]
  have h0:(0:Int)≤(n:Int):=by omega
  rw [if_pos h0]
  simp only [Option.bind_some,Int.toNat_natCast]
  rw [if_pos (show ok H id ver=true from hok),if_pos hs,if_pos (by omega),if_pos (Nat.le_refl _),if_pos hn]
theorem R_clr {α:Type} {id ver ty sz m n:Nat} {lz:Bool} {f:α→List V} {l:List α} {z:List V} (ha:ev T a=.ms id ver m n) (hH:H id=⟨ver,true,lz,ty,sz,l.map f⟩) (hz:z.length=sz) (hz0:z.length≠0) (hone:z.all V.one=true)
    (hm:m < l.length) (hn:m+n=l.length)
    (h:Ops P k0 r T (upd H id ⟨ver,true,lz,ty,sz,(l.take m).map f++List.replicate n z⟩) K):Ops P k0 (⟨none,none,.clr z a⟩::r) T H K:=by
  simp only [Ops,St]
  refine on_some (x:=upd H id ⟨ver,true,lz,ty,sz,(l.take m).map f++List.replicate n z⟩) ?_ h
  rw [ha]
  simp only [clrV,hH]
  rw [if_pos (by simp),if_neg (by omega),if_pos ⟨hz,hz0⟩,if_pos hone,if_pos (by simp; omega)]
  rw [hn,List.drop_eq_nil_of_le (by simp),List.append_nil,List.map_take]
theorem putAt_full: ∀ (vs p r:List V),r.length=vs.length→putAt (p++r) p.length vs=p++vs
  | [], p, r, h => by cases r with
    |nil=>rfl
    |cons a r=>simp at h
  | v :: vs, p, r, h => by
    cases r with
    |nil=>simp at h
    | cons a r =>
      have e:(p++a::r).set p.length v=(p++[v])++r:=by simp
      rw [putAt,e,show p.length+1=(p++[v]).length by simp,putAt_full vs (p++[v]) r (by simpa using h)]
      simp
theorem stB_map {α:Type} [Inhabited α] {n ver ty sz i:Nat} {lz:Bool} {f:α→List V} {l:List α} {vs:List V} {x:α} (h:i < l.length) (hv:vs=f x) (hn:vs.length=n) (hs:(f (nth l i)).length=n) (ho:vs.all V.one=true):
    stB ⟨ver,true,lz,ty,sz,l.map f⟩ ver i 0 n vs=some ⟨ver,true,lz,ty,sz,(l.set i x).map f⟩:=by
  subst hv
  unfold stB
  rw [if_pos (okB_map (by omega)),if_pos hn,if_pos ho]
  simp only [List.getElem?_map,nth_eq h,Option.map_some]
  rw [if_pos (by omega)]
  have:=putAt_full (f x) [] (f (nth l i)) (by omega)
  simp only [List.nil_append,List.length_nil] at this
  rw [this,List.map_set]
theorem wrap_u64 {n:Int} (h0:0≤n) (h:n < 18446744073709551616):IntKind.u64.wrap n=n:=by
  simp [IntKind.wrap,IntKind.bits,IntKind.signed]
  omega
theorem R_convU {kd:IntKind} {n:Nat} (ha:ev T a=.int kd (n:Nat)) (hn:n < 9223372036854775808) (h:Ops P k0 r (upd T d (.int .u64 (n:Nat))) H K):Ops P k0 (⟨none,some d,.conv .u64 a⟩::r) T H K:=by
  refine stp (v:=.int .u64 (n:Nat)) (fun _=>rfl) ?_ h
  rw [ha]; simp only [convV,wrap_u64 (Int.natCast_nonneg n) (by omega)]
theorem R_convI {kd:IntKind} {n:Nat} (ha:ev T a=.int kd (n:Nat)) (hn:n < 9223372036854775808) (h:Ops P k0 r (upd T d (iV (n:Nat))) H K):Ops P k0 (⟨none,some d,.conv .i64 a⟩::r) T H K:=by
  refine stp (v:=iV (n:Nat)) (fun _=>rfl) ?_ h
  rw [ha]; simp only [convV]; rw [wrap_in (by omega) (by omega)]
theorem R_shr1 {n:Nat} (ha:ev T a=.int .u64 (n:Nat)) (hb:ev T b=.int .u64 1) (h:Ops P k0 r (upd T d (.int .u64 ((n / 2:Nat):Int))) H K):Ops P k0 (⟨none,some d,.bin .shr a b⟩::r) T H K:=by
  refine R_bin ha hb ?_ h
  simp only [intBin,if_true]
  rw [if_neg (by decide)]
  congr 2
  show ((n:Nat):Int).fdiv 2=_
  rw [Int.fdiv_eq_ediv_of_nonneg _ (by decide)]
  omega
theorem R_idx_ms0 {e id ver len i:Nat} {B:Blk} {k:IntKind} (ha:ev T a=.ms id ver 0 len) (hb:ev T b=.int k (i:Nat)) (hH:H id=B) (hok:okB B ver=true) (hs:B.sz=e) (hi:i < len)
    (h:Ops P k0 r (upd T d (.mp id ver i 0)) H K):Ops P k0 (⟨none,some d,.idx e a b⟩::r) T H K:=
  R_idx_ms ha hb hH hok hs hi (by rw [Nat.zero_add]; exact h)
theorem R_idxI_ms0 {e id ver len:Nat} {i:Int} {B:Blk} {k:IntKind} (ha:ev T a=.ms id ver 0 len) (hb:ev T b=.int k i) (hH:H id=B) (hok:okB B ver=true) (hs:B.sz=e) (h0:0≤i) (hi:i < len)
    (h:Ops P k0 r (upd T d (.mp id ver i.toNat 0)) H K):Ops P k0 (⟨none,some d,.idx e a b⟩::r) T H K:=
  R_idxI_ms ha hb hH hok hs h0 hi (by rw [Nat.zero_add]; exact h)
theorem kill_self {id n:Nat} (h:(H id).ver=n):(kill id H id).ver=n∧(kill id H id).live=false:=by subst h; simp [kill]
theorem kill_dead {id j n:Nat} (h:(H j).ver=n∧(H j).live=false):(kill id H j).ver=n∧(kill id H j).live=false:=by
  by_cases e:j=id
  · subst e; exact kill_self h.1
  · simp only [kill,upd_ne _ _ e]; exact h
theorem fz_mst {α:Type} {n id ver len:Nat} {B:Blk} {f:α→List V} {l:List α} (hH:H id=B) (hok:(B.live&&decide (B.ver=ver))=true) (hr:B.rows.take len=l.map f) (hc: ∀ a,canonL (f a)=true):
    fzv true H (n+1) (.ms id ver 0 len)=.sl (l.map f):=by
  subst hH
  simp only [fzv]
  rw [if_pos hok,List.drop_zero,hr]
  congr 1
  rw [List.map_map]
  refine List.map_congr_left fun a _=>fzv_mapcanon n _ (hc a)
theorem take_map {α:Type} {len:Nat} {f:α→List V} {l:List α} (h:len=l.length):(l.map f).take len=l.map f:=by
  subst h; rw [show l.length=(l.map f).length by simp,List.take_length]
theorem take_zap {α:Type} {len:Nat} {f:α→List V} {l:List α} {r:List (List V)} (h:len=l.length):(l.map f++r).take len=l.map f:=by
  subst h; rw [show l.length=(l.map f).length by simp,List.take_left]
end
theorem okB_zap {α:Type} {ver ty sz m:Nat} {lz:Bool} {f:α→List V} {l:List α} {z:List V} (h:0 < l.length):okB ⟨ver,true,lz,ty,sz,l.map f++List.replicate m z⟩ ver=true:=by
  cases l with
  |nil=>simp at h
  |cons a l=>simp [okB,Blk.own]
theorem fz_mstR {H:Heap} {α:Type} {n id ver len:Nat} {B:Blk} {f:α→List V} {l m:List α} (hH:H id=B) (hok:(B.live&&decide (B.ver=ver))=true) (hr:B.rows.take len=l.map f) (hc: ∀ a,canonL (f a)=true) (h:l=m):
    fzv true H (n+1) (.ms id ver 0 len)=.sl (m.map f):=by
  subst h; exact fz_mst hH hok hr hc
theorem frz_cellg {H:Heap} {id id2 ver v2 ty ty2 i off len sz sz2:Nat} {lz lz2:Bool} {β:Type} {rows:List (List V)} {r:List V} {m:List β} {g:β→List V} (hne:id2≠id) (h1:H id=⟨ver,true,lz,ty,sz,m.map g⟩) (h2:H id2=⟨v2,true,lz2,ty2,sz2,rows.set i r⟩)
    (hi:i < rows.length) (hl:len=m.length) (hc:r[off]?=some (.ms id ver 0 len)) {K:(Nat→V)→Heap→Prop} {T:Nat→V} (h:G K (fzT id H T) (upd (kill id H) id2 ⟨v2,true,lz2,ty2,sz2,rows.set i (r.set off (.sl (m.map g)))⟩)):G K T H:=by
  subst hl
  have hr:(H id2).rows[i]?=some r:=by rw [h2]; simp [hi]
  refine .frzCell id ver m.length id2 i off r hne (by rw [h1]) (by rw [h1]) (by rw [h2]; cases rows with
    |nil=>simp at hi
    |cons a l=>cases i <;> simp [Blk.own]) hr hc ?_
  have e:({H id2 with rows:=(H id2).rows.set i (r.set off (.sl ((H id).rows.take m.length)))}:Blk)=⟨v2,true,lz2,ty2,sz2,rows.set i (r.set off (.sl (m.map g)))⟩:=by
    rw [h2,h1]
    simp only [Blk.mk.injEq,true_and,List.set_set]
    rw [show m.length=(m.map g).length by simp,List.take_length]
  rw [e]; exact h
end Go.Proofs.YteehaobohaecmaaGreatDoor
namespace Go.Proofs.YteehaobohaecmaaGreatDoor
open Go
abbrev sO (d:Nat) (x:X):SO:=⟨none,some d,x⟩
abbrev qM (d a:Nat):SO:=sO d (.mv (.t a))
abbrev qI (d:Nat) (n:Int):SO:=sO d (.mv (.c (.int .i64 n)))
abbrev qF (d n a:Nat):SO:=sO d (.fld n (.t a))
abbrev qL (d n a:Nat):SO:=sO d (.load true n (.t a))
abbrev ql (d a:Nat):SO:=sO d (.load false 1 (.t a))
abbrev qE (d a i:Nat):SO:=sO d (.ext (.t a) i)
abbrev qA (d e a i:Nat):SO:=sO d (.idx e (.t a) (.t i))
abbrev qN (d a:Nat):SO:=sO d (.len (.t a))
abbrev qP (d:Nat) (b:BinOp) (x y:Nat):SO:=sO d (.bin b (.t x) (.t y))
abbrev qC (d:Nat) (b:BinOp) (x:Nat) (n:Int):SO:=sO d (.bin b (.t x) (.c (.int .i64 n)))
abbrev sN (x:X):SO:=⟨none,none,x⟩
abbrev bk (v:Nat) (ty sz:Nat) (rows:List (List V)):Blk:=⟨v,true,false,ty,sz,rows⟩
abbrev bz (v:Nat) (ty sz:Nat) (rows:List (List V)):Blk:=⟨v,true,true,ty,sz,rows⟩
section
variable {P:Program} {k0 d:Nat} {r:List SO} {T:Nat→V} {H:Heap} {K:(Nat→V)→Heap→Prop} {a b:SX} {v:V}
theorem R_callk {f:Nat} {args:List SX} {as0:List V} (hc:PureC P f as0 v) (he:evs T args=as0) (h:Ops P k0 r (upd T d v) H K)
    (h1:canonL as0=true:=by simp [-List.map_take,-List.map_drop,-List.map_append,-List.map_reverse]) (h2:pureL as0=true:=by simp [-List.map_take,-List.map_drop,-List.map_append,-List.map_reverse]):
    Ops P k0 (⟨none,some d,.call false f args⟩::r) T H K:=R_call he hc (fzv_mapcanon _ _ h1) h2 (.inl h2) h
end
def nz:V→V
  | .nilsl=>.sl []
  |v=>v
theorem nz_up {x:Cx} {v:V} {c:Value} (r:R x v c):R x (nz v) c:=by
  cases v <;> first|exact r|(generalize hq:V.nilsl=q at r; cases r <;> cases hq; exact .slnil)
theorem row_up {K : (Nat → V) → Heap → Prop} {T : Nat → V} {id i : Nat} {r : List V} : ∀ (j : Nat) {H : Heap} {pre suf : List V}, r = pre ++ suf → suf.length = j → (H id).own = true → (H id).rows[i]? = some (pre.map nz ++ suf) →
    G K T (upd H id {H id with rows:=(H id).rows.set i (r.map nz)})→G K T H:=by
  intro j
  induction j with
  | zero =>
    intro H pre suf he hl ho hr h
    have:=List.length_eq_zero_iff.1 hl
    subst this
    have e:({H id with rows:=(H id).rows.set i (r.map nz)}:Blk)=H id:=by
      rw [he,List.append_nil]
      rw [List.append_nil] at hr
      have:(H id).rows.set i (pre.map nz)=(H id).rows:=by
        have hi:=(List.getElem?_eq_some_iff.1 hr).1
        have:=(List.getElem?_eq_some_iff.1 hr).2
        rw [← this,List.set_getElem_self]
      rw [this]
    rw [e] at h
    have e2:upd H id (H id)=H:=funext fun k=>by unfold upd; split <;> simp_all
    rw [e2] at h; exact h
  | succ j ih =>
    intro H pre suf he hl ho hr h
    cases suf with
    |nil=>simp at hl
    | cons v s =>
      refine .cell id i pre.length v (nz v) (pre.map nz++v::s) ho hr (by simp) (fun x c r=>nz_up r) ?_
      have hi:=(List.getElem?_eq_some_iff.1 hr).1
      have e1:(pre.map nz++v::s).set pre.length (nz v)=(pre++[v]).map nz++s:=by
        rw [List.set_append_right _ _ (by simp)]
        simp
      have ho2:({H id with rows:=(H id).rows.set i ((pre.map nz++v::s).set pre.length (nz v))}:Blk).own=true:=by
        unfold Blk.own at ho ⊢
        cases hq:(H id).rows with
        |nil=>rw [hq] at hi; simp at hi
        |cons a l=>rw [hq] at ho; cases i <;> simpa using ho
      refine ih (H:=upd H id {H id with rows:=(H id).rows.set i ((pre.map nz++v::s).set pre.length (nz v))}) (pre:=pre++[v]) (suf:=s) (by rw [he]; simp) (by simpa using hl) (by rw [upd_same]; exact ho2) (by rw [upd_same,e1]; simp [hi]) ?_
      rw [upd_same]
      have e3:upd (upd H id {H id with rows:=(H id).rows.set i ((pre.map nz++v::s).set pre.length (nz v))}) id {H id with rows:=((H id).rows.set i ((pre.map nz++v::s).set pre.length (nz v))).set i (r.map nz)}=upd H id {H id with rows:=(H id).rows.set i (r.map nz)}:=by
        funext k
        by_cases e:k=id
        · subst e; simp only [upd_same,List.set_set]
        · simp only [upd_ne _ _ e]
      rw [e3]; exact h
theorem own_ne {ver ty sz:Nat} {lz:Bool} {rows:List (List V)} (h:rows≠[]):(⟨ver,true,lz,ty,sz,rows⟩:Blk).own=true:=by
  cases rows with
  |nil=>exact (h rfl).elim
  |cons a l=>simp [Blk.own]
theorem nzs_map {K:(Nat→V)→Heap→Prop} {T:Nat→V} {H:Heap} {id i ver ty sz:Nat} {lz:Bool} {rows:List (List V)} {r r':List V} (hH:H id=⟨ver,true,lz,ty,sz,rows.set i r⟩) (hi:i < rows.length) (hr:r.map nz=r')
    (h:G K T (upd H id ⟨ver,true,lz,ty,sz,rows.set i r'⟩)):G K T H:=by
  refine row_up (id:=id) (i:=i) (r:=r) r.length (pre:=[]) (suf:=r) rfl rfl ?_ ?_ ?_
  · rw [hH]
    refine own_ne fun e=>?_
    have:=congrArg List.length e
    simp at this; subst this; simp at hi
  · rw [hH]; simp [hi]
  · rw [hH]; simp only [List.set_set]; rw [hr]; exact h
end Go.Proofs.YteehaobohaecmaaGreatDoor
namespace Go.Proofs.YteehaobohaecmaaGreatDoor
open Go
section
variable {P:Program} {k0:Nat} {Q:Ex→(Nat→V)→Heap→Prop} {T:Nat→V} {H:Heap}
theorem W_r {ops:List SO} {b:SC} (h:Ops P k0 ops T H fun T H=>W P k0 b Q T H):W P k0 (.seq (.reg ops) b) Q T H:=
  ⟨k0,Ops_mono (fun _ _ h=>.done h) h⟩
theorem W_t {ops:List SO} (h:Ops P k0 ops T H fun T H=>Q .norm T H):W P k0 (.reg ops) Q T H:=⟨k0,h⟩
theorem W_d {ops:List SO} {b:SC} {late:List Nat} (hl: ∀ d∈late,(H (k0+d)).live=false) (h:Ops P k0 ops T H fun T H=>W P k0 b Q T H):W P k0 (.seq (.dreg late ops) b) Q T H:=
  ⟨k0,hl,Ops_mono (fun _ _ h=>.done h) h⟩
end
theorem lateN {H:Heap} {k0:Nat}: ∀ d∈([]:List Nat),(H (k0+d)).live=false:=fun _ h=>by simp at h
theorem lateC {H:Heap} {k0 d:Nat} {l:List Nat} (h:(H (k0+d)).live=false) (hl: ∀ d∈l,(H (k0+d)).live=false): ∀ x∈d::l,(H (k0+x)).live=false:=by
  intro x hx
  rcases List.mem_cons.1 hx with rfl|hx
  · exact h
  · exact hl _ hx
theorem oB {ver ty sz:Nat} {rows:List (List V)}:okB ⟨ver,true,false,ty,sz,rows⟩ ver=true:=by simp [okB,Blk.own]
theorem lB {agg:Bool} {n ver row off:Nat} {B:Blk} {r:List V} {v:V} (ho:okB B ver=true) (hr:B.rows[row]?=some r) (hv:ldV agg n (r.drop off)=some v):ldB agg n B ver row off=some v:=by
  unfold ldB; rw [if_pos (show (B.own&&decide (B.ver=ver))=true from ho),hr]; exact hv
theorem sB {n ver row off:Nat} {B B':Blk} {r vs:List V} (ho:okB B ver=true) (hn:vs.length=n) (ha:vs.all V.one=true) (hr:B.rows[row]?=some r) (hl:Nat.ble (off+n) r.length=true) (hB:{B with rows:=B.rows.set row (putAt r off vs)}=B'):stB B ver row off n vs=some B':=by
  unfold stB; rw [if_pos ho,if_pos hn,if_pos ha,hr]; dsimp only; rw [if_pos (Nat.le_of_ble_eq_true hl),hB]
section
variable {P:Program} {k0 d:Nat} {r:List SO} {T:Nat→V} {H:Heap} {K:(Nat→V)→Heap→Prop} {a b:SX} {v:V}
theorem R_lk {agg:Bool} {n id ver row off ty sz:Nat} {rows:List (List V)} {rw:List V} (ha:ev T a=.mp id ver row off) (hH:H id=⟨ver,true,false,ty,sz,rows⟩) (hr:rows[row]?=some rw) (hv:ldV agg n (rw.drop off)=some v) (h:Ops P k0 r (upd T d v) H K):
    Ops P k0 (⟨none,some d,.load agg n a⟩::r) T H K:=R_load_mp ha hH (lB oB hr hv) h
theorem R_fk {off id ver row o ty sz:Nat} {rows:List (List V)} (ha:ev T a=.mp id ver row o) (hH:H id=⟨ver,true,false,ty,sz,rows⟩) (h:Ops P k0 r (upd T d (.mp id ver row (o+off))) H K):Ops P k0 (⟨none,some d,.fld off a⟩::r) T H K:=
  R_fld_mp ha hH oB rfl h
theorem R_sk {n id ver row off ty sz:Nat} {rows:List (List V)} {B':Blk} {rw vs:List V} (ha:ev T a=.mp id ver row off) (hb:ev T b=v) (hc:v.cells=vs) (hH:H id=⟨ver,true,false,ty,sz,rows⟩) (hn:vs.length=n) (hl:vs.all V.one=true) (hr:rows[row]?=some rw)
    (hm:Nat.ble (off+n) rw.length=true) (hB:(⟨ver,true,false,ty,sz,rows.set row (putAt rw off vs)⟩:Blk)=B') (h:Ops P k0 r T (upd H id B') K):Ops P k0 (⟨none,none,.store n a b⟩::r) T H K:=
  R_store ha hb hc hH (sB oB hn hl hr hm hB) h
end
theorem R_e {P:Program} {k0:Nat} {T:Nat→V} {H:Heap} {K:(Nat→V)→Heap→Prop} (h:K T H):Ops P k0 [] T H K:=h
end Go.Proofs.YteehaobohaecmaaGreatDoor
namespace Go.Proofs.YteehaobohaecmaaGreatDoor
open Go
theorem pW {P:Program} {op:Opt} {f:Nat} {fn:Func} {s:SF} {args:List V} {v:V} {B:Prop} (hf:P.funcs[f]?=some fn) (hs:slimF P op fn=some s)
    (hW : B → W P 0 s.body (Ret s.res fun u G => fzv true G 6 u = v) (T0 args) H0) (hn : (fn.name == "runtime.NumGoroutine") = false := by kernel_rfl)
    (hl:Nat.ble args.length s.n=true:=by rfl) (ha:pureL args=true:=by simp) (hv:v.pure=true:=by simp)
    (hb:bndL args=true→B:=by intro hB; first|(simp only [bnd_map,bnd_int,bnd_bool,bnd_str,bnd_agg,bnd_pp,bnd_nil,bnd_cons,implies_true,and_true,true_and] at hB; exact hB)|exact (fun _=>trivial) hB):PureC P f args v:=
  pure_of_Wb true 6 hf hs hn (Nat.le_of_ble_eq_true hl) ha hv fun h=>hW (hb h)
theorem eW {P:Program} {op:Opt} {k0 f:Nat} {fn:Func} {s:SF} {args:List V} {H:Heap} {v:V} {H':Heap} {B:Prop} (hf:P.funcs[f]?=some fn) (hs:slimF P op fn=some s)
    (hW : B → W P k0 s.body (Ret s.res fun u G => FinH G H' ∧ FinV G H' u v) (T0 args) H) (hn : (fn.name == "runtime.NumGoroutine") = false := by kernel_rfl)
    (hl:Nat.ble args.length s.n=true:=by rfl)
    (hb:bndL args=true→B:=by intro hB; first|(simp only [bnd_map,bnd_int,bnd_bool,bnd_str,bnd_agg,bnd_pp,bnd_nil,bnd_cons,implies_true,and_true,true_and] at hB; exact hB)|exact (fun _=>trivial) hB):CallOK P f args H v H':=
  CallOK_of_Wf hf hs hn (Nat.le_of_ble_eq_true hl) fun h=>hW (hb h)
theorem edT {x:V} {p:Prop} [Decidable p] (h:p) (hx:x=V.bool (decide p)):x=V.bool true:=by rw [hx]; simp [h]
theorem edF {x:V} {p:Prop} [Decidable p] (h: ¬p) (hx:x=V.bool (decide p)):x=V.bool false:=by rw [hx]; simp [h]
theorem ebT {x:V} {b:Bool} (h:b=true) (hx:x=V.bool b):x=V.bool true:=by rw [hx,h]
theorem ebF {x:V} {b:Bool} (h: ¬b=true) (hx:x=V.bool b):x=V.bool false:=by rw [hx,Bool.eq_false_iff.2 h]
theorem G_n {P:Program} {k0 d t:Nat} {r:List SO} {T:Nat→V} {H:Heap} {K:(Nat→V)→Heap→Prop} {w:Bool} {q:X} (ht:T t=.bool (!w)) (h:Ops P k0 r (upd T d (.raw undef)) H K):
    Ops P k0 (⟨some (t,w),some d,q⟩::r) T H K:=G_no ht (by cases w <;> decide) h
section
variable {P:Program} {k0 d:Nat} {r:List SO} {T:Nat→V} {H:Heap} {K:(Nat→V)→Heap→Prop} {a b:SX} {x y x' y':Int}
end
section
variable {P:Program} {k0 d:Nat} {r:List SO} {T:Nat→V} {H:Heap} {K:(Nat→V)→Heap→Prop} {a b:SX} {u w v:V}
end
section
variable {P:Program} {k0:Nat} {Q:Ex→(Nat→V)→Heap→Prop} {T:Nat→V} {H:Heap}
end
end Go.Proofs.YteehaobohaecmaaGreatDoor
namespace Go.Proofs.YteehaobohaecmaaGreatDoor
open Go
def ren0 (ρ:Nat→Nat):V→V
  | .mp id ver r o=>.mp (ρ id) ver r o
  | .ms id ver o l=>.ms (ρ id) ver o l
  |v=>v
def ren (ρ:Nat→Nat):V→V
  | .fn f a b=>.fn f (a.map (ren0 ρ)) (b.map (ren0 ρ))
  |v=>ren0 ρ v
def loc0 (n:Nat):V→Bool
  | .mp id _ _ _=>decide (id < n)
  | .ms id _ _ _=>decide (id < n)
  |v=>v.pure
def loc (n:Nat):V→Bool
  | .fn _ a b=>a.all (loc0 n)&&b.all (loc0 n)
  |v=>loc0 n v
def renB (ρ:Nat→Nat) (b:Blk):Blk:={b with rows:=b.rows.map fun r=>r.map (ren0 ρ)}
def locB (n:Nat) (b:Blk):Bool:=b.rows.all fun r=>r.all (loc0 n)
theorem renB_isM {ρ:Nat→Nat} {b:Blk}:(renB ρ b).isM=b.isM:=rfl
theorem renB_obj {ρ:Nat→Nat} {b:Blk} {cc:Array Value}:(renB ρ b).obj cc=b.obj cc:=by unfold Blk.obj; rw [renB_isM]; simp [renB]
theorem renB_own {ρ:Nat→Nat} {b:Blk}:(renB ρ b).own=b.own:=by simp [renB,Blk.own]
structure View (n:Nat) (ρ:Nat→Nat) (x z:Cx):Prop where
  w:z.w=x.w
  Z: ∀ b,x.Z b→z.Z b
  H: ∀ i,i < n→z.H (ρ i)=renB ρ (x.H i)
  σ: ∀ i,i < n→z.σ (ρ i)=x.σ i
theorem ren0_R {n:Nat} {ρ:Nat→Nat} {x z:Cx} (hv:View n ρ x z) {v:V} {c:Value} (hl:loc0 n v=true) (h:R x v c):R z (ren0 ρ v) c:=by
  cases v with
  | mp id ver row off =>
    simp only [loc0,decide_eq_true_eq] at hl
    cases h with
    |mp _ _ _ _ p hver hh hm=>
    refine .mp _ _ _ _ _ (by rw [hv.H id hl]; exact hver) (fun e ho=>?_) fun e ho=>by
      rw [hv.H id hl] at e ho ⊢
      rw [renB_own] at ho
      rw [renB_isM]; exact hm e ho
    rw [hv.H id hl] at e ho
    rw [renB_own] at ho
    rw [hh e ho,hv.σ id hl,hv.H id hl]; rfl
  | ms id ver off len =>
    simp only [loc0,decide_eq_true_eq] at hl
    cases h with
    |ms _ _ _ _ b m cap hver hh hm=>
    refine .ms _ _ _ _ _ _ _ (by rw [hv.H id hl]; exact hver) (fun e ho=>?_) fun e ho=>by
      rw [hv.H id hl] at e ho ⊢
      rw [renB_isM]; exact hm e ho
    rw [hv.H id hl] at e ho
    obtain ⟨e1,e2,e3,e4,e5,e6⟩:=hh e ho
    refine ⟨e1,e2,e3,by rw [hv.H id hl]; simpa [renB] using e4,fun q=>?_,fun q=>?_⟩
    · rw [hv.H id hl,renB_own] at q
      rw [hv.σ id hl,hv.H id hl,hv.w]
      exact e5 q
    · rw [hv.H id hl,renB_own] at q
      exact e6 q
  |_=>exact h.pure_at hl hv.w hv.Z
theorem ren0_R' {n:Nat} {ρ:Nat→Nat} {x z:Cx} (hv:View n ρ x z) (hZ: ∀ b,z.Z b→x.Z b) {v:V} {c:Value} (hl:loc0 n v=true) (h:R z (ren0 ρ v) c):R x v c:=by
  cases v with
  | mp id ver row off =>
    simp only [loc0,decide_eq_true_eq] at hl
    cases h with
    |mp _ _ _ _ p hver hh hm=>
    rw [hv.H id hl] at hver hh hm
    refine .mp _ _ _ _ _ hver (fun e ho=>?_) fun e ho=>hm e (by rw [renB_own]; exact ho)
    rw [hh e (by rw [renB_own]; exact ho),hv.σ id hl]; rfl
  | ms id ver off len =>
    simp only [loc0,decide_eq_true_eq] at hl
    cases h with
    |ms _ _ _ _ b m cap hver hh hm=>
    rw [hv.H id hl] at hver hh hm
    refine .ms _ _ _ _ _ _ _ hver (fun e ho=>?_) fun e ho=>hm e ho
    obtain ⟨e1,e2,e3,e4,e5,e6⟩:=hh e ho
    refine ⟨e1,e2,e3,by simpa [renB] using e4,fun q=>?_,fun q=>?_⟩
    · have:=e5 (by rw [renB_own]; exact q)
      rw [hv.σ id hl,hv.w] at this
      exact this
    · exact e6 (by rw [renB_own]; exact q)
  |_=>exact R.pure_at h hl hv.w.symm hZ
theorem ren_R' {n:Nat} {ρ:Nat→Nat} {x z:Cx} (hv:View n ρ x z) (hZ: ∀ b,z.Z b→x.Z b) {v:V} {c:Value} (hl:loc n v=true) (h:R z (ren ρ v) c):R x v c:=by
  cases v with
  | fn f a b =>
    simp only [loc,Bool.and_eq_true,List.all_eq_true] at hl
    cases h with
    |fn _ _ _ fs cs h1 h2 h3 h4=>
    refine .fn f a b fs cs (by simpa using h1) (by simpa using h2) (fun j v hj=>?_) (fun j v hj=>?_)
    · exact ren0_R' hv hZ (hl.1 v (List.mem_of_getElem? hj)) (h3 j _ (by rw [List.getElem?_map,hj]; rfl))
    · exact ren0_R' hv hZ (hl.2 v (List.mem_of_getElem? hj)) (h4 j _ (by rw [List.getElem?_map,hj]; rfl))
  |_=>exact ren0_R' hv hZ hl h
def putL (ρ:Nat→Nat) (HL:Heap) (H:Heap):Nat→Heap
  |0=>H
  |n+1=>upd (putL ρ HL H n) (ρ n) (renB ρ (HL n))
def putS (ρ:Nat→Nat) (s σ:Nat→Nat):Nat→Nat→Nat
  |0=>σ
  |n+1=>upd (putS ρ s σ n) (ρ n) (s n)
theorem putL_at {ρ:Nat→Nat} {HL H:Heap}: ∀ {n:Nat},(∀ i j,i < n→j < n→ρ i=ρ j→i=j)→ ∀ i,i < n→putL ρ HL H n (ρ i)=renB ρ (HL i)
  |0,_,i,h=>absurd h (Nat.not_lt_zero i)
  | n + 1, hi, i, h => by
    simp only [putL]
    by_cases e:i=n
    · subst e; rw [upd_same]
    · rw [upd_ne _ _ (fun q=>e (hi i n h (Nat.lt_succ_self n) q))]
      exact putL_at (fun i j h1 h2=>hi i j (by omega) (by omega)) i (by omega)
theorem putL_ne {ρ:Nat→Nat} {HL H:Heap}: ∀ {n j:Nat},(∀ i,i < n→ρ i≠j)→putL ρ HL H n j=H j
  |0,_,_=>rfl
  | n + 1, j, h => by
    simp only [putL]
    rw [upd_ne _ _ (Ne.symm (h n (Nat.lt_succ_self n)))]
    exact putL_ne fun i hi=>h i (by omega)
theorem putS_at {ρ s σ:Nat→Nat}: ∀ {n:Nat},(∀ i j,i < n→j < n→ρ i=ρ j→i=j)→ ∀ i,i < n→putS ρ s σ n (ρ i)=s i
  |0,_,i,h=>absurd h (Nat.not_lt_zero i)
  | n + 1, hi, i, h => by
    simp only [putS]
    by_cases e:i=n
    · subst e; rw [upd_same]
    · rw [upd_ne _ _ (fun q=>e (hi i n h (Nat.lt_succ_self n) q))]
      exact putS_at (fun i j h1 h2=>hi i j (by omega) (by omega)) i (by omega)
theorem putS_ne {ρ s σ:Nat→Nat}: ∀ {n j:Nat},(∀ i,i < n→ρ i≠j)→putS ρ s σ n j=σ j
  |0,_,_=>rfl
  | n + 1, j, h => by
    simp only [putS]
    rw [upd_ne _ _ (Ne.symm (h n (Nat.lt_succ_self n)))]
    exact putS_ne fun i hi=>h i (by omega)
section
variable {n:Nat} {ρ:Nat→Nat} {Hl:Heap} {x:Cx}
def startL (x:Cx) (ρ:Nat→Nat) (Hl:Heap):Cx:={w:=x.w,Z:=x.Z,σ:=fun i=>x.σ (ρ i),H:=Hl}
theorem startL_view (hH: ∀ i,i < n→x.H (ρ i)=renB ρ (Hl i)):View n ρ (startL x ρ Hl) x:=⟨rfl,fun _ h=>h,hH,fun _ _=>rfl⟩
theorem startL_ok (hx:Inv x) (hρ: ∀ i j,i < n→j < n→ρ i=ρ j→i=j) (hH: ∀ i,i < n→x.H (ρ i)=renB ρ (Hl i)) (hloc: ∀ i,i < n→locB n (Hl i)=true) (hd: ∀ i,n≤i→(Hl i).own=false):Inv (startL x ρ Hl):=by
  have lt: ∀ i,(Hl i).own=true→i < n:=fun i h=>by
    rcases Nat.lt_or_ge i n with q|q
    · exact q
    · rw [hd i q] at h; cases h
  have ow: ∀ i,(Hl i).own=true→(x.H (ρ i)).own=true:=fun i h=>by rw [hH i (lt i h),renB_own]; exact h
  refine ⟨hx.zlt,fun b id hb ho=>hx.zown b (ρ id) hb (ow id ho),fun id ho=>?_,fun i j hi hj he=>hρ i j (lt i hi) (lt j hj) (hx.inj _ _ (ow i hi) (ow j hj) he),hx.tab⟩
  obtain ⟨cc,h1,h2,h3,h4⟩:=hx.blk (ρ id) (ow id ho)
  have e:=hH id (lt id ho)
  rw [e] at h1 h2 h3 h4
  rw [renB_obj] at h1
  refine ⟨cc,h1,fun r hr=>?_,by simpa [renB,startL] using h3,fun r row j v hr hj=>?_⟩
  · have:=h2 (r.map (ren0 ρ)) (by simp only [renB]; exact List.mem_map_of_mem hr)
    simpa [renB,startL] using this
  · have h5:=h4 r (row.map (ren0 ρ)) j (ren0 ρ v) (by simp only [renB]; rw [List.getElem?_map,show (Hl id).rows[r]?=some row from hr]; rfl) (by rw [List.getElem?_map,hj]; rfl)
    refine ren0_R' (startL_view hH) (fun _ h=>h) ?_ h5
    have:=hloc id (lt id ho)
    simp only [locB,List.all_eq_true] at this
    exact this row (List.mem_of_getElem? hr) v (List.mem_of_getElem? hj)
theorem backL (hx : Inv x) (hρ : ∀ i j, i < n → j < n → ρ i = ρ j → i = j) (hH : ∀ i, i < n → x.H (ρ i) = renB ρ (Hl i)) (hd : ∀ i, n ≤ i → (Hl i).own = false) {y : Cx} (hf : Frame (startL x ρ Hl) y) (hy : Inv y)
    (hloc: ∀ i,i < n→(y.H i).own=true→locB n (y.H i)=true) (_hyd: ∀ i,n≤i→(y.H i).own=false):
    let z:Cx:={w:=y.w,Z:=y.Z,σ:=putS ρ y.σ x.σ n,H:=putL ρ y.H x.H n}
    Inv z∧Frame x z∧View n ρ y z:=by
  intro z
  have hv:View n ρ y z:=⟨rfl,fun _ h=>h,fun i hi=>putL_at hρ i hi,fun i hi=>putS_at hρ i hi⟩
  have cas: ∀ j,(∃ i,i < n∧ρ i=j)∨((∀ i,i < n→ρ i≠j)∧z.H j=x.H j∧z.σ j=x.σ j):=fun j=>by
    by_cases h: ∃ i,i < n∧ρ i=j
    · exact .inl h
    · have h': ∀ i,i < n→ρ i≠j:=fun i hi e=>h ⟨i,hi,e⟩
      exact .inr ⟨h',putL_ne h',putS_ne h'⟩
  have lt: ∀ i,(Hl i).own=true→i < n:=fun i h=>by
    rcases Nat.lt_or_ge i n with q|q
    · exact q
    · rw [hd i q] at h; cases h
  have ow: ∀ i,(Hl i).own=true→(x.H (ρ i)).own=true:=fun i h=>by rw [hH i (lt i h),renB_own]; exact h
  have hkeep: ∀ b,b < x.w.heap.size→(∀ i,(Hl i).own=true→x.σ (ρ i)≠b)→y.w.heap[b]?=x.w.heap[b]?:=fun b hb h=>hf.keep b hb h
  have hko: ∀ j,(x.H j).own=true→(∀ i,i < n→ρ i≠j)→y.w.heap[x.σ j]?=x.w.heap[x.σ j]?:=fun j ho hj=>hkeep _ (hx.lt ho) fun i hi e=>hj i (lt i hi) (hx.inj _ _ (ow i hi) ho e)
  have hF:Frame x z:=by
    refine ⟨hf.os,hf.tape,hf.output,hf.size,fun b hb h=>hkeep b hb fun i hi=>h _ (ow i hi),fun b hb=>hf.zone b hb,fun b hb=>?_,fun j=>?_,fun j ho=>?_,hf.drawn,fun j hl hve=>?_⟩
    · rcases hf.zold b hb with h|h|⟨i,h1,h2⟩
      · exact .inl h
      · exact .inr (.inl h)
      · exact .inr (.inr ⟨ρ i,ow i h1,h2⟩)
    · rcases cas j with ⟨i,hi,rfl⟩|⟨h1,h2,h3⟩
      · rw [hv.H i hi,hH i hi]
        obtain ⟨g1,g2⟩:=hf.ids i
        refine ⟨g1,fun hl hve=>?_⟩
        obtain ⟨a1,a2,a3,a4,a5⟩:=g2 hl hve
        refine ⟨a1,by rw [renB_own,renB_own]; exact a2,a3,fun q=>by simpa [renB,startL] using a4 (by rw [renB_isM] at q; exact q),fun ho=>?_⟩
        rw [renB_own] at ho
        rw [hv.σ i hi]
        exact a5 ho
      · rw [h2,h3]
        exact ⟨Nat.le_refl _,fun hl _=>⟨hl,rfl,rfl,fun _=>rfl,fun ho=>⟨rfl,by unfold rowSize; rw [show z.w.heap[x.σ j]?=x.w.heap[x.σ j]? from hko j ho h1]⟩⟩⟩
    · rcases cas j with ⟨i,hi,rfl⟩|⟨h1,h2,h3⟩
      · rw [hv.H i hi,renB_own] at ho
        rw [hv.σ i hi]
        rcases hf.fresh i ho with ⟨g1,g2⟩|g1
        · exact .inl ⟨ow i g1,g2⟩
        · exact .inr g1
      · rw [h2] at ho
        rw [h3]; exact .inl ⟨ho,rfl⟩
    · rcases cas j with ⟨i,hi,rfl⟩|⟨h1,h2,h3⟩
      · rw [hv.H i hi] at hl hve ⊢
        rw [hH i hi] at hve ⊢
        rw [renB_isM,renB_isM]
        exact hf.ism i hl hve
      · rw [h2]
  refine ⟨⟨hy.zlt,fun b j hb ho=>?_,fun j ho=>?_,fun j k hj hk he=>?_,hx.tab_of hF⟩,hF,hv⟩
  · rcases cas j with ⟨i,hi,rfl⟩|⟨h1,h2,h3⟩
    · rw [hv.H i hi,renB_own] at ho
      rw [hv.σ i hi]
      exact hy.zown b i hb ho
    · rw [h2] at ho
      rw [h3]
      rcases hf.zold b hb with h|h|⟨i,g1,g2⟩
      · exact hx.zown b j h ho
      · have:=hx.lt ho
        intro e
        have:x.w.heap.size≤b:=h
        omega
      · intro e
        exact h1 i (lt i g1) (hx.inj _ _ (ow i g1) ho (g2.trans e.symm))
  · rcases cas j with ⟨i,hi,rfl⟩|⟨h1,h2,h3⟩
    · have ho':=ho
      rw [hv.H i hi,renB_own] at ho'
      obtain ⟨cc,g1,g2,g3,g4⟩:=hy.blk i ho'
      rw [hv.H i hi,hv.σ i hi]
      refine ⟨cc,by rw [renB_obj]; exact g1,fun r hr=>?_,by simpa [renB] using g3,fun r row j v hr hj=>?_⟩
      · simp only [renB,List.mem_map] at hr
        obtain ⟨r',hr',rfl⟩:=hr
        rw [List.length_map]; exact g2 r' hr'
      · simp only [renB] at hr
        obtain ⟨row',q1,rfl⟩:=map_get hr
        obtain ⟨v',q2,rfl⟩:=map_get hj
        refine ren0_R hv ?_ (g4 r row' j v' q1 q2)
        have:=hloc i hi ho'
        simp only [locB,List.all_eq_true] at this
        exact this row' (List.mem_of_getElem? q1) v' (List.mem_of_getElem? q2)
    · have ho':=ho
      rw [h2] at ho'
      obtain ⟨cc,g1,g2,g3,g4⟩:=hx.blk j ho'
      rw [h2,h3]
      exact ⟨cc,by rw [show z.w.heap[x.σ j]?=x.w.heap[x.σ j]? from hko j ho' h1]; exact g1,g2,g3,fun r row j v hr hj=>(g4 r row j v hr hj).frame hx hF⟩
  · rcases cas j with ⟨i,hi,rfl⟩|⟨h1,h2,h3⟩
    · rw [hv.H i hi, renB_own] at hj
      rw [hv.σ i hi] at he
      rcases cas k with ⟨i',hi',rfl⟩|⟨k1,k2,k3⟩
      · rw [hv.H i' hi',renB_own] at hk
        rw [hv.σ i' hi'] at he
        rw [hy.inj i i' hj hk he]
      · rw [k2] at hk
        rw [k3] at he
        rcases hf.fresh i hj with ⟨g1,g2⟩|g1
        · exact absurd (hx.inj _ _ (ow i g1) hk (g2.symm.trans he)) (k1 i hi)
        · have:=hx.lt hk
          have:x.w.heap.size≤y.σ i:=g1
          omega
    · rw [h2] at hj
      rw [h3] at he
      rcases cas k with ⟨i',hi',rfl⟩|⟨k1,k2,k3⟩
      · rw [hv.H i' hi',renB_own] at hk
        rw [hv.σ i' hi'] at he
        rcases hf.fresh i' hk with ⟨g1,g2⟩|g1
        · exact absurd (hx.inj _ _ (ow i' g1) hj (g2.symm.trans he.symm)) (h1 i' hi')
        · have:=hx.lt hj
          have:x.w.heap.size≤y.σ i':=g1
          omega
      · rw [k2] at hk
        rw [k3] at he
        exact hx.inj j k hj hk he
end
inductive LOut where
  |ok (v:V) (HL:Heap)
  |pan (c:Value)
def LOut.at (n:Nat) (ρ:Nat→Nat) (H:Heap):LOut→Res
  | .ok v HL=>.ok v (putL ρ HL H n)
  | .pan c=>.pan c ((List.range n).map ρ)
def LocC (P:Program) (f n:Nat) (args:List V) (Hl:Heap) (out:LOut):Prop:=
  ∀ (H:Heap) (ρ:Nat→Nat),(∀ i j,i < n→j < n→ρ i=ρ j→i=j)→(∀ i,i < n→H (ρ i)=renB ρ (Hl i))→CallX P f (args.map (ren ρ)) H (out.at n ρ H)
def cut (n:Nat) (H:Heap):Heap:=fun j=>if j < n then H j else {H j with live:=false}
theorem cut_fin (n:Nat) (H:Heap):FinH H (cut n H):=fun j=>by
  unfold cut
  split
  · exact .refl _
  · exact .gone (Nat.le_refl _) rfl
def RetL (res:List SRes) (n:Nat) (out:LOut):Ex→(Nat→V)→Heap→Prop:=fun e T H=>match e with
  | .exit _=>False
  | .pan c=>out=.pan c
  |_=>onS (resT res T H) fun u=> ∃ v HL,out=.ok v HL∧v.pure=true∧FinV H (cut n H) u v∧ ∀ i,i < n→H i=HL i∧((HL i).own=true→locB n (HL i)=true)
section
variable {P:Program} {op:Opt} {k0:Nat}
theorem calls_of_WX {f : Nat} {fn : Func} {s : SF} (hf : P.funcs[f]? = some fn) (hs : slimF P op fn = some s) {x : Cx} {args : List V} {cs : List Value} {Q : Ex → (Nat → V) → Heap → Prop}
    {K:V→Heap→Prop} {Kp:Value→Heap→Prop} (hQ: ∀ e T H,Q e T H→match e with
      | .exit _=>False
      | .pan c=>Kp c H
      |_=>onS (resT s.res T H) fun v=>K v H)
    (hl:args.length≤s.n) (hW:W P k0 s.body Q (T0 args) x.H) (hx:Inv x) (hr:RL x args cs):
    Calls P f cs.toArray x.w fun e w'=> ∃ y,y.w=w'∧Inv y∧Frame x y∧((∃ c v,e=.returned c∧K v y.H∧R y v c)∨(∃ c,e=.panicked [{v:=c,recovered:=false}]∧Kp c y.H)):=by
  unfold slimF at hs
  split at hs
  · cases hs
  · rename_i c hc
    split at hs
    · rename_i sb r h1 h2
      cases hs
      refine calls_of_wp hf hc (wp_mono (W_sound c sb h1 _ x x (T0 args) _ hW hx (TRel_start hr hl) (Frame.refl x)) ?_)
      intro e a' w' hp
      obtain ⟨e',T',y,he,hw,hq,hy,hT',hF'⟩:=hp
      have hq:=hQ _ _ _ hq
      have fin:onS (resT r T' y.H) (fun v=>K v y.H)→a'.defers=[]∧ ∃ v,(results fn a'.tmps).run P w'=.ok v w'∧(∃ z:Cx,z.w=w'∧Inv z∧Frame x z∧((∃ c v',Ending.returned v=.returned c∧K v' z.H∧R z v' c)∨(∃ c,Ending.returned v=.panicked [{v:=c,recovered:=false}]∧Kp c z.H))):=by
        intro h
        obtain ⟨v,h3,h4⟩:=onS_iff.1 h
        obtain ⟨c,h5,h6⟩:=results_run h2 hy hT' h3
        exact ⟨hT'.defers,c,by rw [← hw]; exact h5,y,hw,hy,hF',.inl ⟨c,v,rfl,h4,h6⟩⟩
      cases e with
      |normal=>cases he; exact fin hq
      |ret=>cases he; exact fin hq
      |exit id=>cases he; exact hq.elim
      |goto l=>cases he
      | panic l =>
        simp only [exOf] at he
        split at he
        · rename_i c
          cases he
          exact ⟨hT'.defers,y,hw,hy,hF',.inr ⟨c,rfl,hq⟩⟩
        · cases he
      |outgrown=>cases he
    · cases hs
theorem loc_of_W {f : Nat} {fn : Func} {s : SF} (hf : P.funcs[f]? = some fn) (hs : slimF P op fn = some s) (hn : (fn.name == "runtime.NumGoroutine") = false) {n : Nat} {args : List V} {Hl : Heap} {out : LOut}
    (hl:args.length≤s.n) (ha:args.all (loc n)=true) (hHl: ∀ i,i < n→locB n (Hl i)=true) (hd: ∀ i,n≤i→(Hl i).own=false)
    (hW:bndL args=true→W P k0 s.body (RetL s.res n out) (T0 args) Hl):LocC P f n args Hl out:=by
  intro H ρ hρ hH
  have main: ∀ (x:Cx) (cs:List Value),x.H=H→Inv x→RL x (args.map (ren ρ)) cs→Calls P f cs.toArray x.w fun e w'=>
      (∃ c v HL y,out=.ok v HL∧e=.returned c∧y.w=w'∧y.H=putL ρ HL H n∧Inv y∧R y v c∧Frame x y)∨(∃ c y,out=.pan c∧e=.panicked [{v:=c,recovered:=false}]∧y.w=w'∧(∀ j,j∉(List.range n).map ρ→y.H j=H j)∧Inv y∧Frame x y):=by
    intro x cs hxH hx hr
    subst hxH
    have hI:=startL_ok hx hρ hH hHl hd
    have hr0:RL (startL x ρ Hl) args cs:=by
      refine ⟨by simpa using hr.1,fun j v hj=>?_⟩
      refine ren_R' (startL_view hH) (fun _ h=>h) (List.all_eq_true.1 ha v (List.mem_of_getElem? hj)) (hr.2 j _ (by rw [List.getElem?_map,hj]; rfl))
    refine (calls_of_WX (x:=startL x ρ Hl) (Q:=RetL s.res n out) (Kp:=fun c _=>out=.pan c) (K:=fun u H=> ∃ v HL,out=.ok v HL∧v.pure=true∧FinV H (cut n H) u v∧ ∀ i,i < n→H i=HL i∧((HL i).own=true→locB n (HL i)=true)) hf hs (fun e T H h=>?_) hl (hW hr0.bnd) hI hr0).mono fun e w' h=>?_
    · cases e <;> exact h
    obtain ⟨y,hw,hy,hF,h⟩:=h
    rcases h with ⟨c,u,he,⟨v,HL,ho,hvp,hfin,hHL⟩,hR⟩|⟨c,he,ho⟩
    · left
      obtain ⟨f1,f2⟩:=fin_step hy (cut_fin n y.H)
      have hR':=hfin y c rfl hy hR
      obtain ⟨b1,b2,b3⟩:=backL (y:=finC y (cut n y.H)) hx hρ hH hd (hF.trans f2) f1
        (fun i hi ho'=>by
          have e:(finC y (cut n y.H)).H i=y.H i:=by simp [finC,cut,hi]
          rw [e] at ho' ⊢
          rw [(hHL i hi).1] at ho' ⊢
          exact (hHL i hi).2 ho')
        (fun i hi=>by simp [finC,cut,Nat.not_lt.2 hi,Blk.own])
      generalize hY:finC y (cut n y.H)=Y at b1 b2 b3 hR'
      have hYH:Y.H=cut n y.H:=by rw [← hY]; rfl
      refine ⟨c,v,HL,{w:=Y.w,Z:=Y.Z,σ:=putS ρ Y.σ x.σ n,H:=putL ρ Y.H x.H n},ho,he,by rw [← hY]; exact hw,?_,b1,hR'.pure_at hvp rfl fun _ h=>h,b2⟩
      have: ∀ m,m≤n→putL ρ Y.H x.H m=putL ρ HL x.H m:=by
        intro m
        induction m with
        |zero=>intro _; rfl
        | succ m ih =>
          intro hm
          simp only [putL,ih (by omega)]
          congr 2
          have e:Y.H m=y.H m:=by rw [hYH]; simp [cut]; omega
          rw [e,(hHL m (by omega)).1]
      exact this n (Nat.le_refl n)
    · right
      have hall:FinH y.H fun j=>{y.H j with live:=false}:=fun j=>.gone (Nat.le_refl _) rfl
      obtain ⟨f1,f2⟩:=fin_step hy hall
      obtain ⟨b1,b2,b3⟩:=backL (y:=finC y fun j=>{y.H j with live:=false}) hx hρ hH hd (hF.trans f2) f1 (fun i hi ho'=>by simp [finC,Blk.own] at ho') (fun i hi=>by simp [finC,Blk.own])
      generalize hY:finC y (fun j=>{y.H j with live:=false})=Y at b1 b2 b3
      refine ⟨c,{w:=Y.w,Z:=Y.Z,σ:=putS ρ Y.σ x.σ n,H:=putL ρ Y.H x.H n},ho,he,by rw [← hY]; exact hw,fun j hj=>?_,b1,b2⟩
      refine putL_ne fun i hi e=>hj ?_
      exact List.mem_map.2 ⟨i,List.mem_range.2 hi,e⟩
  have hcl:=callable_of hf hs hn
  cases ho:out with
  | ok v HL =>
    refine ⟨hcl,fun x cs h1 h2 h3=>(main x cs h1 h2 h3).mono fun e w' h=>?_⟩
    rcases h with ⟨c,v',HL',y,e1,e2,e3,e4,e5,e6,e7⟩|⟨c,y,e1,_⟩
    · rw [ho] at e1; cases e1; exact ⟨c,y,e2,e3,e4,e5,e6,e7⟩
    · rw [ho] at e1; cases e1
  | pan c =>
    refine ⟨hcl,fun x cs h1 h2 h3=>(main x cs h1 h2 h3).mono fun e w' h=>?_⟩
    rcases h with ⟨c',v',HL',y,e1,_⟩|⟨c',y,e1,e2,e3,e4,e5,e6⟩
    · rw [ho] at e1; cases e1
    · rw [ho] at e1; cases e1; exact ⟨y,e2,e3,e4,e5,e6⟩
end
end Go.Proofs.YteehaobohaecmaaGreatDoor
namespace Go.Proofs.YteehaobohaecmaaGreatDoor
open Go
section
variable {P:Program} {k0 d:Nat} {r:List SO} {T:Nat→V} {H:Heap} {K:(Nat→V)→Heap→Prop} {a b c:SX} {v:V}
theorem R_idxu {α:Type} [Inhabited α] {e:Nat} {l:List α} {f:α→List V} {k:IntKind} {i:Nat} {cs:List V} (ha:ev T a=.sl (l.map f)) (hb:ev T b=.int k (i:Nat)) (hi:i < l.length) (hu:f (nth l i)=cs) (he:cs.length=e)
    (h:Ops P k0 r (upd T d (.pp cs)) H K):Ops P k0 (⟨none,some d,.idx e a b⟩::r) T H K:=
  R_idx ha hb hi (by rw [hu]; exact he) (by rw [hu]; exact h)
variable {k:IntKind} {x y:Int}
variable {s t:List UInt8}
abbrev cS (s:List UInt8):List V:=[.str s]
theorem R_sadd (ha:ev T a=.str s) (hb:ev T b=.str t) (hl:s.length+t.length≤9223372036854775807) (h:Ops P k0 r (upd T d (.str (s++t))) H K):Ops P k0 (⟨none,some d,.sbin .add a b⟩::r) T H K:=by
  refine stp (v:=.str (s++t)) (fun _=>rfl) ?_ h
  rw [ha,hb]; simp only [strBin,if_pos hl]
end
def hpB (b:Blk):Heap:=upd H0 0 b
section
variable {P:Program} {k0 f:Nat} {Q:Ex→(Nat→V)→Heap→Prop} {T:Nat→V} {H:Heap} {d:Option Nat} {r:SC} {i:Nat} {asq asq':List V} {args:List SX} {b b' b1 b1':Blk} {v:V} {c:Value} {out:LOut}
theorem one_inj (i:Nat): ∀ j k,j < 1→k < 1→(fun _:Nat=>i) j=(fun _:Nat=>i) k→j=k:=fun j k h1 h2 _=>by omega
theorem hpB_at (h:b1=renB (fun _=>i) b) (hb:H i=b1): ∀ j,j < 1→H ((fun _:Nat=>i) j)=renB (fun _=>i) (hpB b j):=fun j hj=>by
  have:j=0:=by omega
  subst this
  show H i=_
  rw [hb,h]; rfl
theorem LocC.use1 (hc:LocC P f 1 asq (hpB b) (.ok v (hpB b'))) (ha:asq.map (ren fun _=>i)=asq') (hb:H i=b1) (h1:b1=renB (fun _=>i) b) (h2:b1'=renB (fun _=>i) b'):CallOK P f asq' H v (upd H i b1'):=by
  subst ha; subst h2
  exact hc H (fun _=>i) (one_inj i) (hpB_at h1 hb)
theorem W_seq_blockgP {id:Nat} {a r:SC} (h: ∀ Q':Ex→(Nat→V)→Heap→Prop,(∀ T H,G (W P k0 r Q) T H→Q' .norm T H)→(∀ T H,G (W P k0 r Q) T H→Q' (.exit id) T H)→(∀ T H,Q .ret T H→Q' .ret T H)→
    (∀ n T H,n≠id→Q (.exit n) T H→Q' (.exit n) T H)→(∀ c T H,Q (.pan c) T H→Q' (.pan c) T H)→W P k0 a Q' T H):W P k0 (.seq (.block id a) r) Q T H:=by
  simp only [W]
  refine h _ (fun T H h=>h) (fun T H h=>?_) (fun T H h=>h) (fun n T H hn h=>?_) (fun c T H h=>h)
  · simp only [if_true]; exact h
  · simp only [if_neg hn]; exact h
theorem lW {op:Opt} {fn:Func} {s:SF} {B:Prop} (hf:P.funcs[f]?=some fn) (hs:slimF P op fn=some s)
    (hW : B → W P k0 s.body (RetL s.res 1 out) (T0 asq) (hpB b)) (hn : (fn.name == "runtime.NumGoroutine") = false := by kernel_rfl)
    (hl:Nat.ble asq.length s.n=true:=by rfl) (ha:asq.all (loc 1)=true:=by simp [loc,loc0]) (hlb:locB 1 b=true:=by simp [locB,loc0])
    (hb:bndL asq=true→B:=by intro hB; first|(simp only [bnd_map,bnd_int,bnd_bool,bnd_str,bnd_agg,bnd_pp,bnd_nil,bnd_cons,implies_true,and_true,true_and] at hB; exact hB)|exact (fun _=>trivial) hB):LocC P f 1 asq (hpB b) out:=
  loc_of_W hf hs hn (Nat.le_of_ble_eq_true hl) ha (fun i hi=>by
    have:i=0:=by omega
    subst this; exact hlb) (fun i hi=>by
    have:hpB b i=H0 i:=upd_ne _ _ (by omega)
    rw [this]; rfl) fun h=>hW (hb h)
variable {res:List SRes} {HL:Heap}
theorem RetL_ok {u:V} (hr:resT res T H=some u) (ho:out=.ok v (hpB b)) (hp':v.pure=true) (hf:FinV H (cut 1 H) u v) (hb:H 0=b) (hlb:locB 1 b=true):RetL res 1 out .ret T H:=by
  simp only [RetL,hr,onS_some]
  refine ⟨v,hpB b,ho,hp',hf,fun i hi=>?_⟩
  have:i=0:=by omega
  subst this
  exact ⟨by rw [hb]; rfl,fun _=>hlb⟩
theorem resT1 {s1:SRes} {u:V} (h1:resV T H s1=some u):resT [s1] T H=some u:=by simp only [resT,mapO,h1]
end
end Go.Proofs.YteehaobohaecmaaGreatDoor
namespace Go.Proofs.YteehaobohaecmaaGreatDoor
open Go
theorem fz_fnM {z:Bool} {H:Heap} {n f id ver ty sz:Nat} {cells:List V} (hH:H id=bk ver ty sz [cells]) (hc:canonL cells=true):fzv z H (n+2) (.fn f [] [.mp id ver 0 0])=.fn f [] [.pp cells]:=by
  simp only [fzv,hH,Blk.own,List.map_nil,List.map_cons]
  simp [fzv_mapcanon _ _ hc]
theorem R_nil1 {x:Cx} {c:Value} (h:R x (.sl [[.nilsl]]) c):R x (.sl [[.sl []]]) c:=by
  cases h with
  |sl _ a cap sz cs hc hm hz hsz hcell h=>
  refine .sl [[.sl []]] a cap sz cs hc hm (fun _=>hz (by simp)) (fun r hr=>by rw [List.mem_singleton.1 hr]; exact hsz [V.nilsl] (List.mem_singleton.2 rfl)) (fun r row j v h1 h2=>?_) fun r row j v h1 h2=>?_
  · match r,j,h1,h2 with
    |0,0,h1,h2=>exact hcell 0 _ 0 _ rfl rfl
    |0,j+1,h1,h2=>simp at h1; subst h1; simp at h2
    |r+1,_,h1,_=>simp at h1
  · match r,j,h1,h2 with
    | 0, 0, h1, h2 =>
      simp at h1; subst h1; simp at h2; subst h2
      have:=h 0 _ 0 _ rfl rfl
      generalize cs (0*sz+0)=cv at this ⊢
      generalize hq:V.nilsl=q at this
      cases this <;> cases hq
      exact .slnil
    |0,j+1,h1,h2=>simp at h1; subst h1; simp at h2
    |r+1,_,h1,_=>simp at h1
theorem G_nil1 {K:(Nat→V)→Heap→Prop} {T:Nat→V} {H:Heap} {i:Nat} (ht:T i=.sl [[.nilsl]]) (h:G K (upd T i (.sl [[.sl []]])) H):G K T H:=
  .slot i _ (fun x c _ _ hr=>R_nil1 (by rw [ht] at hr; exact hr)) h
end Go.Proofs.YteehaobohaecmaaGreatDoor
namespace Go.Proofs.YteehaobohaecmaaGreatDoor
open Go
def mlookB (B : Blk) (ver kd : Nat) (z key : V) : Option (V × Bool) :=
  if (B.own && decide (B.ver = ver) && B.isM && decide (B.sz = 2) && isKey kd key) = true then match B.rows with
    | _ :: es => match findV kd key es 0 with
      |some (some (_,v))=>some (v,true)
      |some none=>some (z,false)
      |none=>none
    |[]=>none
  else none
def msetB (B : Blk) (ver kd : Nat) (key val : V) : Option Blk :=
  if (B.own && decide (B.ver = ver) && B.isM && decide (B.sz = 2) && isKey kd key) = true then match B.rows with
    | h :: es => match findV kd key es 0 with
      |some (some (i,_))=>some {B with rows:=h::es.set i [key,val]}
      |some none=>some {B with rows:=h::(es++[[key,val]])}
      |none=>none
    |[]=>none
  else none
section
variable {P:Program} {k0:Nat} {r:List SO} {T:Nat→V} {H:Heap} {K:(Nat→V)→Heap→Prop} {d:Nat} {a b c:SX} {v:V}
theorem R_mkmap {i n:Nat} {rows:List (List V)} (hi:k0+d=i) (hv:(H i).ver=n) (hr:rows=[[.nilp,.nilp]]) (h:Ops P k0 r (upd T d (.mm i (n+1))) (upd H i (⟨n+1,true,true,mapH,2,rows⟩:Blk)) K):Ops P k0 (⟨none,some d,.mkmap⟩::r) T H K:=by
  subst hi; subst hv; subst hr; exact h
theorem R_mlook1 {id ver kd:Nat} {z key u:V} {B:Blk} {f:Bool} (ha:ev T a=.mm id ver) (hb:ev T b=key) (hH:H id=B) (hl:mlookB B ver kd z key=some (u,f)) (h:Ops P k0 r (upd T d u) H K):
    Ops P k0 (⟨none,some d,.mlook kd false z a b⟩::r) T H K:=by
  subst hH; subst hb
  simp only [Ops,St]
  refine on_some (x:=(u,f)) ?_ h
  rw [ha]; exact hl
theorem mset_up {id ver kd : Nat} {key val : V} {B' : Blk} (h : msetB (H id) ver kd key val = some B') : msetV H kd (.mm id ver) key val = some (upd H id B') := by
  unfold msetB at h
  unfold msetV
  simp only
  by_cases hc:((H id).own&&decide ((H id).ver=ver)&&(H id).isM&&decide ((H id).sz=2)&&isKey kd key)=true
  · rw [if_pos hc] at h ⊢
    cases hr:(H id).rows with
    |nil=>rw [hr] at h; cases h
    | cons e es =>
      rw [hr] at h
      simp only at h ⊢
      cases hf:findV kd key es 0 with
      |none=>rw [hf] at h; cases h
      | some o =>
        rw [hf] at h
        cases o with
        |none=>cases h; rfl
        |some p=>cases h; rfl
  · rw [if_neg hc] at h; cases h
theorem R_mset {id ver kd:Nat} {key val:V} {B B':Blk} (ha:ev T a=.mm id ver) (hb:ev T b=key) (hc:ev T c=val) (hH:H id=B) (hl:msetB B ver kd key val=some B') (h:Ops P k0 r T (upd H id B') K):
    Ops P k0 (⟨none,none,.mset kd a b c⟩::r) T H K:=by
  subst hH; subst hb; subst hc
  simp only [Ops,St]
  refine on_some (x:=upd H id B') ?_ h
  rw [ha]; exact mset_up hl
end
section
variable {ver:Nat} {z:V} {t:List UInt8} {es:List (List UInt8×V)}
end
end Go.Proofs.YteehaobohaecmaaGreatDoor
namespace Go.Proofs.YteehaobohaecmaaGreatDoor
open Go
section
variable {P:Program} {k0:Nat} {r:List SO} {T:Nat→V} {H:Heap} {K:(Nat→V)→Heap→Prop} {d:Nat} {a b c:SX} {v:V}
end
end Go.Proofs.YteehaobohaecmaaGreatDoor
namespace Go.Proofs.YteehaobohaecmaaGreatDoor
open Go
theorem nz_one {K:(Nat→V)→Heap→Prop} {T:Nat→V} {H:Heap} {id ver ty sz:Nat} {lz:Bool} {r r':List V} (hH:H id=⟨ver,true,lz,ty,sz,[r]⟩) (hr:r.map nz=r')
    (h:G K T (upd H id ⟨ver,true,lz,ty,sz,[r']⟩)):G K T H:=
  nzs_map (rows:=[r]) (i:=0) (r:=r) hH (Nat.zero_lt_one) hr h
end Go.Proofs.YteehaobohaecmaaGreatDoor
namespace Go.Proofs.YteehaobohaecmaaGreatDoor
open Go
section
variable {P:Program} {k0:Nat} {Q:Ex→(Nat→V)→Heap→Prop} {T:Nat→V} {H:Heap}
theorem W_seq_blockJ {id:Nat} {a r:SC} (J:(Nat→V)→Heap→Prop) (h1: ∀ Q':Ex→(Nat→V)→Heap→Prop,(∀ T H,J T H→Q' .norm T H)→(∀ T H,J T H→Q' (.exit id) T H)→(∀ T H,Q .ret T H→Q' .ret T H)→
    (∀ n T H,n≠id→Q (.exit n) T H→Q' (.exit n) T H)→W P k0 a Q' T H) (h2: ∀ T H,J T H→W P k0 r Q T H):W P k0 (.seq (.block id a) r) Q T H:=
  W_seq_blockg fun Q' n x y z=>h1 Q' (fun T H hJ=>n T H (.done (h2 T H hJ))) (fun T H hJ=>x T H (.done (h2 T H hJ))) y z
end
end Go.Proofs.YteehaobohaecmaaGreatDoor
namespace Go.Proofs.YteehaobohaecmaaGreatDoor
open Go
def keyP (p:Int×List UInt8):V:=.agg [iV p.1,.str p.2]
def entS (l:List (Int×List UInt8)):List (List V):=[.nilp,.nilp]::l.map fun p=>[keyP p,.bool true]
theorem keyP_eq (p q:Int×List UInt8):keyEq 12 (keyP p) (keyP q)=some (decide (p=q)):=by
  show eqCells (decK 300 9) _ _=_
  rw [show decK 300 9=[0,1] by decide]
  obtain ⟨a,b⟩:=p
  obtain ⟨c,d⟩:=q
  simp only [eqCells,if_true,Option.map_some]
  congr 1
  refine Bool.eq_iff_iff.2 ?_
  simp [iV]
theorem isKeyP (p:Int×List UInt8):isKey 12 (keyP p)=true:=by
  show (eqCells (decK 300 9) _ _==some true)=true
  have:=keyP_eq p p
  rw [decide_eq_true rfl] at this
  rw [show eqCells (decK 300 9) [iV p.1,.str p.2] [iV p.1,.str p.2]=some true from this]; rfl
theorem findS (k:Int×List UInt8): ∀ (l:List (Int×List UInt8)) (i:Nat),∃ j,findV 12 (keyP k) (l.map fun p=>[keyP p,.bool true]) i=some (if k∈l then some (j,.bool true) else none)
  |[],i=>⟨0,rfl⟩
  | p :: l, i => by
    by_cases e:k=p
    · refine ⟨i,?_⟩
      rw [List.map_cons,findV,keyP_eq,decide_eq_true e,if_pos (by rw [e]; exact List.mem_cons_self ..)]
    · obtain ⟨j,h⟩:=findS k l (i+1)
      refine ⟨j,?_⟩
      rw [List.map_cons,findV,keyP_eq,decide_eq_false e]
      simp only
      rw [h]
      by_cases q:k∈l
      · rw [if_pos q,if_pos (List.mem_cons_of_mem _ q)]
      · rw [if_neg q,if_neg (fun h=>(List.mem_cons.1 h).elim e q)]
section
variable {ver:Nat} {k:Int×List UInt8} {l:List (Int×List UInt8)}
theorem lookS:mlookB ⟨ver,true,true,mapH,2,entS l⟩ ver 12 (.bool false) (keyP k)=some (.bool (decide (k∈l)),decide (k∈l)):=by
  obtain ⟨j,h⟩:=findS k l 0
  unfold mlookB
  rw [if_pos (by simp [Blk.own,Blk.isM,mapH,entS,isKeyP])]
  simp only [entS]
  rw [h]
  by_cases q:k∈l
  · rw [if_pos q]; simp [q]
  · rw [if_neg q]; simp [q]
theorem setS (h:k∉l):msetB ⟨ver,true,true,mapH,2,entS l⟩ ver 12 (keyP k) (.bool true)=some ⟨ver,true,true,mapH,2,entS (l++[k])⟩:=by
  obtain ⟨j,g⟩:=findS k l 0
  unfold msetB
  rw [if_pos (by simp [Blk.own,Blk.isM,mapH,entS,isKeyP])]
  simp only [entS]
  rw [g,if_neg h]
  simp
end
end Go.Proofs.YteehaobohaecmaaGreatDoor
namespace Go.Proofs.YteehaobohaecmaaGreatDoor
open Go
section
variable {P:Program} {k0 d:Nat} {r:List SO} {T:Nat→V} {H:Heap} {K:(Nat→V)→Heap→Prop} {a b:SX} {x y:Int} {s t:List UInt8}
theorem R_aeqS (ha:ev T a=.agg [iV x,.str s]) (hb:ev T b=.agg [iV y,.str t]) (h:Ops P k0 r (upd T d (.bool (decide (x=y∧s=t)))) H K):Ops P k0 (⟨none,some d,.abin false [0,1] a b⟩::r) T H K:=by
  refine stp (v:=.bool (decide (x=y∧s=t))) (fun _=>rfl) ?_ h
  rw [ha,hb]; simp only [aggBin,eqCells,if_true,Option.map_some,Bool.false_eq_true,if_false,onS_some]
  by_cases e:x=y <;> by_cases e2:s=t <;> simp [e,e2]
end
end Go.Proofs.YteehaobohaecmaaGreatDoor
namespace Go.Proofs.YteehaobohaecmaaGreatDoor
open Go Go.Proofs
def r7_1:List SO:=[
 qL 13 4 2,
 qL 14 3 3,
 sO 15 (.call false 21 [.t 13,.t 14]),
 sO 16 (.un .not (.t 15)),
 qM 17 16,
 ⟨some (17,false),some 18,.load true 3 (.t 3)⟩,
 ⟨some (17,false),some 19,.call false 28 [.t 18]⟩,
 ⟨some (17,false),some 20,.bin .neq (.t 19) (.c (.int .i64 0))⟩,
 sO 21 (.pick (.t 17) (.c (.bool true)) (.t 20))]
def r7_3:List SO:=[
 qL 24 3 3,
 sO 25 (.call false 29 [.t 24]),
 qM 23 25,
 qE 26 23 0,
 qE 27 23 1,
 sO 5 (.alloc 24 [.int .i64 0,.int .i64 0,.nilsl]),
 sN (.store 3 (.t 5) (.t 26)),
 qM 6 27]
def r7_6:List SO:=[
 qL 32 4 2,
 qL 33 3 3,
 sO 34 (.call false 23 [.t 32,.t 33]),
 qM 31 34,
 qE 35 31 0,
 qE 36 31 1,
 qE 37 31 2,
 sO 7 (.alloc 54 [.nilsl,.nilsl]),
 sN (.store 2 (.t 7) (.t 35)),
 qM 8 36,
 qM 9 37]
def r7_7:List SO:=[
 qL 39 4 2,
 qL 40 3 5,
 sO 41 (.call false 23 [.t 39,.t 40]),
 qM 38 41,
 qE 42 38 0,
 qE 43 38 1,
 qE 44 38 2,
 sO 10 (.alloc 54 [.nilsl,.nilsl]),
 sN (.store 2 (.t 10) (.t 42)),
 qM 11 43,
 qM 12 44]
def r7_10:List SO:=[
 qM 52 8,
 qM 53 52,
 ⟨some (53,true),some 54,.fld 0 (.t 7)⟩,
 ⟨some (53,true),some 55,.load false 1 (.t 54)⟩,
 ⟨some (53,true),some 56,.len (.t 55)⟩,
 ⟨some (53,true),some 57,.bin .eql (.t 56) (.c (.int .i64 0))⟩,
 sO 58 (.pick (.t 53) (.t 57) (.c (.bool false))),
 qM 59 11,
 qM 60 59,
 ⟨some (60,true),some 61,.fld 0 (.t 10)⟩,
 ⟨some (60,true),some 62,.load false 1 (.t 61)⟩,
 ⟨some (60,true),some 63,.len (.t 62)⟩,
 ⟨some (60,true),some 64,.bin .eql (.t 63) (.c (.int .i64 0))⟩,
 sO 65 (.pick (.t 60) (.t 64) (.c (.bool false))),
 sO 66 (.bbin .neq (.t 58) (.t 65)),
 qM 67 66,
 ⟨some (67,true),some 68,.call false 22 []⟩,
 sO 69 (.pick (.t 67) (.t 68) (.c (.bool false))),
 qM 4 69]
def s7:SF:=⟨70,[.tmp 4],.seq (.reg [sO 2 (.box 50 4 (.t 0)),sO 3 (.box 24 3 (.t 1)),sO 4 (.mv (.c (.bool false)))]) (.seq (.seq (.reg r7_1) (.cond (.t 21) (.seq (.reg [sO 22 (.call false 22 []),qM 4 22]) (.ret)) (.skip))) (.seq (.reg r7_3) (.seq (.seq (.reg [qM 28 6,qC 29 .neq 28 0]) (.cond (.t 29) (.seq (.reg [sO 30 (.call false 22 []),qM 4 30]) (.ret)) (.skip))) (.seq (.reg r7_6) (.seq (.reg r7_7) (.seq (.seq (.reg [qM 45 9,qC 46 .neq 45 0,qM 47 46,⟨some (47,false),some 48,.mv (.t 12)⟩,⟨some (47,false),some 49,.bin .neq (.t 48) (.c (.int .i64 0))⟩,sO 50 (.pick (.t 47) (.c (.bool true)) (.t 49))]) (.cond (.t 50) (.seq (.reg [sO 51 (.call false 22 []),qM 4 51]) (.ret)) (.skip))) (.seq (.reg r7_10) (.ret))))))))⟩
theorem s7_ok:slimF Tryz.prog ⟨[51,59,84,90,97,109,153,154,155,160],[],[],[]⟩ Tryz.f7=some s7:=by kernel_rfl
def r21_1:List SO:=[
 qF 5 2 2,
 ql 6 5,
 qN 7 6,
 qC 8 .leq 7 8,
 qM 9 8,
 ⟨some (9,true),some 10,.fld 3 (.t 2)⟩,
 ⟨some (9,true),some 11,.load false 1 (.t 10)⟩,
 ⟨some (9,true),some 12,.len (.t 11)⟩,
 ⟨some (9,true),some 13,.bin .leq (.t 12) (.c (.int .i64 8))⟩,
 sO 14 (.pick (.t 9) (.t 13) (.c (.bool false))),
 qM 15 14,
 ⟨some (15,true),some 16,.fld 0 (.t 2)⟩,
 ⟨some (15,true),some 17,.load false 1 (.t 16)⟩,
 ⟨some (15,true),some 18,.bin .leq (.t 17) (.c (.int .i64 4))⟩,
 sO 19 (.pick (.t 15) (.t 18) (.c (.bool false))),
 qM 20 19,
 ⟨some (20,true),some 21,.load true 3 (.t 3)⟩,
 ⟨some (20,true),some 22,.call false 47 [.t 21,.c (.int .i64 0)]⟩,
 ⟨some (20,true),some 23,.bin .leq (.t 22) (.c (.int .i64 12))⟩,
 sO 24 (.pick (.t 20) (.t 23) (.c (.bool false))),
 qM 4 24]
def s21:SF:=⟨25,[.tmp 4],.seq (.reg [sO 2 (.box 50 4 (.t 0)),sO 3 (.box 24 3 (.t 1)),sO 4 (.mv (.c (.bool false)))]) (.seq (.reg r21_1) (.ret))⟩
theorem s21_ok:slimF Tryz.prog ⟨[51,59,84,90,97,109,153,154,155,160],[],[],[]⟩ Tryz.f21=some s21:=by kernel_rfl
def r47_1:List SO:=[
 qM 7 1,
 qC 8 .gtr 7 20,
 qM 9 8,
 ⟨some (9,false),some 10,.fld 2 (.t 2)⟩,
 ⟨some (9,false),some 11,.load false 1 (.t 10)⟩,
 ⟨some (9,false),some 12,.len (.t 11)⟩,
 ⟨some (9,false),some 13,.bin .gtr (.t 12) (.c (.int .i64 50))⟩,
 sO 14 (.pick (.t 9) (.c (.bool true)) (.t 13))]
def r47_7:List SO:=[
 qM 22 5,
 qF 23 2 2,
 ql 24 23,
 qM 25 6,
 qA 26 3 24 25,
 qL 27 3 26,
 qM 28 1,
 qC 29 .add 28 1,
 sO 30 (.call false 47 [.t 27,.t 29]),
 qP 31 .add 22 30,
 qM 5 31]
def b47_0:SC:=.seq (.seq (.reg [qM 15 6,qF 16 2 2,ql 17 16,qN 18 17,qP 19 .lss 15 18]) (.cond (.t 19) (.skip) (.exit 0))) (.seq (.block 1 (.seq (.reg r47_7) (.seq (.reg [qM 32 5,qC 33 .gtr 32 1000]) (.cond (.t 33) (.seq (.reg [qI 4 1000]) (.ret)) (.skip))))) (.reg [qM 20 6,qC 21 .add 20 1,qM 6 21]))
def s47:SF:=⟨35,[.tmp 4],.seq (.reg [sO 2 (.box 24 3 (.t 0)),qI 4 0]) (.seq (.seq (.reg r47_1) (.cond (.t 14) (.seq (.reg [qI 4 1000]) (.ret)) (.skip))) (.seq (.reg [qI 5 1]) (.seq (.seq (.reg [qI 6 0]) (.block 0 (.loop b47_0))) (.seq (.reg [qM 34 5,qM 4 34]) (.ret)))))⟩
theorem s47_ok:slimF Tryz.prog ⟨[51,59,84,90,97,109,153,154,155,160],[],[],[]⟩ Tryz.f47=some s47:=by kernel_rfl
end Go.Proofs.YteehaobohaecmaaGreatDoor
namespace Go.Proofs.YteehaobohaecmaaGreatDoor
open Go
inductive Fm where
  |nd (op arg:Int) (kids:List Fm)
instance:Inhabited Fm:=⟨.nd 0 0 []⟩
def Fm.op:Fm→Int| .nd o _ _=>o
def Fm.arg:Fm→Int| .nd _ a _=>a
def Fm.kids:Fm→List Fm| .nd _ _ k=>k
theorem Fm.eta (f:Fm):Fm.nd f.op f.arg f.kids=f:=by cases f; rfl
mutual
def cF:Fm→List V
  | .nd o a k=>[iV o,iV a,.sl (cFs k)]
def cFs:List Fm→List (List V)
  |[]=>[]
  |f::l=>cF f::cFs l
end
theorem cFs_map: ∀ l:List Fm,cFs l=l.map cF
  |[]=>rfl
  |f::l=>by rw [cFs,cFs_map l]; rfl
theorem cF_eq (f:Fm):cF f=[iV f.op,iV f.arg,.sl (f.kids.map cF)]:=by
  cases f with
  |nd o a k=>rw [cF,cFs_map]; rfl
mutual
theorem pureL_cF: ∀ f:Fm,pureL (cF f)=true
  | .nd o a k=>by rw [cF]; simp [pureL,V.pure,pureLL_cFs k]
theorem pureLL_cFs: ∀ l:List Fm,pureLL (cFs l)=true
  |[]=>rfl
  |f::l=>by rw [cFs,pureLL,pureL_cF f,pureLL_cFs l]; rfl
end
mutual
theorem canonL_cF: ∀ f:Fm,canonL (cF f)=true
  | .nd o a k=>by rw [cF]; simp [canonLL_cFs k]
theorem canonLL_cFs: ∀ l:List Fm,canonLL (cFs l)=true
  |[]=>by simp [cFs]
  |f::l=>by rw [cFs,canonLL_cons,canonL_cF f,canonLL_cFs l]; rfl
end
attribute [simp] pureL_cF canonL_cF
@[simp] theorem pureLL_mF (l:List Fm):pureLL (l.map cF)=true:=by rw [← cFs_map]; exact pureLL_cFs l
@[simp] theorem canonLL_mF (l:List Fm):canonLL (l.map cF)=true:=by rw [← cFs_map]; exact canonLL_cFs l
theorem cF_len (f:Fm):(cF f).length=3:=by rw [cF_eq]; rfl
theorem cF_one (f:Fm):(cF f).all V.one=true:=by rw [cF_eq]; rfl
theorem sl_F1 {u:V} {x:Fm} (h:u=.sl [[iV x.op,iV x.arg,.sl (x.kids.map cF)]]):u=.sl ([x].map cF):=by rw [h]; simp [cF_eq x]
theorem sl_F2 {u:V} {x y:Fm} (h:u=.sl [[iV x.op,iV x.arg,.sl (x.kids.map cF)],[iV y.op,iV y.arg,.sl (y.kids.map cF)]]):u=.sl ([x,y].map cF):=by rw [h]; simp [cF_eq x,cF_eq y]
theorem row_F1 {u:V} {x:Fm} (h:u=.sl [[iV x.op,iV x.arg,.sl (x.kids.map cF)]]):u=.sl [cF x]:=by rw [h,cF_eq x]
@[simp] theorem canonLL_strs (l:List (List UInt8)):canonLL (l.map cS)=true:=canonLL_map _ _ fun a=>by simp [cS]
mutual
def Fm.sz:Fm→Nat
  | .nd _ _ k=>Fm.szs k+1
def Fm.szs:List Fm→Nat
  |[]=>0
  |f::l=>f.sz+Fm.szs l
end
theorem Fm.szs_nth: ∀ {l:List Fm} {k:Nat},k < l.length→(nth l k).sz≤Fm.szs l
  |[],k,h=>absurd h (Nat.not_lt_zero k)
  |f::l,0,_=>by show f.sz≤_; rw [Fm.szs]; omega
  | f :: l, k + 1, h => by
    have:=Fm.szs_nth (l:=l) (k:=k) (by simpa using h)
    show (nth l k).sz≤_
    rw [Fm.szs]; omega
theorem Fm.sz_kid {f:Fm} {k:Nat} (h:k < f.kids.length):(nth f.kids k).sz < f.sz:=by
  cases f with
  | nd o a l =>
    have:=Fm.szs_nth (l:=l) h
    rw [Fm.sz]; show (nth l k).sz < _; omega
def kLo (o:Int):Int:=if o=4∨o=7∨o=9 then 1 else if o=8∨o=10 then 2 else if o=5∨o=6 then 2 else 0
def kHi (o:Int):Int:=if o=4∨o=7∨o=9 then 1 else if o=8∨o=10 then 2 else if o=5∨o=6 then -1 else 0
def rgt (f:Fm):Int:=
  if f.op < 1∨10 < f.op∨(f.kids.length:Int) < kLo f.op∨(0≤kHi f.op∧kHi f.op < f.kids.length)∨(¬(f.op=2∨f.op=3)∧f.arg≠0) then 1
  else if (f.op=2∧(f.arg < 0∨64≤f.arg))∨(f.op=3∧(f.arg < 0∨1048576 < f.arg)) then 2 else 0
mutual
def exm:Fm→Int→Int→Int×Int
  | .nd o a k,lv,b=>if 4096 < b+1 then (b+1,11) else if 64 < lv then (b+1,16) else if rgt (.nd o a k)≠0 then (b+1,rgt (.nd o a k)) else exmL k (lv+1) (b+1)
def exmL:List Fm→Int→Int→Int×Int
  |[],_,n=>(n,0)
  |f::l,lv,n=>if (exm f lv n).2≠0 then exm f lv n else exmL l lv (exm f lv n).1
end
theorem exm_eq (f:Fm) (lv b:Int):exm f lv b=if 4096 < b+1 then (b+1,11) else if 64 < lv then (b+1,16) else if rgt f≠0 then (b+1,rgt f) else exmL f.kids (lv+1) (b+1):=by
  cases f; rw [exm]; rfl
def fval (f:Fm):Int:=(exm f 1 0).2
theorem exmL_yes {l:List Fm} {lv n:Int} {k:Nat} (h:k < l.length) (he:(exm (nth l k) lv n).2≠0):exmL (l.drop k) lv n=exm (nth l k) lv n:=by rw [nth_drop h,exmL,if_pos he]
theorem exmL_no {l:List Fm} {lv n:Int} {k:Nat} (h:k < l.length) (he: ¬(exm (nth l k) lv n).2≠0):exmL (l.drop k) lv n=exmL (l.drop (k+1)) lv (exm (nth l k) lv n).1:=by rw [nth_drop h,exmL,if_neg he]
theorem exmL_end {l:List Fm} {lv n:Int} {k:Nat} (h:l.length≤k):exmL (l.drop k) lv n=(n,0):=by rw [List.drop_eq_nil_of_le h,exmL]
mutual
theorem exm_rng : ∀ (f : Fm) (lv b : Int), (exm f lv b).1 ≥ b + 1 ∧ ((exm f lv b).2 = 0 → (exm f lv b).1 ≤ 4096)
  | .nd o a k, lv, b => by
    rw [exm]
    split
    · exact ⟨by simp,fun h=>by simp at h⟩
    · split
      · exact ⟨by simp,fun h=>by simp at h⟩
      · split
        · rename_i h; exact ⟨by simp,fun h'=>absurd h' h⟩
        · have:=exmL_rng k (lv+1) (b+1) (by omega)
          exact ⟨this.1,this.2⟩
theorem exmL_rng: ∀ (l:List Fm) (lv n:Int),n≤4096→(exmL l lv n).1≥n∧((exmL l lv n).2=0→(exmL l lv n).1≤4096)
  |[],lv,n,h=>by rw [exmL]; exact ⟨Int.le_refl _,fun _=>h⟩
  | f :: l, lv, n, h => by
    have h1:=exm_rng f lv n
    rw [exmL]
    split
    · rename_i he; exact ⟨by omega,fun h'=>absurd h' he⟩
    · rename_i he
      have he':(exm f lv n).2=0:=by omega
      have h2:=exmL_rng l lv (exm f lv n).1 (h1.2 he')
      exact ⟨by omega,h2.2⟩
end
mutual
def sameF:Fm→Fm→Bool
  | .nd o a k,.nd o' a' k'=>decide (o=o')&&decide (a=a')&&decide (k.length=k'.length)&&sameL k k'
def sameL:List Fm→List Fm→Bool
  |f::l,g::m=>sameF f g&&sameL l m
  |_,_=>true
end
theorem sameF_eq (f g:Fm):sameF f g=(decide (f.op=g.op)&&decide (f.arg=g.arg)&&decide (f.kids.length=g.kids.length)&&sameL f.kids g.kids):=by cases f; cases g; rw [sameF]; rfl
theorem sameL_yes {l m:List Fm} {k:Nat} (h1:k < l.length) (h2:k < m.length) (h:sameF (nth l k) (nth m k)=true):sameL (l.drop k) (m.drop k)=sameL (l.drop (k+1)) (m.drop (k+1)):=by rw [nth_drop h1,nth_drop h2,sameL,h,Bool.true_and]
theorem sameL_no {l m:List Fm} {k:Nat} (h1:k < l.length) (h2:k < m.length) (h:sameF (nth l k) (nth m k)=false):sameL (l.drop k) (m.drop k)=false:=by rw [nth_drop h1,nth_drop h2,sameL,h,Bool.false_and]
theorem sameL_end {l m:List Fm} {k:Nat} (h1:l.length≤k):sameL (l.drop k) (m.drop k)=true:=by rw [List.drop_eq_nil_of_le h1]; rw [sameL]; intro f l' g m' h; cases h
mutual
theorem sameF_iff: ∀ f g:Fm,sameF f g=true↔f=g
  | .nd o a k, .nd o' a' k' => by
    rw [sameF]
    simp only [Bool.and_eq_true,decide_eq_true_eq]
    constructor
    · rintro ⟨⟨⟨rfl,rfl⟩,h⟩,h2⟩
      rw [(sameL_iff k k' h).1 h2]
    · rintro h
      cases h
      exact ⟨⟨⟨rfl,rfl⟩,rfl⟩,(sameL_iff k k rfl).2 rfl⟩
theorem sameL_iff: ∀ l m:List Fm,l.length=m.length→(sameL l m=true↔l=m)
  | [], [], _ => by
    rw [sameL]
    · simp
    · intro f l' g m' h; cases h
  |[],g::m,h=>by simp at h
  |f::l,[],h=>by simp at h
  | f :: l, g :: m, h => by
    rw [sameL]
    simp only [Bool.and_eq_true,sameF_iff f g,sameL_iff l m (by simpa using h)]
    constructor
    · rintro ⟨rfl,rfl⟩; rfl
    · rintro h'; cases h'; exact ⟨rfl,rfl⟩
end
theorem sameF_self (f:Fm):sameF f f=true:=(sameF_iff f f).2 rfl
def dualI (o:Int):Int:=if o=5 then 6 else if o=6 then 5 else if o=7 then 9 else if o=9 then 7 else if o=8 then 10 else 8
def nop (o:Int) (b:Bool):Int:=if b=true then dualI o else o
mutual
def nrm:Fm→Bool→Fm
  | .nd o a [],b=>if o=4 then .nd 0 0 [] else if b=true then .nd 4 0 [.nd o a []] else .nd o a []
  | .nd o _ (f::l),b=>if o=4 then nrm f (!b) else .nd (nop o b) 0 (nrm f b::nrmL l b)
def nrmL:List Fm→Bool→List Fm
  |[],_=>[]
  |f::l,b=>nrm f b::nrmL l b
end
theorem nrmL_map: ∀ (l:List Fm) (b:Bool),nrmL l b=l.map fun f=>nrm f b
  |[],b=>by rw [nrmL]; rfl
  |f::l,b=>by rw [nrmL,nrmL_map l b]; rfl
theorem nrm_not {f:Fm} {b:Bool} (h:f.op=4) (hk:0 < f.kids.length):nrm f b=nrm (nth f.kids 0) (!b):=by
  cases f with
  | nd o a k =>
    cases k with
    |nil=>exact absurd hk (Nat.lt_irrefl _)
    |cons g l=>simp only [Fm.op] at h; rw [nrm,if_pos h]; rfl
theorem nrm_leafT {f:Fm} (h: ¬f.op=4) (hk:f.kids.length=0):nrm f true=.nd 4 0 [.nd f.op f.arg []]:=by
  cases f with
  | nd o a k =>
    cases k with
    |nil=>simp only [Fm.op] at h; rw [nrm,if_neg h,if_pos rfl]; rfl
    |cons g l=>simp [Fm.kids] at hk
theorem nrm_leafF {f:Fm} (h: ¬f.op=4) (hk:f.kids.length=0):nrm f false=.nd f.op f.arg []:=by
  cases f with
  | nd o a k =>
    cases k with
    |nil=>simp only [Fm.op] at h; rw [nrm,if_neg h,if_neg (by simp)]; rfl
    |cons g l=>simp [Fm.kids] at hk
theorem nrm_node {f:Fm} {b:Bool} (h: ¬f.op=4) (hk:f.kids.length≠0):nrm f b=.nd (nop f.op b) 0 (f.kids.map fun g=>nrm g b):=by
  cases f with
  | nd o a k =>
    cases k with
    |nil=>exact absurd rfl hk
    |cons g l=>simp only [Fm.op] at h; rw [nrm,if_neg h,nrmL_map]; rfl
mutual
def okF:Fm→Bool
  | .nd o a k=>decide (rgt (.nd o a k)=0)&&okL k
def okL:List Fm→Bool
  |[]=>true
  |f::l=>okF f&&okL l
end
theorem okF_eq (f:Fm):okF f=(decide (rgt f=0)&&okL f.kids):=by cases f; rw [okF]; rfl
theorem okL_nth: ∀ {l:List Fm} {k:Nat},okL l=true→k < l.length→okF (nth l k)=true
  |[],k,_,h=>absurd h (Nat.not_lt_zero k)
  |f::l,0,h,_=>by rw [okL,Bool.and_eq_true] at h; exact h.1
  |f::l,k+1,h,hk=>by rw [okL,Bool.and_eq_true] at h; exact okL_nth (k:=k) h.2 (by simpa using hk)
theorem okF_parts {f:Fm} (h:okF f=true):rgt f=0∧ ∀ k,k < f.kids.length→okF (nth f.kids k)=true:=by
  rw [okF_eq,Bool.and_eq_true,decide_eq_true_eq] at h
  exact ⟨h.1,fun k hk=>okL_nth h.2 hk⟩
mutual
theorem exm_ok : ∀ (f : Fm) (lv b : Int), (exm f lv b).2 = 0 → okF f = true
  | .nd o a k, lv, b, h => by
    rw [exm] at h
    split at h
    · simp at h
    · split at h
      · simp at h
      · split at h
        · rename_i h'; exact absurd h h'
        · rename_i h'
          rw [okF,exmL_ok k _ _ h,Bool.and_true]
          exact decide_eq_true (by omega)
theorem exmL_ok: ∀ (l:List Fm) (lv n:Int),(exmL l lv n).2=0→okL l=true
  |[],_,_,_=>by rw [okL]
  | f :: l, lv, n, h => by
    rw [exmL] at h
    split at h
    · rename_i h'; exact absurd h h'
    · rename_i h'
      rw [okL,exm_ok f lv n (by omega),exmL_ok l lv _ h]; rfl
end
theorem fval_ok {f:Fm} (h:fval f=0):okF f=true:=exm_ok f 1 0 h
theorem rgt_ok {f:Fm} (h:rgt f=0):1≤f.op∧f.op≤10∧((f.op=1∨f.op=2∨f.op=3)→f.kids.length=0)∧((f.op=4∨f.op=7∨f.op=9)→f.kids.length=1)∧((f.op=5∨f.op=6)→2≤f.kids.length)∧
    ((f.op=8∨f.op=10)→f.kids.length=2)∧(¬(f.op=2∨f.op=3)→f.arg=0)∧(f.op=2→0≤f.arg∧f.arg < 64)∧(f.op=3→0≤f.arg∧f.arg≤1048576):=by
  unfold rgt at h
  generalize f.kids.length=n at*
  generalize f.op=o at*
  generalize f.arg=a at*
  split at h
  · simp at h
  · rename_i h1
    split at h
    · simp at h
    · rename_i h2
      have e:o=1∨o=2∨o=3∨o=4∨o=5∨o=6∨o=7∨o=8∨o=9∨o=10:=by omega
      rcases e with e|e|e|e|e|e|e|e|e|e <;> subst e <;> simp [kLo,kHi] at h1 h2 ⊢ <;> omega
def zF:Fm:=.nd 0 0 []
def ngE (f:Fm):Int:=if fval f≠0 then fval f else fval (nrm f true)
def ngF (f:Fm):Fm:=if ngE f≠0 then zF else nrm f true
theorem Fm.leaf {f:Fm} (h:f.kids.length=0):Fm.nd f.op f.arg []=f:=by
  cases f with
  | nd o a k => cases k with
    |nil=>rfl
    |cons g l=>simp [Fm.kids] at h
theorem nrm_T {f:Fm} (h: ¬f.op=4) (hk:f.kids.length=0):nrm f true=.nd 4 0 [f]:=by rw [nrm_leafT h hk,Fm.leaf hk]
theorem nrm_F {f:Fm} (h: ¬f.op=4) (hk:f.kids.length=0):nrm f false=f:=by rw [nrm_leafF h hk,Fm.leaf hk]
theorem mapTake {α β:Type} [Inhabited α] {g:α→β} {l:List α} {k:Nat} (h:k < l.length):(l.take (k+1)).map g=(l.take k).map g++[g (nth l k)]:=by
  rw [← nth_getElem h,List.take_succ_eq_append_getElem h,List.map_append]; rfl
theorem bk_op {v ty:Nat} {x y:Int} {a b:V} (h:x=y):bk v ty 3 [[iV x,a,b]]=bk v ty 3 [[iV y,a,b]]:=by rw [h]
mutual
theorem exm_sz : ∀ (f : Fm) (lv b : Int), (exm f lv b).2 = 0 → (exm f lv b).1 = b + f.sz
  | .nd o a k, lv, b, h => by
    rw [exm] at h ⊢
    split at h
    · simp at h
    · split at h
      · simp at h
      · split at h
        · rename_i h'; exact absurd h h'
        · rename_i h1 h2 h3
          rw [if_neg h1,if_neg h2,if_neg h3,exmL_sz k _ _ h,Fm.sz]; omega
theorem exmL_sz: ∀ (l:List Fm) (lv n:Int),(exmL l lv n).2=0→(exmL l lv n).1=n+Fm.szs l
  |[],_,n,_=>by rw [exmL,Fm.szs]; simp
  | f :: l, lv, n, h => by
    rw [exmL] at h ⊢
    split at h
    · rename_i h'; exact absurd h h'
    · rename_i h'
      rw [if_neg h',exmL_sz l lv _ h,exm_sz f lv n (by omega),Fm.szs]; omega
end
theorem fval_sz {f:Fm} (h:fval f=0):f.sz≤4096:=by
  have h1:=exm_sz f 1 0 h
  have h2:=(exm_rng f 1 0).2 h
  omega
theorem Fm.szs_len: ∀ l:List Fm,l.length≤Fm.szs l
  |[]=>Nat.le_refl _
  | f :: l => by
    have:=Fm.szs_len l
    have h:1≤f.sz:=by cases f; rw [Fm.sz]; omega
    rw [Fm.szs,List.length_cons]; omega
theorem Fm.sz_len (f:Fm):f.kids.length < f.sz:=by
  cases f with
  |nd o a k=>have:=Fm.szs_len k; rw [Fm.sz]; show k.length < _; omega
end Go.Proofs.YteehaobohaecmaaGreatDoor
namespace Go.Proofs.YteehaobohaecmaaGreatDoor
open Go
abbrev cB (b:Bool):List V:=[.bool b]
abbrev cBL (l:List Bool):List V:=[.sl (l.map cB)]
@[simp] theorem canonLL_bools (l:List Bool):canonLL (l.map cB)=true:=canonLL_map _ _ fun a=>by simp [cB]
@[simp] theorem canonLL_boolss (l:List (List Bool)):canonLL (l.map cBL)=true:=canonLL_map _ _ fun a=>by simp
def untB (g h:Nat→Bool):Nat→Nat→Bool
  |0,i=>h i
  |m+1,i=>h i||(g i&&untB g h m (i+1))
def relB (g h:Nat→Bool):Nat→Nat→Bool
  |0,i=>h i
  |m+1,i=>h i&&(g i||relB g h m (i+1))
def satO (t:Tr) (o a:Int) (K:List (Nat→Bool)) (i:Nat):Bool:=
  if o=1 then true
  else if o=2 then decide (i < t.ni.length)&&decide (nth t.ni i=a)
  else if o=3 then decide (i < t.ni.length)&&decide (nth t.no i=a)
  else if o=4 then !(nth K 0 i)
  else if o=7 then decide (i < t.ni.length)&&nth K 0 (i+1)
  else if o=9 then decide (¬i < t.ni.length)||nth K 0 (i+1)
  else if o=8 then untB (nth K 0) (nth K 1) (t.ni.length - i) i
  else if o=10 then relB (nth K 0) (nth K 1) (t.ni.length - i) i
  else if o=5 then K.all fun g=>g i
  else K.any fun g=>g i
mutual
def sat (t:Tr):Fm→Nat→Bool
  | .nd o a k,i=>satO t o a (satL t k) i
def satL (t:Tr):List Fm→List (Nat→Bool)
  |[]=>[]
  |f::l=>sat t f::satL t l
end
theorem satL_map (t:Tr): ∀ l:List Fm,satL t l=l.map (sat t)
  |[]=>rfl
  |f::l=>by rw [satL,satL_map t l]; rfl
theorem sat_eq (t:Tr) (f:Fm) (i:Nat):sat t f i=satO t f.op f.arg (f.kids.map (sat t)) i:=by cases f; rw [sat,satL_map]; rfl
theorem nthM {α β:Type} [Inhabited α] [Inhabited β] {g:α→β} {l:List α} {k:Nat} (h:k < l.length):nth (l.map g) k=g (nth l k):=by
  have h':k < (l.map g).length:=by simpa using h
  rw [← nth_getElem h',List.getElem_map,nth_getElem h]
def hoE (t:Tr) (f:Fm):Int:=if fval f≠0 then fval f else if 1024 < t.ni.length then 3 else if t.no.length≠t.ni.length then 1 else 0
def hoB (t:Tr) (f:Fm):Bool:=decide (hoE t f=0)&&sat t f 0
end Go.Proofs.YteehaobohaecmaaGreatDoor
namespace Go.Proofs.YteehaobohaecmaaGreatDoor
open Go
def ltr (c:UInt8):Bool:=decide ((97≤c.toNat∧c.toNat≤122)∨(65≤c.toNat∧c.toNat≤90)∨(48≤c.toNat∧c.toNat≤57)∨c.toNat=95∨c.toNat=45∨c.toNat=46)
def wby (c:UInt8):Bool:=ltr c||decide (c.toNat=58)
def idxS (l:List (List UInt8)) (s:List UInt8):Int:=fi (fun j=>decide (nth l j=s)) 0 l.length
def ixV (l:List (List UInt8)) (s:List UInt8):Int:=if 0≤idxS l s then idxS l s else 0
def ixB (l:List (List UInt8)) (s:List UInt8):Bool:=decide (0≤idxS l s)
def prB (s p:List UInt8):Bool:=decide (p.length≤s.length∧s.take p.length=p)
mutual
def nnf:Fm→Bool
  | .nd o _ k=>nnfL o k
def nnfL (o:Int):List Fm→Bool
  |[]=>true
  |f::l=> !(decide (o=4∧3 < f.op)|| !nnf f)&&nnfL o l
end
theorem nnfL_all (o:Int): ∀ l:List Fm,nnfL o l=l.all fun f=> !(decide (o=4∧3 < f.op)|| !nnf f)
  |[]=>by rw [nnfL]; rfl
  |f::l=>by rw [nnfL,nnfL_all o l]; rfl
theorem nnf_eq (f:Fm):nnf f=f.kids.all fun g=> !(decide (f.op=4∧3 < g.op)|| !nnf g):=by cases f; rw [nnf,nnfL_all]; rfl
end Go.Proofs.YteehaobohaecmaaGreatDoor
namespace Go.Proofs.YteehaobohaecmaaGreatDoor
open Go
theorem fm_ind {p:Fm→Prop} (h: ∀ f,(∀ k,k < f.kids.length→p (nth f.kids k))→p f) (f:Fm):p f:=by
  have key: ∀ (m:Nat) (g:Fm),g.sz < m→p g:=by
    intro m
    induction m with
    |zero=>intro g hg; omega
    |succ m ih=>intro g hg; exact h g fun k hk=>ih _ (by have:=Fm.sz_kid hk; omega)
  exact key _ f (Nat.lt_succ_self _)
theorem okL_all: ∀ l:List Fm,okL l=l.all okF
  |[]=>rfl
  |f::l=>by rw [okL,okL_all l]; rfl
theorem okF_of {f:Fm} (h:rgt f=0) (hk: ∀ k,k < f.kids.length→okF (nth f.kids k)=true):okF f=true:=by
  rw [okF_eq,decide_eq_true h,okL_all,Bool.true_and,List.all_eq_true]
  intro x hx
  obtain ⟨j,hj,rfl⟩:=mem_nth hx
  exact hk j hj
theorem rgt_node {o:Int} {l:List Fm} (h:((o=4∨o=7∨o=9)∧l.length=1)∨((o=8∨o=10)∧l.length=2)∨((o=5∨o=6)∧2≤l.length)):rgt (.nd o 0 l)=0:=by
  unfold rgt
  show (if o < 1∨10 < o∨((l.length:Nat):Int) < kLo o∨(0≤kHi o∧kHi o < ((l.length:Nat):Int))∨(¬(o=2∨o=3)∧(0:Int)≠0) then (1:Int) else if (o=2∧((0:Int) < 0∨64≤(0:Int)))∨(o=3∧((0:Int) < 0∨1048576 < (0:Int))) then 2 else 0)=0
  generalize l.length=n at*
  have e:o=4∨o=5∨o=6∨o=7∨o=8∨o=9∨o=10:=by omega
  rcases e with e|e|e|e|e|e|e <;> subst e <;> simp [kLo,kHi] <;> omega
theorem opK {f:Fm} (h:rgt f=0):(f.kids.length=0∧(f.op=1∨f.op=2∨f.op=3))∨(f.kids.length≠0∧f.arg=0∧(f.op=4∨f.op=5∨f.op=6∨f.op=7∨f.op=8∨f.op=9∨f.op=10)):=by
  obtain ⟨r1,r2,r3,r4,r5,r6,r7,r8,r9⟩:=rgt_ok h
  by_cases q:f.op=1∨f.op=2∨f.op=3
  · exact .inl ⟨r3 q,q⟩
  · refine .inr ⟨by omega,r7 (by omega),by omega⟩
theorem nop_op {f:Fm} (h:rgt f=0) (hk:f.kids.length≠0) (h4: ¬f.op=4) (b:Bool):rgt (.nd (nop f.op b) 0 (f.kids.map fun g=>nrm g b))=0:=by
  obtain ⟨r1,r2,r3,r4,r5,r6,r7,r8,r9⟩:=rgt_ok h
  refine rgt_node ?_
  rw [List.length_map]
  unfold nop dualI
  split
  · generalize f.kids.length=n at*
    generalize f.op=o at*
    have e:o=5∨o=6∨o=7∨o=8∨o=9∨o=10:=by omega
    rcases e with e|e|e|e|e|e <;> subst e <;> simp at* <;> omega
  · omega
theorem nrm_ok (f : Fm) : okF f = true → ∀ b, okF (nrm f b) = true := by
  refine fm_ind (p:=fun f=>okF f=true→ ∀ b,okF (nrm f b)=true) (fun f ih hf b=>?_) f
  obtain ⟨hr,hk⟩:=okF_parts hf
  by_cases h4:f.op=4
  · have:=(rgt_ok hr).2.2.2.1 (.inl h4)
    rw [nrm_not h4 (by omega)]
    exact ih 0 (by omega) (hk 0 (by omega)) _
  · rcases opK hr with ⟨h0, ho⟩ | ⟨h0, _, _⟩
    · cases b with
      |true=>rw [nrm_T h4 h0]; exact okF_of (rgt_node (.inl ⟨.inl rfl,rfl⟩)) fun k h=>by
                  have:k=0:=by simp [Fm.kids] at h; omega
                  subst this; exact hf
      |false=>rw [nrm_F h4 h0]; exact hf
    · rw [nrm_node h4 h0]
      refine okF_of (nop_op hr h0 h4 b) fun k h=>?_
      have h':k < f.kids.length:=by simpa [Fm.kids] using h
      show okF (nth (f.kids.map fun g=>nrm g b) k)=true
      rw [nthM h']
      exact ih k h' (hk k h') b
theorem nnf_of {f:Fm} (h: ∀ k,k < f.kids.length→(f.op=4→(nth f.kids k).op≤3)∧nnf (nth f.kids k)=true):nnf f=true:=by
  rw [nnf_eq,List.all_eq_true]
  intro x hx
  obtain ⟨j,hj,rfl⟩:=mem_nth hx
  obtain ⟨h1,h2⟩:=h j hj
  rw [h2,decide_eq_false (by omega)]; rfl
theorem nrm_nnf (f : Fm) : okF f = true → ∀ b, nnf (nrm f b) = true := by
  refine fm_ind (p:=fun f=>okF f=true→ ∀ b,nnf (nrm f b)=true) (fun f ih hf b=>?_) f
  obtain ⟨hr,hk⟩:=okF_parts hf
  by_cases h4:f.op=4
  · have:=(rgt_ok hr).2.2.2.1 (.inl h4)
    rw [nrm_not h4 (by omega)]
    exact ih 0 (by omega) (hk 0 (by omega)) _
  · rcases opK hr with ⟨h0,ho⟩|⟨h0,_,_⟩
    · have hl:nnf f=true:=nnf_of fun k h=>by omega
      cases b with
      | true =>
        rw [nrm_T h4 h0]
        refine nnf_of fun k h=>?_
        have:k=0:=by simp [Fm.kids] at h; omega
        subst this
        exact ⟨fun _=>by show f.op≤3; omega,hl⟩
      |false=>rw [nrm_F h4 h0]; exact hl
    · rw [nrm_node h4 h0]
      refine nnf_of fun k h=>?_
      have h':k < f.kids.length:=by simpa [Fm.kids] using h
      refine ⟨fun e=>?_,?_⟩
      · have e':nop f.op b=4:=e
        have:=nop_op hr h0 h4 b
        exfalso
        unfold nop dualI at e'
        obtain ⟨r1,r2,_⟩:=rgt_ok hr
        revert e'
        repeat (first|omega|split)
      · show nnf (nth (f.kids.map fun g=>nrm g b) k)=true
        rw [nthM h']
        exact ih k h' (hk k h') b
theorem relB_not {g h:Nat→Bool}: ∀ {m i:Nat},relB (fun j=> !g j) (fun j=> !h j) m i= !untB g h m i
  |0,i=>rfl
  |m+1,i=>by rw [relB,untB,relB_not (m:=m)]; cases h i <;> cases g i <;> simp
theorem untB_not {g h:Nat→Bool}: ∀ {m i:Nat},untB (fun j=> !g j) (fun j=> !h j) m i= !relB g h m i
  |0,i=>rfl
  |m+1,i=>by rw [relB,untB,untB_not (m:=m)]; cases h i <;> cases g i <;> simp
theorem any_neg {α:Type} {p:α→Bool}: ∀ l:List α,(l.any fun g=> !p g)= !(l.all p)
  |[]=>rfl
  |a::l=>by rw [List.any_cons,List.all_cons,any_neg l,Bool.not_and]
theorem all_neg {α:Type} {p:α→Bool}: ∀ l:List α,(l.all fun g=> !p g)= !(l.any p)
  |[]=>rfl
  |a::l=>by rw [List.any_cons,List.all_cons,all_neg l,Bool.not_or]
theorem satO_dual {t:Tr} {f:Fm} (hr:rgt f=0) (h4: ¬f.op=4) (h0:f.kids.length≠0) (i:Nat):satO t (dualI f.op) 0 (f.kids.map fun g j=> !sat t g j) i= !satO t f.op f.arg (f.kids.map (sat t)) i:=by
  obtain ⟨r1,r2,r3,r4,r5,r6,r7,r8,r9⟩:=rgt_ok hr
  have k0:0 < f.kids.length→nth (f.kids.map fun g j=> !sat t g j) 0=fun j=> !nth (f.kids.map (sat t)) 0 j:=fun h=>by rw [nthM h,nthM h]
  have k1:1 < f.kids.length→nth (f.kids.map fun g j=> !sat t g j) 1=fun j=> !nth (f.kids.map (sat t)) 1 j:=fun h=>by rw [nthM h,nthM h]
  have e:f.op=5∨f.op=6∨f.op=7∨f.op=8∨f.op=9∨f.op=10:=by omega
  rcases e with e|e|e|e|e|e
  · rw [e]; show (List.map _ _).any _= !(List.map _ _).all _
    rw [List.any_map,List.all_map]
    exact any_neg (p:=fun g=>sat t g i) _
  · rw [e]; show (List.map _ _).all _= !(List.map _ _).any _
    rw [List.any_map,List.all_map]
    exact all_neg (p:=fun g=>sat t g i) _
  · rw [e]; show (decide (¬i < t.ni.length)||nth (f.kids.map fun g j=> !sat t g j) 0 (i+1))= !(decide (i < t.ni.length)&&nth (f.kids.map (sat t)) 0 (i+1))
    rw [k0 (by omega),decide_not,Bool.not_and]
  · rw [e]; show relB (nth (f.kids.map fun g j=> !sat t g j) 0) (nth (f.kids.map fun g j=> !sat t g j) 1) _ i= !untB _ _ _ i
    rw [k0 (by omega),k1 (by omega),relB_not]
  · rw [e]; show (decide (i < t.ni.length)&&nth (f.kids.map fun g j=> !sat t g j) 0 (i+1))= !(decide (¬i < t.ni.length)||nth (f.kids.map (sat t)) 0 (i+1))
    rw [k0 (by omega),decide_not,Bool.not_or,Bool.not_not]
  · rw [e]; show untB (nth (f.kids.map fun g j=> !sat t g j) 0) (nth (f.kids.map fun g j=> !sat t g j) 1) _ i= !relB _ _ _ i
    rw [k0 (by omega),k1 (by omega),untB_not]
theorem mapK {α:Type} {p q:Fm→α} {l:List Fm} (h: ∀ k,k < l.length→p (nth l k)=q (nth l k)):l.map p=l.map q:=
  List.map_congr_left fun x hx=>by obtain ⟨j,hj,rfl⟩:=mem_nth hx; exact h j hj
theorem sat_nrm (t : Tr) (f : Fm) : okF f = true → ∀ b i, sat t (nrm f b) i = (sat t f i ^^ b) := by
  refine fm_ind (p:=fun f=>okF f=true→ ∀ b i,sat t (nrm f b) i=(sat t f i ^^ b)) (fun f ih hf b i=>?_) f
  obtain ⟨hr,hk⟩:=okF_parts hf
  by_cases h4:f.op=4
  · have hl:=(rgt_ok hr).2.2.2.1 (.inl h4)
    rw [nrm_not h4 (by omega),ih 0 (by omega) (hk 0 (by omega)),sat_eq t f,h4]
    show (sat t (nth f.kids 0) i ^^ !b)=(!(nth (f.kids.map (sat t)) 0 i) ^^ b)
    rw [nthM (by omega)]
    cases sat t (nth f.kids 0) i <;> cases b <;> rfl
  · rcases opK hr with ⟨h0,ho⟩|⟨h0,ha,_⟩
    · cases b with
      |true=>rw [nrm_T h4 h0,sat_eq t (.nd 4 0 [f])]; show (!sat t f i)=_; simp
      |false=>rw [nrm_F h4 h0]; simp
    · rw [nrm_node h4 h0,sat_eq]
      show satO t (nop f.op b) 0 ((f.kids.map fun g=>nrm g b).map (sat t)) i=_
      rw [List.map_map,mapK (q:=fun g j=>sat t g j ^^ b) fun k hk'=>funext fun j=>ih k hk' (hk k hk') b j]
      cases b with
      | true =>
        simp only [nop,if_true,Bool.xor_true]
        rw [satO_dual hr h4 h0,← sat_eq]
      | false =>
        simp only [nop,Bool.false_eq_true,if_false,Bool.xor_false]
        rw [sat_eq t f,ha]
theorem hoE_ok {f:Fm} {t:Tr} (h:fval f=0) (h1:t.ni.length≤1024) (h2:t.no.length=t.ni.length):hoE t f=0:=by
  unfold hoE; rw [if_neg (by omega),if_neg (by omega),if_neg (by omega)]
theorem hoB_ok {f:Fm} {t:Tr} (h:fval f=0) (h1:t.ni.length≤1024) (h2:t.no.length=t.ni.length):hoB t f=sat t f 0:=by
  unfold hoB; rw [hoE_ok h h1 h2]; rfl
theorem ng_no {f:Fm} (h:fval f=0) (he:ngE f=0):ngF f=nrm f true∧fval (nrm f true)=0:=by
  constructor
  · unfold ngF; rw [if_neg (by omega)]
  · unfold ngE at he; rwa [if_neg (by omega)] at he
theorem ng_B {f:Fm} {t:Tr} (h:fval f=0) (he:ngE f=0) (h1:t.ni.length≤1024) (h2:t.no.length=t.ni.length):hoB t (ngF f)=(!hoB t f)∧hoE t (ngF f)=0∧nnf (ngF f)=true∧fval (ngF f)=0:=by
  obtain ⟨e1,e2⟩:=ng_no h he
  rw [e1]
  refine ⟨?_,hoE_ok e2 h1 h2,nrm_nnf f (fval_ok h) true,e2⟩
  rw [hoB_ok e2 h1 h2,hoB_ok h h1 h2,sat_nrm t f (fval_ok h)]; simp
end Go.Proofs.YteehaobohaecmaaGreatDoor
namespace Go.Proofs.YteehaobohaecmaaGreatDoor
open Go
mutual
def dp:Fm→Nat
  | .nd _ _ k=>dpL k+1
def dpL:List Fm→Nat
  |[]=>0
  |f::l=>max (dp f) (dpL l)
end
theorem okF_nd {o:Int} {l:List Fm} (h:((o=4∨o=7∨o=9)∧l.length=1)∨((o=8∨o=10)∧l.length=2)∨((o=5∨o=6)∧2≤l.length)) (hk:l.all okF=true):okF (.nd o 0 l)=true:=by
  rw [okF,decide_eq_true (rgt_node h),okL_all,hk]; rfl
section
variable {f g:Fm} {t:Tr}
abbrev uF (f g:Fm):Fm:=.nd 8 0 [f,g]
abbrev rF' (f g:Fm):Fm:=.nd 10 0 [f,g]
abbrev WF (f g:Fm):Fm:=.nd 6 0 [g,.nd 5 0 [f,.nd 7 0 [uF f g]]]
abbrev VF (f g:Fm):Fm:=.nd 5 0 [g,.nd 6 0 [f,.nd 9 0 [rF' f g]]]
abbrev tlT (t:Tr):Tr:=⟨t.ni.drop 1,t.no.drop 1⟩
@[simp] theorem canonLL_tlI (l : List Int) : canonLL (l.map cI).tail = true := by
  cases l with
  |nil=>simp
  |cons a l=>simp
@[simp] theorem pureLL_tlI (l : List Int) : pureLL (l.map cI).tail = true := by
  cases l with
  |nil=>simp
  |cons a l=>simp
structure Exp (f g:Fm) (t:Tr):Prop where
  e1:hoE t (uF f g)=0
  e2:hoE t (rF' f g)=0
  e3:hoE t (WF f g)=0
  e4:hoE t (VF f g)=0
  e5:hoE t (.nd 5 0 [f,g,f])=0
  e6:hoE t (.nd 6 0 [f,g,f])=0
  e7:hoE t (.nd 7 0 [f])=0
  e8:hoE t (.nd 9 0 [f])=0
  b1:hoB t (uF f g)=hoB t (WF f g)
  b2:hoB t (rF' f g)=hoB t (VF f g)
  b3:hoB t (.nd 5 0 [f,g,f])=(hoB t f&&hoB t g)
  b4:hoB t (.nd 6 0 [f,g,f])=(hoB t f||hoB t g)
  n1:t.ni.length=0→hoB t (.nd 7 0 [f])=false∧hoB t (.nd 9 0 [f])=true
  n2:t.ni.length≠0→hoE (tlT t) f=0∧hoB t (.nd 7 0 [f])=hoB (tlT t) f∧hoB t (.nd 9 0 [f])=hoB (tlT t) f
end
end Go.Proofs.YteehaobohaecmaaGreatDoor
namespace Go.Proofs.YteehaobohaecmaaGreatDoor
open Go Go.Sort
theorem sorted_uniq {α : Type} {le : α → α → Prop} : ∀ {l m : List α}, (∀ a ∈ l, ∀ b ∈ l, le a b → le b a → a = b) → l.Perm m → l.Pairwise le → m.Pairwise le → l = m
  |[],m,_,hp,_,_=>(List.perm_nil.1 hp.symm).symm
  |a::l,[],_,hp,_,_=>(List.cons_ne_nil _ _ (List.perm_nil.1 hp)).elim
  | a :: l, b :: m, anti, hp, h1, h2 => by
    have hb:b∈a::l:=hp.mem_iff.2 (List.mem_cons_self ..)
    have ha:a∈b::m:=hp.mem_iff.1 (List.mem_cons_self ..)
    have e:a=b:=by
      rcases List.mem_cons.1 hb with e|hb'
      · exact e.symm
      · rcases List.mem_cons.1 ha with e|ha'
        · exact e
        · exact anti a (List.mem_cons_self ..) b hb ((List.pairwise_cons.1 h1).1 b hb') ((List.pairwise_cons.1 h2).1 a ha')
    subst e
    rw [sorted_uniq (fun x hx y hy=>anti x (List.mem_cons_of_mem _ hx) y (List.mem_cons_of_mem _ hy)) (List.Perm.cons_inv hp) (List.pairwise_cons.1 h1).2 (List.pairwise_cons.1 h2).2]
def insS {α:Type} (cmp:α→α→Int) (a:α):List α→List α
  |[]=>[a]
  |b::l=>if cmp b a < 0 then b::insS cmp a l else a::b::l
def srt {α:Type} (cmp:α→α→Int) (l:List α):List α:=l.foldr (insS cmp) []
theorem insS_perm {α:Type} (cmp:α→α→Int) (a:α): ∀ l:List α,(insS cmp a l).Perm (a::l)
  |[]=>List.Perm.refl _
  | b :: l => by
    rw [insS]
    split
    · exact ((insS_perm cmp a l).cons b).trans (List.Perm.swap a b l)
    · exact List.Perm.refl _
theorem srt_perm {α:Type} (cmp:α→α→Int): ∀ l:List α,(srt cmp l).Perm l
  |[]=>List.Perm.refl _
  |a::l=>(insS_perm cmp a (srt cmp l)).trans ((srt_perm cmp l).cons a)
theorem srt_len {α:Type} (cmp:α→α→Int) (l:List α):(srt cmp l).length=l.length:=(srt_perm cmp l).length_eq
theorem insS_sorted {α : Type} {cmp : α → α → Int} (hO : SWO fun a b => decide (cmp a b < 0)) (a : α) : ∀ {l : List α}, (l.Pairwise fun a b => ¬cmp b a < 0) → (insS cmp a l).Pairwise fun a b => ¬cmp b a < 0
  |[],_=>List.pairwise_singleton _ _
  | b :: l, h => by
    obtain ⟨h1,h2⟩:=List.pairwise_cons.1 h
    rw [insS]
    split
    · rename_i q
      refine List.pairwise_cons.2 ⟨fun x hx=>?_,insS_sorted hO a h2⟩
      rcases List.mem_cons.1 ((insS_perm cmp a l).mem_iff.1 hx) with e|e
      · rw [e]; intro q2
        have:=hO.trans a b a (by simpa using q2) (by simpa using q)
        rw [hO.irrefl a] at this; cases this
      · exact h1 x e
    · rename_i q
      refine List.pairwise_cons.2 ⟨fun x hx=>?_,h⟩
      rcases List.mem_cons.1 hx with e|e
      · rw [e]; exact q
      · have:=hO.ntrans x b a (by simpa using h1 x e) (by simpa using q)
        simpa using this
theorem srt_sorted {α:Type} {cmp:α→α→Int} (hO:SWO fun a b=>decide (cmp a b < 0)): ∀ l:List α,(srt cmp l).Pairwise fun a b=> ¬cmp b a < 0
  |[]=>List.Pairwise.nil
  |a::l=>insS_sorted hO a (srt_sorted hO l)
end Go.Proofs.YteehaobohaecmaaGreatDoor
namespace Go.Proofs.YteehaobohaecmaaGreatDoor
open Go
def lxR:List Int→List Int→Int
  |[],[]=>0
  |[],_::_=> -1
  |_::_,[]=>1
  |a::l,b::m=>if a < b then -1 else if b < a then 1 else lxR l m
theorem lxR_self: ∀ l:List Int,lxR l l=0
  |[]=>rfl
  |a::l=>by rw [lxR,if_neg (by omega),if_neg (by omega),lxR_self l]
theorem lxR_swap: ∀ l m:List Int,lxR m l= -lxR l m
  |[],[]=>rfl
  |[],_::_=>rfl
  |_::_,[]=>rfl
  | a :: l, b :: m => by
    rw [lxR,lxR]
    by_cases h:a < b
    · rw [if_neg (by omega),if_pos h,if_pos h]; rfl
    · rw [if_neg h]
      by_cases h2:b < a
      · rw [if_pos h2,if_neg h,if_pos h2]
      · rw [if_neg h2,if_neg h,if_neg h2,lxR_swap l m]
theorem lxR_trans : ∀ l m k : List Int, lxR l m < 0 → lxR m k < 0 → lxR l k < 0
  |[],[],_,h,_=>by simp [lxR] at h
  |[],_::_,[],_,h=>by simp [lxR] at h
  |[],_::_,_::_,_,_=>by simp [lxR]
  |_::_,[],_,h,_=>by simp [lxR] at h
  |_::_,_::_,[],_,h=>by simp [lxR] at h
  | a :: l, b :: m, c :: k, h1, h2 => by
    rw [lxR] at h1 h2 ⊢
    by_cases p:a < b
    · by_cases q:b < c
      · rw [if_pos (by omega)]; decide
      · rw [if_neg q] at h2
        by_cases q2:c < b
        · rw [if_pos q2] at h2; omega
        · rw [if_pos (by omega)]; decide
    · rw [if_neg p] at h1
      by_cases p2:b < a
      · rw [if_pos p2] at h1; omega
      · rw [if_neg p2] at h1
        by_cases q:b < c
        · rw [if_pos (by omega)]; decide
        · rw [if_neg q] at h2
          by_cases q2:c < b
          · rw [if_pos q2] at h2; omega
          · rw [if_neg q2] at h2
            rw [if_neg (by omega),if_neg (by omega)]
            exact lxR_trans l m k h1 h2
def cp3 (a b c:Int):Int:=if a≠0 then a else if b≠0 then b else c
mutual
def ordF:Fm→Fm→Int
  | .nd o a k,.nd o' a' k'=>cp3 (cp3 (cmpI o o') (cmpI a a') (cmpI k.length k'.length)) (ordL k k') 0
def ordL:List Fm→List Fm→Int
  |f::l,g::m=>if ordF f g≠0 then ordF f g else ordL l m
  |_,_=>0
end
theorem ordF_eq (f g:Fm):ordF f g=cp3 (cp3 (cmpI f.op g.op) (cmpI f.arg g.arg) (cmpI f.kids.length g.kids.length)) (ordL f.kids g.kids) 0:=by cases f; cases g; rw [ordF]; rfl
theorem ordL_yes {l m:List Fm} {k:Nat} (h1:k < l.length) (h2:k < m.length) (h:ordF (nth l k) (nth m k)≠0):ordL (l.drop k) (m.drop k)=ordF (nth l k) (nth m k):=by rw [nth_drop h1,nth_drop h2,ordL,if_pos h]
theorem ordL_no {l m:List Fm} {k:Nat} (h1:k < l.length) (h2:k < m.length) (h: ¬ordF (nth l k) (nth m k)≠0):ordL (l.drop k) (m.drop k)=ordL (l.drop (k+1)) (m.drop (k+1)):=by rw [nth_drop h1,nth_drop h2,ordL,if_neg h]
theorem ordL_end {l m:List Fm} {k:Nat} (h1:l.length≤k):ordL (l.drop k) (m.drop k)=0:=by rw [List.drop_eq_nil_of_le h1]; rw [ordL]; intro f l' g m' h; cases h
mutual
def flF:Fm→List Int
  | .nd o a k=>o::a::(k.length:Int)::flL k
def flL:List Fm→List Int
  |[]=>[]
  |f::l=>flF f++flL l
end
theorem cmpI_rng (a b:Int):(a < b∧cmpI a b= -1)∨(b < a∧cmpI a b=1)∨(a=b∧cmpI a b=0):=by
  unfold cmpI
  by_cases h:a < b
  · exact .inl ⟨h,if_pos h⟩
  · by_cases h2:b < a
    · exact .inr (.inl ⟨h2,by rw [if_neg h,if_pos h2]⟩)
    · exact .inr (.inr ⟨by omega,by rw [if_neg h,if_neg h2]⟩)
theorem lxR_cons (a b:Int) (l m:List Int):lxR (a::l) (b::m)=if cmpI a b≠0 then cmpI a b else lxR l m:=by
  rw [lxR]
  rcases cmpI_rng a b with ⟨h,e⟩|⟨h,e⟩|⟨h,e⟩
  · rw [e,if_pos h]; rfl
  · rw [e,if_neg (by omega),if_pos h]; rfl
  · rw [e,if_neg (by omega),if_neg (by omega)]; rfl
mutual
theorem ordF_lx : ∀ (f g : Fm) (x y : List Int), lxR (flF f ++ x) (flF g ++ y) = if ordF f g ≠ 0 then ordF f g else lxR x y
  | .nd o a k, .nd o' a' k', x, y => by
    rw [flF,flF,ordF]
    show lxR (o::a::(k.length:Int)::(flL k++x)) (o'::a'::(k'.length:Int)::(flL k'++y))=_
    rw [lxR_cons,lxR_cons,lxR_cons]
    unfold cp3
    by_cases h1:cmpI o o'≠0
    · rw [if_pos h1]; simp only [if_pos h1]
    · rw [if_neg h1]
      simp only [if_neg h1]
      by_cases h2:cmpI a a'≠0
      · rw [if_pos h2]; simp only [if_pos h2]
      · rw [if_neg h2]
        simp only [if_neg h2]
        by_cases h3:cmpI (k.length:Int) k'.length≠0
        · rw [if_pos h3]; simp only [if_pos h3]
        · rw [if_neg h3]
          simp only [if_neg h3]
          have hl:k.length=k'.length:=by
            rcases cmpI_rng (k.length:Int) k'.length with ⟨h,e⟩|⟨h,e⟩|⟨h,e⟩ <;> omega
          rw [ordL_lx k k' x y hl]
          by_cases h4:ordL k k'≠0
          · simp only [if_pos h4]
          · simp only [if_neg h4]; rfl
theorem ordL_lx: ∀ (l m:List Fm) (x y:List Int),l.length=m.length→lxR (flL l++x) (flL m++y)=if ordL l m≠0 then ordL l m else lxR x y
  | [], [], x, y, _ => by
    rw [flL,ordL]
    · simp
    · intro f l' g m' h; cases h
  |[],g::m,_,_,h=>by simp at h
  |f::l,[],_,_,h=>by simp at h
  | f :: l, g :: m, x, y, h => by
    rw [flL,flL,List.append_assoc,List.append_assoc,ordF_lx f g,ordL_lx l m x y (by simpa using h),ordL]
    by_cases h1:ordF f g≠0
    · simp only [if_pos h1]
    · simp only [if_neg h1]
end
theorem ordF_lxR (f g:Fm):ordF f g=lxR (flF f) (flF g):=by
  have h:=ordF_lx f g [] []
  rw [List.append_nil,List.append_nil] at h
  rw [h]
  split
  · rfl
  · rename_i q; show ordF f g=0; omega
mutual
theorem ordF_zero : ∀ f g : Fm, ordF f g = 0 → f = g
  | .nd o a k, .nd o' a' k', h => by
    rw [ordF] at h
    unfold cp3 at h
    by_cases h1:cmpI o o'≠0
    · simp only [if_pos h1] at h; exact absurd h h1
    · simp only [if_neg h1] at h
      by_cases h2:cmpI a a'≠0
      · simp only [if_pos h2] at h; exact absurd h h2
      · simp only [if_neg h2] at h
        by_cases h3:cmpI (k.length:Int) k'.length≠0
        · simp only [if_pos h3] at h; exact absurd h h3
        · simp only [if_neg h3] at h
          by_cases h4:ordL k k'≠0
          · rw [if_pos h4] at h; exact absurd h h4
          · have e1:o=o':=by rcases cmpI_rng o o' with ⟨p,e⟩|⟨p,e⟩|⟨p,e⟩ <;> omega
            have e2:a=a':=by rcases cmpI_rng a a' with ⟨p,e⟩|⟨p,e⟩|⟨p,e⟩ <;> omega
            have e3:k.length=k'.length:=by rcases cmpI_rng (k.length:Int) k'.length with ⟨p,e⟩|⟨p,e⟩|⟨p,e⟩ <;> omega
            rw [e1,e2,ordL_zero k k' e3 (by omega)]
theorem ordL_zero: ∀ l m:List Fm,l.length=m.length→ordL l m=0→l=m
  |[],[],_,_=>rfl
  |[],g::m,h,_=>by simp at h
  |f::l,[],h,_=>by simp at h
  | f :: l, g :: m, h, h2 => by
    rw [ordL] at h2
    by_cases h1:ordF f g≠0
    · rw [if_pos h1] at h2; exact absurd h2 h1
    · rw [if_neg h1] at h2
      rw [ordF_zero f g (by omega),ordL_zero l m (by simpa using h) h2]
end
theorem ordF_self (f:Fm):ordF f f=0:=by rw [ordF_lxR,lxR_self]
theorem ordF_swap (f g:Fm):ordF g f= -ordF f g:=by rw [ordF_lxR,ordF_lxR,lxR_swap]
theorem ordF_trans {f g h:Fm} (h1:ordF f g < 0) (h2:ordF g h < 0):ordF f h < 0:=by
  rw [ordF_lxR] at*; exact lxR_trans _ _ _ h1 h2
theorem ordF_le {f g h:Fm} (h1: ¬ordF g f < 0) (h2: ¬ordF h g < 0): ¬ordF h f < 0:=by
  intro q
  by_cases e:ordF f g=0
  · rw [ordF_zero _ _ e] at q; exact h2 q
  · have:=ordF_swap f g
    exact h2 (ordF_trans q (by omega))
theorem ordF_swo:Go.Sort.SWO fun a b:Fm=>decide (ordF a b < 0) where
  irrefl x:=by rw [ordF_self]; rfl
  trans x y z h1 h2:=decide_eq_true (ordF_trans (of_decide_eq_true h1) (of_decide_eq_true h2))
  ntrans x y z h1 h2:=decide_eq_false (ordF_le (f:=z) (g:=y) (h:=x) (of_decide_eq_false h2) (of_decide_eq_false h1))
abbrev SrtF (l:List Fm):Prop:=l.Pairwise fun a b=>ordF a b < 0
theorem srtF_uniq {l m : List Fm} (h1 : SrtF l) (h2 : SrtF m) (h : ∀ x, x ∈ l ↔ x ∈ m) : l = m := by
  induction l generalizing m with
  | nil =>
    cases m with
    |nil=>rfl
    |cons b m=>exact absurd ((h b).2 (List.mem_cons_self ..)) (List.not_mem_nil)
  | cons a l ih =>
    cases m with
    |nil=>exact absurd ((h a).1 (List.mem_cons_self ..)) (List.not_mem_nil)
    | cons b m =>
      obtain ⟨a1,a2⟩:=List.pairwise_cons.1 h1
      obtain ⟨b1,b2⟩:=List.pairwise_cons.1 h2
      have hab:a=b:=by
        rcases List.mem_cons.1 ((h a).1 (List.mem_cons_self ..)) with e|e
        · exact e
        · rcases List.mem_cons.1 ((h b).2 (List.mem_cons_self ..)) with e2|e2
          · exact e2.symm
          · have q1:=b1 a e
            have q2:=a1 b e2
            have:=ordF_swap a b
            omega
      subst hab
      rw [ih a2 b2 fun x=>?_]
      have na:a∉l:=fun q=>by have:=a1 a q; rw [ordF_self] at this; omega
      have nb:a∉m:=fun q=>by have:=b1 a q; rw [ordF_self] at this; omega
      constructor
      · intro hx
        rcases List.mem_cons.1 ((h x).1 (List.mem_cons_of_mem _ hx)) with e|e
        · subst e; exact absurd hx na
        · exact e
      · intro hx
        rcases List.mem_cons.1 ((h x).2 (List.mem_cons_of_mem _ hx)) with e|e
        · subst e; exact absurd hx nb
        · exact e
def insF (f:Fm):List Fm→List Fm
  |[]=>[f]
  |g::l=>if ordF f g < 0 then f::g::l else if ordF f g=0 then g::l else g::insF f l
theorem mem_insF {f x : Fm} : ∀ {l : List Fm}, x ∈ insF f l ↔ x = f ∨ x ∈ l
  |[]=>by simp [insF]
  | g :: l => by
    rw [insF]
    split
    · simp
    · split
      · rename_i h; have:=ordF_zero _ _ h; subst this; simp
      · simp only [List.mem_cons,mem_insF (l:=l)]
        constructor
        · rintro (h|h|h)
          · exact .inr (.inl h)
          · exact .inl h
          · exact .inr (.inr h)
        · rintro (h|h|h)
          · exact .inr (.inl h)
          · exact .inl h
          · exact .inr (.inr h)
theorem insF_srt {f : Fm} : ∀ {l : List Fm}, SrtF l → SrtF (insF f l)
  |[],_=>List.pairwise_singleton _ _
  | g :: l, h => by
    obtain ⟨h1,h2⟩:=List.pairwise_cons.1 h
    rw [insF]
    split
    · rename_i q
      refine List.pairwise_cons.2 ⟨fun x hx=>?_,h⟩
      rcases List.mem_cons.1 hx with e|e
      · rw [e]; exact q
      · exact ordF_trans q (h1 x e)
    · split
      · exact h
      · rename_i q q2
        refine List.pairwise_cons.2 ⟨fun x hx=>?_,insF_srt h2⟩
        rcases mem_insF.1 hx with e|e
        · rw [e]; have:=ordF_swap f g; omega
        · exact h1 x e
theorem insF_len {f:Fm}: ∀ l:List Fm,(insF f l).length≤l.length+1
  |[]=>by simp [insF]
  | g :: l => by
    rw [insF]
    split
    · simp
    · split
      · simp
      · have:=insF_len (f:=f) l; simp; omega
def unF (c d:List Fm):List Fm:=d.foldl (fun l f=>insF f l) c
theorem mem_unF {x:Fm}: ∀ {d c:List Fm},x∈unF c d↔x∈c∨x∈d
  |[],c=>by simp [unF]
  | f :: d, c => by
    show x∈unF (insF f c) d↔_
    rw [mem_unF (d:=d),mem_insF,List.mem_cons]
    constructor
    · rintro ((h|h)|h)
      · exact .inr (.inl h)
      · exact .inl h
      · exact .inr (.inr h)
    · rintro (h|h|h)
      · exact .inl (.inr h)
      · exact .inl (.inl h)
      · exact .inr h
theorem unF_srt: ∀ {d c:List Fm},SrtF c→SrtF (unF c d)
  |[],_,h=>h
  |f::d,c,h=>unF_srt (d:=d) (insF_srt h)
theorem unF_len: ∀ (d c:List Fm),(unF c d).length≤c.length+d.length
  |[],c=>by simp [unF]
  | f :: d, c => by
    have h1:=unF_len d (insF f c)
    have h2:=insF_len (f:=f) c
    show (unF (insF f c) d).length≤_
    rw [List.length_cons]; omega
abbrev sF (l:List Fm):List Fm:=srt ordF l
theorem mem_sF {l:List Fm} {x:Fm}:x∈sF l↔x∈l:=(srt_perm ordF l).mem_iff
theorem sF_len (l:List Fm):(sF l).length=l.length:=(srt_perm ordF l).length_eq
theorem sF_srt {l:List Fm} (h:l.Nodup):SrtF (sF l):=by
  have h1:=srt_sorted ordF_swo l
  have h2:(sF l).Nodup:=(srt_perm ordF l).nodup_iff.2 h
  exact (h1.and h2).imp fun {a b} ⟨q1,q2⟩=>by
    have:=ordF_swap a b
    by_cases e:ordF a b=0
    · exact absurd (ordF_zero _ _ e) q2
    · omega
end Go.Proofs.YteehaobohaecmaaGreatDoor
namespace Go.Proofs.YteehaobohaecmaaGreatDoor
open Go
abbrev Cl:=List Fm
def conB (c d:Cl):Bool:=d.all fun x=>c.any fun y=>sameF y x
theorem conB_iff {c d:Cl}:conB c d=true↔ ∀ x∈d,x∈c:=by
  unfold conB
  rw [List.all_eq_true]
  constructor
  · intro h x hx
    obtain ⟨y,hy,e⟩:=List.any_eq_true.1 (h x hx)
    rw [(sameF_iff y x).1 e] at hy; exact hy
  · intro h x hx
    exact List.any_eq_true.2 ⟨x,h x hx,sameF_self x⟩
theorem conB_self (c:Cl):conB c c=true:=conB_iff.2 fun _ h=>h
def wth (s:List Cl) (c:Cl):List Cl:=if s.any (fun d=>conB c d)=true then s else s.filter (fun d=> !conB d c)++[c]
theorem wth_len (s:List Cl) (c:Cl):(wth s c).length≤s.length+1:=by
  unfold wth
  split
  · omega
  · rw [List.length_append]; have:=List.length_filter_le (fun d=> !conB d c) s; simp; omega
def wths (s t:List Cl):List Cl:=t.foldl wth s
theorem wths_len: ∀ (t s:List Cl),(wths s t).length≤s.length+t.length
  |[],s=>Nat.le_refl _
  | c :: t, s => by
    have h1:=wths_len t (wth s c)
    have h2:=wth_len s c
    show (wths (wth s c) t).length≤_
    rw [List.length_cons]; omega
theorem wths_app (s t u:List Cl):wths s (t++u)=wths (wths s t) u:=List.foldl_append
def prC (out:List Cl) (c:Cl) (b:List Cl):List Cl:=wths out (b.map (unF c))
def prd (a b:List Cl):List Cl:=a.foldl (fun out c=>prC out c b) []
def prdF (out a b:List Cl):List Cl:=a.foldl (fun out c=>prC out c b) out
theorem prdF_len (b:List Cl): ∀ (a out:List Cl),(prdF out a b).length≤out.length+a.length*b.length
  |[],out=>by simp [prdF]
  | c :: a, out => by
    have h1:=prdF_len b a (prC out c b)
    have h2:=wths_len (b.map (unF c)) out
    rw [List.length_map] at h2
    show (prdF (prC out c b) a b).length≤_
    have h3:(prC out c b).length≤out.length+b.length:=h2
    rw [List.length_cons,Nat.succ_mul]; omega
def evC (S:Fm→Bool) (c:Cl):Bool:=c.all S
def evS (S:Fm→Bool) (s:List Cl):Bool:=s.any (evC S)
theorem evC_iff {S:Fm→Bool} {c:Cl}:evC S c=true↔ ∀ x∈c,S x=true:=List.all_eq_true
theorem evS_iff {S:Fm→Bool} {s:List Cl}:evS S s=true↔ ∃ c∈s,evC S c=true:=List.any_eq_true
theorem evC_con {S:Fm→Bool} {c d:Cl} (h:conB c d=true) (hc:evC S c=true):evC S d=true:=evC_iff.2 fun x hx=>evC_iff.1 hc x (conB_iff.1 h x hx)
theorem bool_ext {a b:Bool} (h:a=true↔b=true):a=b:=by cases a <;> cases b <;> simp_all
theorem evS_wth (S : Fm → Bool) (s : List Cl) (c : Cl) : evS S (wth s c) = (evS S s || evC S c) := by
  refine bool_ext ?_
  rw [Bool.or_eq_true]
  unfold wth
  split
  · rename_i h
    constructor
    · exact .inl
    · rintro (q|q)
      · exact q
      · obtain ⟨d,hd,e⟩:=List.any_eq_true.1 h
        exact evS_iff.2 ⟨d,hd,evC_con e q⟩
  · constructor
    · intro q
      obtain ⟨d,hd,e⟩:=evS_iff.1 q
      rcases List.mem_append.1 hd with hd|hd
      · exact .inl (evS_iff.2 ⟨d,(List.mem_filter.1 hd).1,e⟩)
      · rw [List.mem_singleton.1 hd] at e; exact .inr e
    · rintro (q|q)
      · obtain ⟨d,hd,e⟩:=evS_iff.1 q
        by_cases k:conB d c=true
        · exact evS_iff.2 ⟨c,List.mem_append_right _ (List.mem_singleton.2 rfl),evC_con k e⟩
        · exact evS_iff.2 ⟨d,List.mem_append_left _ (List.mem_filter.2 ⟨hd,by simpa using k⟩),e⟩
      · exact evS_iff.2 ⟨c,List.mem_append_right _ (List.mem_singleton.2 rfl),q⟩
theorem evS_wths (S:Fm→Bool): ∀ (t s:List Cl),evS S (wths s t)=(evS S s||evS S t)
  |[],s=>by simp [wths,evS]
  | c :: t, s => by
    show evS S (wths (wth s c) t)=_
    rw [evS_wths S t,evS_wth,Bool.or_assoc]; rfl
theorem evC_un (S:Fm→Bool) (c d:Cl):evC S (unF c d)=(evC S c&&evC S d):=by
  refine bool_ext ?_
  rw [Bool.and_eq_true,evC_iff,evC_iff,evC_iff]
  constructor
  · intro h; exact ⟨fun x hx=>h x (mem_unF.2 (.inl hx)),fun x hx=>h x (mem_unF.2 (.inr hx))⟩
  · rintro ⟨h1,h2⟩ x hx
    rcases mem_unF.1 hx with q|q
    · exact h1 x q
    · exact h2 x q
theorem evS_map (S:Fm→Bool) (c:Cl): ∀ b:List Cl,evS S (b.map (unF c))=(evC S c&&evS S b)
  |[]=>by simp [evS]
  | d :: b => by
    show (evC S (unF c d)||evS S (b.map (unF c)))=(evC S c&&(evC S d||evS S b))
    rw [evC_un,evS_map S c b,Bool.and_or_distrib_left]
theorem evS_prdF (S:Fm→Bool) (b:List Cl): ∀ (a out:List Cl),evS S (prdF out a b)=(evS S out||(evS S a&&evS S b))
  |[],out=>by simp [prdF,evS]
  | c :: a, out => by
    show evS S (prdF (prC out c b) a b)=(evS S out||((evC S c||evS S a)&&evS S b))
    rw [evS_prdF S b a,prC,evS_wths,evS_map]
    cases evS S out <;> cases evC S c <;> cases evS S a <;> cases evS S b <;> rfl
theorem evS_prd (S:Fm→Bool) (a b:List Cl):evS S (prd a b)=(evS S a&&evS S b):=by
  have h:prd a b=prdF [] a b:=rfl
  rw [h,evS_prdF]
  rfl
structure Ant (s:List Cl):Prop where
  srt: ∀ c∈s,SrtF c
  two:s.Pairwise fun c d=>conB c d=false∧conB d c=false
theorem Ant.nil:Ant []:=⟨fun _ h=>absurd h List.not_mem_nil,List.Pairwise.nil⟩
theorem Ant.one {c:Cl} (h:SrtF c):Ant [c]:=⟨fun d hd=>by rw [List.mem_singleton.1 hd]; exact h,List.pairwise_singleton _ _⟩
theorem wth_ant {s:List Cl} {c:Cl} (h:Ant s) (hc:SrtF c):Ant (wth s c):=by
  unfold wth
  split
  · exact h
  · rename_i q
    refine ⟨fun d hd=>?_,List.pairwise_append.2 ⟨h.two.filter _,List.pairwise_singleton _ _,fun d hd e he=>?_⟩⟩
    · rcases List.mem_append.1 hd with hd|hd
      · exact h.srt d (List.mem_filter.1 hd).1
      · rw [List.mem_singleton.1 hd]; exact hc
    · rw [List.mem_singleton.1 he]
      obtain ⟨h1,h2⟩:=List.mem_filter.1 hd
      refine ⟨by simpa using h2,?_⟩
      cases k:conB c d with
      |false=>rfl
      |true=>exact absurd (List.any_eq_true.2 ⟨d,h1,k⟩) q
theorem wths_ant: ∀ {t s:List Cl},Ant s→(∀ c∈t,SrtF c)→Ant (wths s t)
  |[],_,h,_=>h
  |c::t,s,h,ht=>wths_ant (t:=t) (s:=wth s c) (wth_ant h (ht c (List.mem_cons_self ..))) fun d hd=>ht d (List.mem_cons_of_mem _ hd)
theorem prdF_ant {b:List Cl}: ∀ {a out:List Cl},Ant out→(∀ c∈a,SrtF c)→Ant (prdF out a b)
  |[],_,h,_=>h
  | c :: a, out, h, ha => prdF_ant (a := a) (out := prC out c b) (wths_ant h fun d hd => by
      obtain ⟨e,_,rfl⟩:=List.mem_map.1 hd; exact unF_srt (ha c (List.mem_cons_self ..))) fun d hd=>ha d (List.mem_cons_of_mem _ hd)
theorem prd_ant {a b:List Cl} (ha:Ant a):Ant (prd a b):=prdF_ant Ant.nil ha.srt
theorem Ant.nodup {s:List Cl} (h:Ant s):s.Nodup:=h.two.imp fun {a b} q e=>by
  subst e; rw [conB_self] at q; cases q.1
theorem con_eq {c d:Cl} (hc:SrtF c) (hd:SrtF d) (h1:conB c d=true) (h2:conB d c=true):c=d:=
  srtF_uniq hc hd fun x=>⟨fun h=>conB_iff.1 h2 x h,fun h=>conB_iff.1 h1 x h⟩
theorem pw_ne {α:Type} {R:α→α→Prop}: ∀ {l:List α},l.Pairwise R→(∀ a b,R a b→R b a)→ ∀ {a b:α},a∈l→b∈l→a≠b→R a b
  |[],_,_,_,_,h,_,_=>absurd h List.not_mem_nil
  | x :: l, h, hs, a, b, ha, hb, hne => by
    obtain ⟨h1,h2⟩:=List.pairwise_cons.1 h
    rcases List.mem_cons.1 ha with e|e
    · rcases List.mem_cons.1 hb with e2|e2
      · exact absurd (e.trans e2.symm) hne
      · rw [e]; exact h1 b e2
    · rcases List.mem_cons.1 hb with e2|e2
      · rw [e2]; exact hs _ _ (h1 a e)
      · exact pw_ne h2 hs e e2 hne
theorem ant_mem {s t:List Cl} (hs:Ant s) (ht:Ant t) (h: ∀ S,evS S s=evS S t) {c:Cl} (hc:c∈s):c∈t:=by
  let S:Cl→Fm→Bool:=fun c x=>c.any fun y=>sameF y x
  have key: ∀ c d:Cl,evC (S c) d=conB c d:=fun _ _=>rfl
  have h1:evS (S c) s=true:=evS_iff.2 ⟨c,hc,by rw [key]; exact conB_self c⟩
  rw [h] at h1
  obtain ⟨d,hd,e⟩:=evS_iff.1 h1
  rw [key] at e
  have h2:evS (S d) t=true:=evS_iff.2 ⟨d,hd,by rw [key]; exact conB_self d⟩
  rw [← h] at h2
  obtain ⟨c',hc',e'⟩:=evS_iff.1 h2
  rw [key] at e'
  have e2:conB c c'=true:=conB_iff.2 fun x hx=>conB_iff.1 e x (conB_iff.1 e' x hx)
  have hcc:c=c':=by
    refine Classical.byContradiction fun hne=>?_
    have:=(pw_ne hs.two (fun a b q=>⟨q.2,q.1⟩) hc hc' hne).1
    rw [e2] at this; cases this
  subst hcc
  rw [con_eq (hs.srt c hc) (ht.srt d hd) e e']; exact hd
theorem ant_perm {s t:List Cl} (hs:Ant s) (ht:Ant t) (h: ∀ S,evS S s=evS S t):s.Perm t:=
  (List.perm_ext_iff_of_nodup hs.nodup ht.nodup).2 fun c=>⟨ant_mem hs ht h,ant_mem ht hs fun S=>(h S).symm⟩
def noF:Fm:=.nd 4 0 [.nd 1 0 []]
def yesF:Fm:=.nd 1 0 []
def clF (c:Cl):Fm:=if c.length=1 then nth c 0 else .nd 5 0 c
def fin (s:List Cl):Fm:=
  if s.length=0 then noF else if s.any (fun c=>decide (c.length=0))=true then yesF else if s.length=1 then clF (nth s 0) else .nd 6 0 (sF (s.map clF))
def AtS (s:List Cl):Prop:= ∀ c∈s,∀ x∈c,x.op≠5
theorem clF_inj {c d:Cl} (hc: ∀ x∈c,x.op≠5) (hd: ∀ x∈d,x.op≠5) (h:clF c=clF d):c=d:=by
  unfold clF at h
  by_cases h1:c.length=1
  · rw [if_pos h1] at h
    have m1:nth c 0∈c:=nth_mem (by omega)
    by_cases h2:d.length=1
    · rw [if_pos h2] at h
      match c,d,h1,h2,h with
      |[x],[y],_,_,h=>have h':x=y:=h; rw [h']
    · rw [if_neg h2] at h
      exact absurd (by rw [h]; rfl) (hc _ m1)
  · rw [if_neg h1] at h
    by_cases h2:d.length=1
    · rw [if_pos h2] at h
      have m1:nth d 0∈d:=nth_mem (by omega)
      exact absurd (by rw [← h]; rfl) (hd _ m1)
    · rw [if_neg h2] at h
      injection h
theorem mapCl_nodup {s:List Cl} (hs:s.Nodup) (ha:AtS s):(s.map clF).Nodup:=by
  induction s with
  |nil=>exact List.nodup_nil
  | cons c s ih =>
    obtain ⟨h1,h2⟩:=List.nodup_cons.1 hs
    rw [List.map_cons,List.nodup_cons]
    refine ⟨fun q=>?_,ih h2 fun d hd=>ha d (List.mem_cons_of_mem _ hd)⟩
    obtain ⟨d,hd,e⟩:=List.mem_map.1 q
    have:=clF_inj (ha d (List.mem_cons_of_mem _ hd)) (ha c (List.mem_cons_self ..)) e
    rw [this] at hd; exact h1 hd
theorem fin_perm {s t : List Cl} (hp : s.Perm t) (hs : Ant s) (ht : Ant t) (ha : AtS s) : fin s = fin t := by
  have hat:AtS t:=fun c hc=>ha c (hp.mem_iff.2 hc)
  have hl:=hp.length_eq
  unfold fin
  rw [hl]
  by_cases h0:t.length=0
  · rw [if_pos h0,if_pos h0]
  · rw [if_neg h0, if_neg h0]
    have hany:s.any (fun c=>decide (c.length=0))=t.any (fun c=>decide (c.length=0)):=by
      refine bool_ext ?_
      rw [List.any_eq_true,List.any_eq_true]
      exact ⟨fun ⟨c,h,e⟩=>⟨c,hp.mem_iff.1 h,e⟩,fun ⟨c,h,e⟩=>⟨c,hp.mem_iff.2 h,e⟩⟩
    rw [hany]
    by_cases h1:t.any (fun c=>decide (c.length=0))=true
    · rw [if_pos h1,if_pos h1]
    · rw [if_neg h1,if_neg h1]
      by_cases h2:t.length=1
      · rw [if_pos h2,if_pos h2]
        obtain ⟨c,rfl⟩:=List.length_eq_one_iff.1 (hl.trans h2)
        obtain ⟨d,rfl⟩:=List.length_eq_one_iff.1 h2
        have:c∈[d]:=hp.mem_iff.1 (List.mem_singleton.2 rfl)
        rw [List.mem_singleton.1 this]
      · rw [if_neg h2,if_neg h2]
        congr 1
        refine srtF_uniq (sF_srt (mapCl_nodup hs.nodup ha)) (sF_srt (mapCl_nodup ht.nodup hat)) fun x=>?_
        rw [mem_sF,mem_sF]
        exact (hp.map clF).mem_iff
end Go.Proofs.YteehaobohaecmaaGreatDoor
namespace Go.Proofs.YteehaobohaecmaaGreatDoor
open Go
mutual
def cls : Fm → Option (List Cl)
  | .nd o a k => if o = 1 then some [[]] else if o = 4 then (if (nth k 0).op = 1 then some [] else some [[.nd o a k]])
    else if o=2∨o=3 then some [[.nd o a k]] else if o=6 then djL k [] else if o=5 then cjL k [[]]
    else match canL k with
      |none=>none
      |some l=>some [[.nd o 0 l]]
def djL : List Fm → List Cl → Option (List Cl)
  |[],out=>if 64 < out.length then none else some out
  | f :: l, out => match cls f with
    |none=>none
    |some s=>djL l (wths out s)
def cjL : List Fm → List Cl → Option (List Cl)
  |[],out=>some out
  | f :: l, out => match cls f with
    |none=>none
    |some s=>if 64 < (prd out s).length then none else cjL l (prd out s)
def canL : List Fm → Option (List Fm)
  |[]=>some []
  | f :: l => match cls f with
    |none=>none
    | some s => match canL l with
      |none=>none
      |some r=>some (fin s::r)
end
def can (f:Fm):Option Fm:=(cls f).map fin
theorem cls_eq (f:Fm):cls f=if f.op=1 then some [[]] else if f.op=4 then (if (nth f.kids 0).op=1 then some [] else some [[f]])
    else if f.op=2∨f.op=3 then some [[f]] else if f.op=6 then djL f.kids [] else if f.op=5 then cjL f.kids [[]]
    else match canL f.kids with
      |none=>none
      |some l=>some [[.nd f.op 0 l]]:=by cases f; rw [cls]; rfl
section
variable {f:Fm} {l:List Fm} {out s:List Cl} {k:Nat}
theorem cls_1 (h:f.op=1):cls f=some [[]]:=by rw [cls_eq,if_pos h]
theorem cls_4 (h:f.op=4) (h2:(nth f.kids 0).op=1):cls f=some []:=by rw [cls_eq,if_neg (by omega),if_pos h,if_pos h2]
theorem cls_4n (h:f.op=4) (h2: ¬(nth f.kids 0).op=1):cls f=some [[f]]:=by rw [cls_eq,if_neg (by omega),if_pos h,if_neg h2]
theorem cls_23 (h:f.op=2∨f.op=3):cls f=some [[f]]:=by rw [cls_eq,if_neg (by omega),if_neg (by omega),if_pos h]
theorem cls_6 (h:f.op=6):cls f=djL f.kids []:=by rw [cls_eq,if_neg (by omega),if_neg (by omega),if_neg (by omega),if_pos h]
theorem cls_5 (h:f.op=5):cls f=cjL f.kids [[]]:=by rw [cls_eq,if_neg (by omega),if_neg (by omega),if_neg (by omega),if_neg (by omega),if_pos h]
theorem cls_t (h: ¬(f.op=1∨f.op=2∨f.op=3∨f.op=4∨f.op=5∨f.op=6)):cls f=(canL f.kids).map fun l=>[[.nd f.op 0 l]]:=by
  rw [cls_eq,if_neg (by omega),if_neg (by omega),if_neg (by omega),if_neg (by omega),if_neg (by omega)]
  cases canL f.kids <;> rfl
theorem djL_end (h:l.length≤k):djL (l.drop k) out=if 64 < out.length then none else some out:=by rw [List.drop_eq_nil_of_le h,djL]
theorem djL_no (h:k < l.length) (e:cls (nth l k)=none):djL (l.drop k) out=none:=by rw [nth_drop h,djL,e]
theorem djL_go (h:k < l.length) (e:cls (nth l k)=some s):djL (l.drop k) out=djL (l.drop (k+1)) (wths out s):=by rw [nth_drop h,djL,e]
theorem cjL_end (h:l.length≤k):cjL (l.drop k) out=some out:=by rw [List.drop_eq_nil_of_le h,cjL]
theorem cjL_no (h:k < l.length) (e:cls (nth l k)=none):cjL (l.drop k) out=none:=by rw [nth_drop h,cjL,e]
theorem cjL_lim (h:k < l.length) (e:cls (nth l k)=some s) (e2:64 < (prd out s).length):cjL (l.drop k) out=none:=by rw [nth_drop h,cjL,e]; exact if_pos e2
theorem cjL_go (h:k < l.length) (e:cls (nth l k)=some s) (e2: ¬64 < (prd out s).length):cjL (l.drop k) out=cjL (l.drop (k+1)) (prd out s):=by rw [nth_drop h,cjL,e]; exact if_neg e2
theorem canL_end (h:l.length≤k):canL (l.drop k)=some []:=by rw [List.drop_eq_nil_of_le h,canL]
theorem canL_no (h:k < l.length) (e:can (nth l k)=none):canL (l.drop k)=none:=by
  rw [nth_drop h,canL]
  unfold can at e
  cases q:cls (nth l k) with
  |none=>rfl
  |some s=>rw [q] at e; cases e
theorem canL_go {g:Fm} (h:k < l.length) (e:can (nth l k)=some g):canL (l.drop k)=(canL (l.drop (k+1))).map fun r=>g::r:=by
  rw [nth_drop h,canL]
  unfold can at e
  cases q:cls (nth l k) with
  |none=>rw [q] at e; cases e
  | some s =>
    rw [q] at e
    injection e with e
    subst e
    cases canL (l.drop (k+1)) <;> rfl
end
theorem canL_len: ∀ {l r:List Fm},canL l=some r→r.length=l.length
  |[],_,h=>by rw [canL] at h; cases h; rfl
  | f :: l, r, h => by
    rw [canL] at h
    cases q:cls f with
    |none=>rw [q] at h; cases h
    | some s =>
      rw [q] at h
      simp only at h
      cases q2:canL l with
      |none=>rw [q2] at h; cases h
      |some r'=>rw [q2] at h; cases h; simp [canL_len q2]
theorem canL_nth : ∀ {l r : List Fm} {k : Nat}, canL l = some r → k < l.length → can (nth l k) = some (nth r k)
  |[],_,_,_,h=>absurd h (Nat.not_lt_zero _)
  | f :: l, r, k, h, hk => by
    rw [canL] at h
    cases q:cls f with
    |none=>rw [q] at h; cases h
    | some s =>
      rw [q] at h
      simp only at h
      cases q2:canL l with
      |none=>rw [q2] at h; cases h
      | some r' =>
        rw [q2] at h
        cases h
        cases k with
        |zero=>show (cls f).map fin=_; rw [q]; rfl
        |succ k=>exact canL_nth (k:=k) q2 (by simpa using hk)
def atB (o:Int):Prop:=o=2∨o=3∨o=4∨o=7∨o=8∨o=9∨o=10
def AtL (s:List Cl):Prop:= ∀ c∈s,∀ x∈c,atB x.op
theorem AtL.ats {s:List Cl} (h:AtL s):AtS s:=fun c hc x hx=>by have:=h c hc x hx; unfold atB at this; omega
theorem mem_wth {s:List Cl} {c d:Cl} (h:d∈wth s c):d∈s∨d=c:=by
  unfold wth at h
  split at h
  · exact .inl h
  · rcases List.mem_append.1 h with h|h
    · exact .inl (List.mem_filter.1 h).1
    · exact .inr (List.mem_singleton.1 h)
theorem mem_wths {d:Cl}: ∀ {t s:List Cl},d∈wths s t→d∈s∨d∈t
  |[],_,h=>.inl h
  | c :: t, s, h => by
    rcases mem_wths (t:=t) (s:=wth s c) h with h|h
    · rcases mem_wth h with h|h
      · exact .inl h
      · rw [h]; exact .inr (List.mem_cons_self ..)
    · exact .inr (List.mem_cons_of_mem _ h)
theorem mem_prdF {b : List Cl} {d : Cl} : ∀ {a out : List Cl}, d ∈ prdF out a b → d ∈ out ∨ ∃ c ∈ a, ∃ e ∈ b, d = unF c e
  |[],_,h=>.inl h
  | c :: a, out, h => by
    rcases mem_prdF (a:=a) (out:=prC out c b) h with h|⟨c',h1,e,h2,h3⟩
    · rcases mem_wths h with h|h
      · exact .inl h
      · obtain ⟨e,he,rfl⟩:=List.mem_map.1 h
        exact .inr ⟨c,List.mem_cons_self ..,e,he,rfl⟩
    · exact .inr ⟨c',List.mem_cons_of_mem _ h1,e,h2,h3⟩
theorem mem_prd {a b:List Cl} {d:Cl} (h:d∈prd a b): ∃ c∈a,∃ e∈b,d=unF c e:=by
  rcases mem_prdF (out:=[]) h with h|h
  · exact absurd h List.not_mem_nil
  · exact h
def AllA (p:Fm→Prop) (s:List Cl):Prop:= ∀ c∈s,∀ x∈c,p x
theorem AllA.wths {p:Fm→Prop} {s t:List Cl} (hs:AllA p s) (ht:AllA p t):AllA p (wths s t):=fun c hc=>by
  rcases mem_wths hc with h|h
  · exact hs c h
  · exact ht c h
theorem AllA.prd {p:Fm→Prop} {s t:List Cl} (hs:AllA p s) (ht:AllA p t):AllA p (prd s t):=fun c hc x hx=>by
  obtain ⟨d,hd,e,he,rfl⟩:=mem_prd hc
  rcases mem_unF.1 hx with q|q
  · exact hs d hd x q
  · exact ht e he x q
structure GdS (s:List Cl):Prop where
  ant:Ant s
  at_:AtL s
  len:s.length≤64
theorem djL_good: ∀ {l:List Fm} {out s:List Cl},(∀ k,k < l.length→ ∀ t,cls (nth l k)=some t→GdS t)→Ant out→AtL out→djL l out=some s→GdS s
  | [], out, s, _, h1, h2, h => by
    rw [djL] at h
    split at h
    · cases h
    · cases h; exact ⟨h1,h2,by omega⟩
  | f :: l, out, s, hk, h1, h2, h => by
    rw [djL] at h
    cases q:cls f with
    |none=>rw [q] at h; cases h
    | some t =>
      rw [q] at h
      have g:=hk 0 (by simp) t q
      exact djL_good (fun k hl t ht=>hk (k+1) (by simpa using hl) t ht) (wths_ant h1 g.ant.srt) (AllA.wths h2 g.at_) h
theorem cjL_good : ∀ {l : List Fm} {out s : List Cl}, (∀ k, k < l.length → ∀ t, cls (nth l k) = some t → GdS t) → GdS out → cjL l out = some s → GdS s
  |[],out,s,_,h1,h=>by rw [cjL] at h; cases h; exact h1
  | f :: l, out, s, hk, h1, h => by
    rw [cjL] at h
    cases q:cls f with
    |none=>rw [q] at h; cases h
    | some t =>
      rw [q] at h
      simp only at h
      split at h
      · cases h
      · rename_i hl
        have g:=hk 0 (by simp) t q
        exact cjL_good (fun k hl t ht=>hk (k+1) (by simpa using hl) t ht) ⟨prd_ant h1.ant,AllA.prd h1.at_ g.at_,by omega⟩ h
theorem good_one {x:Fm} (h:atB x.op):GdS [[x]]:=⟨Ant.one (List.pairwise_singleton _ _),fun c hc y hy=>by rw [List.mem_singleton.1 hc] at hy; rw [List.mem_singleton.1 hy]; exact h,by simp⟩
theorem good_unit:GdS [[]]:=⟨Ant.one List.Pairwise.nil,fun c hc y hy=>by rw [List.mem_singleton.1 hc] at hy; exact absurd hy List.not_mem_nil,by simp⟩
theorem cls_good (f:Fm):okF f=true→ ∀ s,cls f=some s→GdS s:=by
  refine fm_ind (p:=fun f=>okF f=true→ ∀ s,cls f=some s→GdS s) (fun f ih hf s hs=>?_) f
  obtain ⟨hr,hk⟩:=okF_parts hf
  obtain ⟨r1,r2,_⟩:=rgt_ok hr
  have K: ∀ k,k < f.kids.length→ ∀ t,cls (nth f.kids k)=some t→GdS t:=fun k h=>ih k h (hk k h)
  by_cases h1:f.op=1
  · rw [cls_1 h1] at hs; cases hs; exact good_unit
  by_cases h4:f.op=4
  · by_cases q:(nth f.kids 0).op=1
    · rw [cls_4 h4 q] at hs; cases hs; exact ⟨Ant.nil,fun c hc=>absurd hc List.not_mem_nil,by simp⟩
    · rw [cls_4n h4 q] at hs; cases hs; exact good_one (by unfold atB; omega)
  by_cases h23:f.op=2∨f.op=3
  · rw [cls_23 h23] at hs; cases hs; exact good_one (by unfold atB; omega)
  by_cases h6:f.op=6
  · rw [cls_6 h6] at hs; exact djL_good K Ant.nil (fun c hc=>absurd hc List.not_mem_nil) hs
  by_cases h5:f.op=5
  · rw [cls_5 h5] at hs; exact cjL_good K good_unit hs
  rw [cls_t (by omega)] at hs
  cases q:canL f.kids with
  |none=>rw [q] at hs; cases hs
  |some l=>rw [q] at hs; cases hs; exact good_one (show atB f.op by unfold atB; omega)
mutual
def evF (S : Fm → Bool) : Fm → Bool
  | .nd o a k => if o = 1 then true else if o = 4 then (if (nth k 0).op = 1 then false else S (.nd o a k)) else if o = 2 ∨ o = 3 then S (.nd o a k)
    else if o=6 then evAny S k else if o=5 then evAll S k else S (.nd o 0 ((canL k).getD []))
def evAny (S:Fm→Bool):List Fm→Bool
  |[]=>false
  |f::l=>evF S f||evAny S l
def evAll (S:Fm→Bool):List Fm→Bool
  |[]=>true
  |f::l=>evF S f&&evAll S l
end
theorem evF_eq (S:Fm→Bool) (f:Fm):evF S f=if f.op=1 then true else if f.op=4 then (if (nth f.kids 0).op=1 then false else S f) else if f.op=2∨f.op=3 then S f
    else if f.op=6 then evAny S f.kids else if f.op=5 then evAll S f.kids else S (.nd f.op 0 ((canL f.kids).getD [])):=by cases f; rw [evF]; rfl
theorem evAny_map (S:Fm→Bool): ∀ l:List Fm,evAny S l=l.any (evF S)
  |[]=>by rw [evAny]; rfl
  |f::l=>by rw [evAny,evAny_map S l]; rfl
theorem evAll_map (S:Fm→Bool): ∀ l:List Fm,evAll S l=l.all (evF S)
  |[]=>by rw [evAll]; rfl
  |f::l=>by rw [evAll,evAll_map S l]; rfl
theorem djL_ev {S:Fm→Bool}: ∀ {l:List Fm} {out s:List Cl},(∀ k,k < l.length→ ∀ t,cls (nth l k)=some t→evS S t=evF S (nth l k))→djL l out=some s→evS S s=(evS S out||evAny S l)
  | [], out, s, _, h => by
    rw [djL] at h
    split at h
    · cases h
    · cases h; rw [evAny,Bool.or_false]
  | f :: l, out, s, hk, h => by
    rw [djL] at h
    cases q:cls f with
    |none=>rw [q] at h; cases h
    | some t =>
      rw [q] at h
      have g:=hk 0 (by simp) t q
      rw [djL_ev (fun k hl t ht=>hk (k+1) (by simpa using hl) t ht) h,evS_wths,g,evAny,Bool.or_assoc]; rfl
theorem cjL_ev {S : Fm → Bool} : ∀ {l : List Fm} {out s : List Cl}, (∀ k, k < l.length → ∀ t, cls (nth l k) = some t → evS S t = evF S (nth l k)) → cjL l out = some s → evS S s = (evS S out && evAll S l)
  |[],out,s,_,h=>by rw [cjL] at h; cases h; rw [evAll,Bool.and_true]
  | f :: l, out, s, hk, h => by
    rw [cjL] at h
    cases q:cls f with
    |none=>rw [q] at h; cases h
    | some t =>
      rw [q] at h
      simp only at h
      split at h
      · cases h
      · have g:=hk 0 (by simp) t q
        rw [cjL_ev (fun k hl t ht=>hk (k+1) (by simpa using hl) t ht) h,evS_prd,g,evAll,Bool.and_assoc]; rfl
theorem cls_ev (S:Fm→Bool) (f:Fm):okF f=true→ ∀ s,cls f=some s→evS S s=evF S f:=by
  refine fm_ind (p:=fun f=>okF f=true→ ∀ s,cls f=some s→evS S s=evF S f) (fun f ih hf s hs=>?_) f
  obtain ⟨hr,hk⟩:=okF_parts hf
  have K: ∀ k,k < f.kids.length→ ∀ t,cls (nth f.kids k)=some t→evS S t=evF S (nth f.kids k):=fun k h=>ih k h (hk k h)
  have one: ∀ x:Fm,evS S [[x]]=S x:=fun x=>by simp [evS,evC]
  rw [evF_eq]
  by_cases h1:f.op=1
  · rw [cls_1 h1] at hs; cases hs; rw [if_pos h1]; rfl
  rw [if_neg h1]
  by_cases h4:f.op=4
  · rw [if_pos h4]
    by_cases q:(nth f.kids 0).op=1
    · rw [cls_4 h4 q] at hs; cases hs; rw [if_pos q]; rfl
    · rw [cls_4n h4 q] at hs; cases hs; rw [if_neg q]; exact one f
  rw [if_neg h4]
  by_cases h23:f.op=2∨f.op=3
  · rw [cls_23 h23] at hs; cases hs; rw [if_pos h23]; exact one f
  rw [if_neg h23]
  by_cases h6:f.op=6
  · rw [cls_6 h6] at hs; rw [if_pos h6,djL_ev K hs]; rfl
  rw [if_neg h6]
  by_cases h5:f.op=5
  · rw [cls_5 h5] at hs; rw [if_pos h5,cjL_ev K hs]; rfl
  rw [if_neg h5]
  rw [cls_t (by omega)] at hs
  cases q:canL f.kids with
  |none=>rw [q] at hs; cases hs
  |some l=>rw [q] at hs; cases hs; exact one _
end Go.Proofs.YteehaobohaecmaaGreatDoor
namespace Go.Proofs.YteehaobohaecmaaGreatDoor
open Go
theorem any_perm {α:Type} {p:α→Bool} {l m:List α} (h:l.Perm m):l.any p=m.any p:=bool_ext (by
  rw [List.any_eq_true,List.any_eq_true]
  exact ⟨fun ⟨x,hx,e⟩=>⟨x,h.mem_iff.1 hx,e⟩,fun ⟨x,hx,e⟩=>⟨x,h.mem_iff.2 hx,e⟩⟩)
theorem fin_cases (s:List Cl):(s=[]∧fin s=noF)∨([]∈s∧fin s=yesF)∨(∃ c,c≠[]∧s=[c]∧fin s=clF c)∨(2≤s.length∧[]∉s∧fin s=.nd 6 0 (sF (s.map clF))):=by
  unfold fin
  by_cases h0:s.length=0
  · exact .inl ⟨List.length_eq_zero_iff.1 h0,if_pos h0⟩
  rw [if_neg h0]
  by_cases h1:s.any (fun c=>decide (c.length=0))=true
  · refine .inr (.inl ⟨?_,if_pos h1⟩)
    obtain ⟨c,hc,e⟩:=List.any_eq_true.1 h1
    rw [List.length_eq_zero_iff.1 (of_decide_eq_true e)] at hc; exact hc
  rw [if_neg h1]
  have hn:[]∉s:=fun q=>h1 (List.any_eq_true.2 ⟨[],q,rfl⟩)
  by_cases h2:s.length=1
  · obtain ⟨c,rfl⟩:=List.length_eq_one_iff.1 h2
    exact .inr (.inr (.inl ⟨c,fun e=>hn (by rw [e]; exact List.mem_singleton.2 rfl),rfl,if_pos h2⟩))
  · exact .inr (.inr (.inr ⟨by omega,hn,if_neg h2⟩))
theorem fin_val {v:Fm→Bool} (h1:v yesF=true) (h0:v noF=false) (h5: ∀ l,v (.nd 5 0 l)=l.all v) (h6: ∀ l,v (.nd 6 0 l)=l.any v) (s:List Cl):v (fin s)=evS v s:=by
  have hc: ∀ c:Cl,c≠[]→v (clF c)=evC v c:=fun c hc=>by
    unfold clF
    split
    · rename_i q
      obtain ⟨x,rfl⟩:=List.length_eq_one_iff.1 q
      simp [evC]
      rfl
    · exact h5 c
  rcases fin_cases s with ⟨rfl,e⟩|⟨hm,e⟩|⟨c,hne,rfl,e⟩|⟨h2,hn,e⟩
  · rw [e,h0]; rfl
  · rw [e,h1]; exact (evS_iff.2 ⟨[],hm,rfl⟩).symm
  · rw [e,hc c hne]; simp [evS]
  · rw [e,h6,any_perm (srt_perm ordF _),List.any_map]
    refine bool_ext ?_
    rw [List.any_eq_true]
    unfold evS
    rw [List.any_eq_true]
    constructor
    · rintro ⟨c,h,q⟩; exact ⟨c,h,by rw [← hc c (fun k=>hn (k ▸ h))]; exact q⟩
    · rintro ⟨c,h,q⟩; exact ⟨c,h,by show v (clF c)=true; rw [hc c (fun k=>hn (k ▸ h))]; exact q⟩
theorem sat_fin (t:Tr) (i:Nat) (s:List Cl):sat t (fin s) i=evS (fun x=>sat t x i) s:=by
  refine fin_val (v:=fun x=>sat t x i) (by rw [sat_eq]; rfl) (by rw [sat_eq]; rfl) (fun l=>?_) (fun l=>?_) s
  · show sat t (.nd 5 0 l) i=_
    rw [sat_eq]; show List.all _ _=_; rw [List.all_map]; rfl
  · show sat t (.nd 6 0 l) i=_
    rw [sat_eq]; show List.any _ _=_; rw [List.any_map]; rfl
theorem djL_some: ∀ {l:List Fm} {out s:List Cl},djL l out=some s→ ∀ k,k < l.length→ ∃ t,cls (nth l k)=some t
  |[],_,_,_,k,h=>absurd h (Nat.not_lt_zero k)
  | f :: l, out, s, h, k, hk => by
    rw [djL] at h
    cases q:cls f with
    |none=>rw [q] at h; cases h
    | some t =>
      rw [q] at h
      cases k with
      |zero=>exact ⟨t,q⟩
      |succ k=>exact djL_some (k:=k) h (by simpa using hk)
theorem cjL_some : ∀ {l : List Fm} {out s : List Cl}, cjL l out = some s → ∀ k, k < l.length → ∃ t, cls (nth l k) = some t
  |[],_,_,_,k,h=>absurd h (Nat.not_lt_zero k)
  | f :: l, out, s, h, k, hk => by
    rw [cjL] at h
    cases q:cls f with
    |none=>rw [q] at h; cases h
    | some t =>
      rw [q] at h
      simp only at h
      split at h
      · cases h
      · cases k with
        |zero=>exact ⟨t,q⟩
        |succ k=>exact cjL_some (k:=k) h (by simpa using hk)
theorem any_nth {p q:Fm→Bool} {l:List Fm} (h: ∀ k,k < l.length→p (nth l k)=q (nth l k)):l.any p=l.any q:=by
  refine bool_ext ?_
  rw [List.any_eq_true,List.any_eq_true]
  constructor <;> rintro ⟨x,hx,e⟩ <;> obtain ⟨j,hj,rfl⟩:=mem_nth hx
  · exact ⟨_,hx,by rw [← h j hj]; exact e⟩
  · exact ⟨_,hx,by rw [h j hj]; exact e⟩
theorem all_nth {p q:Fm→Bool} {l:List Fm} (h: ∀ k,k < l.length→p (nth l k)=q (nth l k)):l.all p=l.all q:=by
  refine bool_ext ?_
  rw [List.all_eq_true,List.all_eq_true]
  constructor <;> intro g x hx <;> obtain ⟨j,hj,rfl⟩:=mem_nth hx
  · rw [← h j hj]; exact g _ hx
  · rw [h j hj]; exact g _ hx
theorem ev_sat (t:Tr) (f:Fm):okF f=true→ ∀ s,cls f=some s→ ∀ i,evF (fun x=>sat t x i) f=sat t f i:=by
  refine fm_ind (p:=fun f=>okF f=true→ ∀ s,cls f=some s→ ∀ i,evF (fun x=>sat t x i) f=sat t f i) (fun f ih hf s hs i=>?_) f
  obtain ⟨hr,hk⟩:=okF_parts hf
  obtain ⟨r1,r2,r3,r4,r5,r6,r7,r8,r9⟩:=rgt_ok hr
  rw [evF_eq]
  by_cases h1:f.op=1
  · rw [if_pos h1,sat_eq,h1]; rfl
  rw [if_neg h1]
  by_cases h4:f.op=4
  · rw [if_pos h4]
    by_cases q:(nth f.kids 0).op=1
    · rw [if_pos q,sat_eq,h4]
      show _= !(nth (f.kids.map (sat t)) 0 i)
      rw [nthM (by have:=r4 (.inl h4); omega),sat_eq,q]; rfl
    · rw [if_neg q]
  rw [if_neg h4]
  by_cases h23:f.op=2∨f.op=3
  · rw [if_pos h23]
  rw [if_neg h23]
  by_cases h6:f.op=6
  · rw [cls_6 h6] at hs
    rw [if_pos h6,evAny_map,sat_eq,h6]
    show _=List.any _ _
    rw [List.any_map]
    exact any_nth fun k h=>by obtain ⟨u,hu⟩:=djL_some hs k h; exact ih k h (hk k h) u hu i
  rw [if_neg h6]
  by_cases h5:f.op=5
  · rw [cls_5 h5] at hs
    rw [if_pos h5,evAll_map,sat_eq,h5]
    show _=List.all _ _
    rw [List.all_map]
    exact all_nth fun k h=>by obtain ⟨u,hu⟩:=cjL_some hs k h; exact ih k h (hk k h) u hu i
  rw [if_neg h5]
  rw [cls_t (by omega)] at hs
  cases q:canL f.kids with
  |none=>rw [q] at hs; cases hs
  | some l =>
    have hl:=canL_len q
    rw [Option.getD_some,sat_eq,sat_eq t f,r7 (by omega)]
    show satO t f.op 0 (l.map (sat t)) i=_
    congr 1
    refine List.ext_getElem (by simpa using hl) fun k p1 p2=>?_
    rw [List.length_map] at p1 p2
    rw [List.getElem_map,List.getElem_map,nth_getElem p1,nth_getElem p2]
    have hc:=canL_nth q p2
    unfold can at hc
    cases q2:cls (nth f.kids k) with
    |none=>rw [q2] at hc; cases hc
    | some u =>
      rw [q2] at hc
      injection hc with hc
      rw [← hc]
      funext j
      rw [sat_fin,cls_ev _ _ (hk k p2) u q2]
      exact ih k p2 (hk k p2) u q2 j
theorem can_sat {t:Tr} {f g:Fm} (hf:okF f=true) (h:can f=some g) (i:Nat):sat t g i=sat t f i:=by
  unfold can at h
  cases q:cls f with
  |none=>rw [q] at h; cases h
  | some s =>
    rw [q] at h
    injection h with h
    rw [← h,sat_fin,cls_ev _ _ hf s q]
    exact ev_sat t f hf s q i
structure CA (x:Fm):Prop where
  ok:okF x=true
  nn:nnf x=true
  sh:(x.op=2∨x.op=3)∨(x.op=4∧(nth x.kids 0).op≠1)∨((x.op=7∨x.op=8∨x.op=9∨x.op=10)∧canL x.kids=some x.kids)
theorem CA.at_ {x:Fm} (h:CA x):atB x.op:=by
  unfold atB
  rcases h.sh with h|⟨h,_⟩|⟨h,_⟩ <;> omega
theorem CA.cls {x:Fm} (h:CA x):cls x=some [[x]]:=by
  rcases h.sh with q|⟨q,q2⟩|⟨q,q2⟩
  · exact cls_23 q
  · exact cls_4n q q2
  · rw [cls_t (by omega),q2]
    have ha:x.arg=0:=(rgt_ok (okF_parts h.ok).1).2.2.2.2.2.2.1 (by omega)
    have e:Fm.nd x.op 0 x.kids=x:=by rw [← ha]; exact x.eta
    show some [[Fm.nd x.op 0 x.kids]]=_
    rw [e]
theorem CA.ev {x:Fm} (h:CA x) (S:Fm→Bool):evF S x=S x:=by
  have:=cls_ev S x h.ok _ h.cls
  rw [← this]; simp [evS,evC]
theorem okF_fin {s:List Cl} (ha:AllA CA s):okF (fin s)=true∧nnf (fin s)=true:=by
  have hcl: ∀ c∈s,c≠[]→okF (clF c)=true∧nnf (clF c)=true∧(clF c).op≠1:=fun c hc hne=>by
    unfold clF
    split
    · rename_i q
      have hm:nth c 0∈c:=nth_mem (by omega)
      have:=(ha c hc _ hm).at_
      exact ⟨(ha c hc _ hm).ok,(ha c hc _ hm).nn,by unfold atB at this; omega⟩
    · rename_i q
      have hl:c.length≠0:=fun e=>hne (List.length_eq_zero_iff.1 e)
      refine ⟨okF_nd (.inr (.inr ⟨.inl rfl,by omega⟩)) (List.all_eq_true.2 fun x hx=>(ha c hc x hx).ok),nnf_of fun k hk=>⟨fun e=>absurd (show (5:Int)=4 from e) (by decide),?_⟩,(by decide:(5:Int)≠1)⟩
      exact (ha c hc _ (nth_mem hk)).nn
  rcases fin_cases s with ⟨rfl,e⟩|⟨hm,e⟩|⟨c,hne,rfl,e⟩|⟨h2,hn,e⟩
  · rw [e]; exact ⟨by decide+kernel,by decide+kernel⟩
  · rw [e]; exact ⟨by decide+kernel,by decide+kernel⟩
  · rw [e]; exact ⟨(hcl c (List.mem_singleton.2 rfl) hne).1,(hcl c (List.mem_singleton.2 rfl) hne).2.1⟩
  · rw [e]
    have hl:(sF (s.map clF)).length=s.length:=by rw [sF_len,List.length_map]
    have hk: ∀ x∈sF (s.map clF),okF x=true∧nnf x=true:=fun x hx=>by
      obtain ⟨c,hc,rfl⟩:=List.mem_map.1 (mem_sF.1 hx)
      have:=hcl c hc (fun k=>hn (k ▸ hc))
      exact ⟨this.1,this.2.1⟩
    refine ⟨okF_nd (.inr (.inr ⟨.inr rfl,by omega⟩)) (List.all_eq_true.2 fun x hx=>(hk x hx).1),nnf_of fun k hk2=>⟨fun e=>absurd (show (6:Int)=4 from e) (by decide),(hk _ (nth_mem hk2)).2⟩⟩
theorem djL_ok: ∀ {l:List Fm} {out:List Cl},(∀ k,k < l.length→ ∃ c,cls (nth l k)=some [c])→out.length+l.length≤64→ ∃ s,djL l out=some s
  |[],out,_,h=>⟨out,by rw [djL,if_neg (by simpa using h)]⟩
  | f :: l, out, hk, h => by
    obtain ⟨c,hc⟩:=hk 0 (by simp)
    have h1:=wths_len [c] out
    have e:cls f=some [c]:=hc
    obtain ⟨s,hs⟩:=djL_ok (l:=l) (out:=wths out [c]) (fun k hl=>hk (k+1) (by simpa using hl)) (by simp only [List.length_cons,List.length_nil] at h h1; omega)
    exact ⟨s,by rw [djL,e]; exact hs⟩
theorem cjL_ok: ∀ {l:List Fm} {out:List Cl},(∀ k,k < l.length→ ∃ c,cls (nth l k)=some [c])→out.length≤1→ ∃ s,cjL l out=some s∧s.length≤1
  |[],out,_,h=>⟨out,by rw [cjL],h⟩
  | f :: l, out, hk, h => by
    obtain ⟨c,hc⟩:=hk 0 (by simp)
    have h1:(prd out [c]).length≤0+out.length*1:=prdF_len [c] out []
    have e:cls f=some [c]:=hc
    obtain ⟨s,hs,hl⟩:=cjL_ok (l:=l) (out:=prd out [c]) (fun k hl=>hk (k+1) (by simpa using hl)) (by omega)
    exact ⟨s,by rw [cjL,e]; show (if _ then _ else _)=_; rw [if_neg (by omega)]; exact hs,hl⟩
theorem clF_one {c:Cl} (hc:SrtF c) (ha: ∀ x∈c,CA x) (hne:c≠[]): ∃ d,cls (clF c)=some [d]:=by
  have hl:c.length≠0:=fun e=>hne (List.length_eq_zero_iff.1 e)
  by_cases q:c.length=1
  · unfold clF
    rw [if_pos q]
    exact ⟨_,(ha _ (nth_mem (show 0 < c.length by omega))).cls⟩
  · have e:clF c=.nd 5 0 c:=if_neg q
    obtain ⟨s,hs,hl2⟩:=cjL_ok (l:=c) (out:=[[]]) (fun k hk=>⟨_,(ha _ (nth_mem hk)).cls⟩) (by simp)
    rw [e,cls_5 rfl]
    show ∃ d,cjL c [[]]=some [d]
    rw [hs]
    match s,hl2 with
    |[d],_=>exact ⟨d,rfl⟩
    | [], _ =>
      exfalso
      have h1:=cjL_ev (S:=fun _=>true) (fun k hk t ht=>by rw [(ha _ (nth_mem hk)).cls] at ht; cases ht; rw [(ha _ (nth_mem hk)).ev]; simp [evS,evC]) hs
      rw [evAll_map] at h1
      have h2:c.all (evF fun _=>true)=true:=List.all_eq_true.2 fun x hx=>(ha x hx).ev _
      rw [h2] at h1
      cases h1
theorem idem {s : List Cl} (hs : GdS s) (ha : AllA CA s) : can (fin s) = some (fin s) := by
  obtain ⟨hok,_⟩:=okF_fin ha
  have hsome: ∃ u,cls (fin s)=some u:=by
    rcases fin_cases s with ⟨rfl,e⟩|⟨hm,e⟩|⟨c,hne,rfl,e⟩|⟨h2,hn,e⟩
    · rw [e]; exact ⟨[],cls_4 rfl rfl⟩
    · rw [e]; exact ⟨[[]],cls_1 rfl⟩
    · rw [e]
      obtain ⟨d,hd⟩:=clF_one (hs.ant.srt c (List.mem_singleton.2 rfl)) (ha c (List.mem_singleton.2 rfl)) hne
      exact ⟨_,hd⟩
    · rw [e,cls_6 rfl]
      refine djL_ok (fun k hk=>?_) ?_
      · obtain ⟨c,hc,e2⟩:=List.mem_map.1 (mem_sF.1 (nth_mem hk))
        show ∃ c,cls (nth (sF (s.map clF)) k)=some [c]
        rw [show nth (sF (s.map clF)) k=clF c from e2.symm]
        exact clF_one (hs.ant.srt c hc) (ha c hc) fun q=>hn (q ▸ hc)
      · show 0+(sF (s.map clF)).length≤64
        rw [sF_len,List.length_map]; have:=hs.len; omega
  obtain ⟨u,hu⟩:=hsome
  have gu:=cls_good _ hok u hu
  have he: ∀ S,evS S u=evS S s:=fun S=>by
    rw [cls_ev S _ hok u hu]
    have:=fin_val (v:=evF S) (by rw [evF_eq]; rfl) (by rw [evF_eq]; rfl) (fun l=>by rw [evF_eq]; exact evAll_map S l) (fun l=>by rw [evF_eq]; exact evAny_map S l) s
    rw [this]
    refine bool_ext ?_
    rw [evS_iff,evS_iff]
    constructor <;> rintro ⟨c,hc,q⟩ <;> refine ⟨c,hc,evC_iff.2 fun x hx=>?_⟩
    · have:=evC_iff.1 q x hx; rwa [(ha c hc x hx).ev] at this
    · rw [(ha c hc x hx).ev]; exact evC_iff.1 q x hx
  unfold can
  rw [hu]
  show some (fin u)=_
  rw [fin_perm (ant_perm gu.ant hs.ant he) gu.ant hs.ant gu.at_.ats]
theorem djL_CA: ∀ {l:List Fm} {out s:List Cl},(∀ k,k < l.length→ ∀ t,cls (nth l k)=some t→AllA CA t)→AllA CA out→djL l out=some s→AllA CA s
  | [], out, s, _, h1, h => by
    rw [djL] at h
    split at h
    · cases h
    · cases h; exact h1
  | f :: l, out, s, hk, h1, h => by
    rw [djL] at h
    cases q:cls f with
    |none=>rw [q] at h; cases h
    | some t =>
      rw [q] at h
      exact djL_CA (fun k hl t ht=>hk (k+1) (by simpa using hl) t ht) (AllA.wths h1 (hk 0 (by simp) t q)) h
theorem cjL_CA: ∀ {l:List Fm} {out s:List Cl},(∀ k,k < l.length→ ∀ t,cls (nth l k)=some t→AllA CA t)→AllA CA out→cjL l out=some s→AllA CA s
  |[],out,s,_,h1,h=>by rw [cjL] at h; cases h; exact h1
  | f :: l, out, s, hk, h1, h => by
    rw [cjL] at h
    cases q:cls f with
    |none=>rw [q] at h; cases h
    | some t =>
      rw [q] at h
      simp only at h
      split at h
      · cases h
      · exact cjL_CA (fun k hl t ht=>hk (k+1) (by simpa using hl) t ht) (AllA.prd h1 (hk 0 (by simp) t q)) h
theorem nnf_kid {f:Fm} (h:nnf f=true) {k:Nat} (hk:k < f.kids.length):nnf (nth f.kids k)=true∧(f.op=4→(nth f.kids k).op≤3):=by
  rw [nnf_eq,List.all_eq_true] at h
  have:=h _ (nth_mem hk)
  rw [Bool.not_eq_true',Bool.or_eq_false_iff,Bool.not_eq_false',decide_eq_false_iff_not] at this
  exact ⟨this.2,by have:=this.1; omega⟩
theorem all_one {x:Fm} (h:CA x):AllA CA [[x]]:=fun c hc y hy=>by rw [List.mem_singleton.1 hc] at hy; rw [List.mem_singleton.1 hy]; exact h
theorem cls_CA (f : Fm) : okF f = true → nnf f = true → ∀ s, cls f = some s → AllA CA s := by
  refine fm_ind (p:=fun f=>okF f=true→nnf f=true→ ∀ s,cls f=some s→AllA CA s) (fun f ih hf hn s hs=>?_) f
  obtain ⟨hr,hk⟩:=okF_parts hf
  obtain ⟨r1,r2,r3,r4,r5,r6,r7,r8,r9⟩:=rgt_ok hr
  have K: ∀ k,k < f.kids.length→ ∀ t,cls (nth f.kids k)=some t→AllA CA t:=fun k h=>ih k h (hk k h) (nnf_kid hn h).1
  by_cases h1:f.op=1
  · rw [cls_1 h1] at hs; cases hs; exact fun c hc x hx=>by rw [List.mem_singleton.1 hc] at hx; exact absurd hx List.not_mem_nil
  by_cases h4:f.op=4
  · by_cases q:(nth f.kids 0).op=1
    · rw [cls_4 h4 q] at hs; cases hs; exact fun c hc=>absurd hc List.not_mem_nil
    · rw [cls_4n h4 q] at hs; cases hs; exact all_one ⟨hf,hn,.inr (.inl ⟨h4,q⟩)⟩
  by_cases h23:f.op=2∨f.op=3
  · rw [cls_23 h23] at hs; cases hs; exact all_one ⟨hf,hn,.inl h23⟩
  by_cases h6:f.op=6
  · rw [cls_6 h6] at hs; exact djL_CA K (fun c hc=>absurd hc List.not_mem_nil) hs
  by_cases h5:f.op=5
  · rw [cls_5 h5] at hs; exact cjL_CA K (fun c hc x hx=>by rw [List.mem_singleton.1 hc] at hx; exact absurd hx List.not_mem_nil) hs
  rw [cls_t (by omega)] at hs
  cases q:canL f.kids with
  |none=>rw [q] at hs; cases hs
  | some l =>
    rw [q] at hs
    cases hs
    have hl:=canL_len q
    have kid: ∀ k,k < l.length→okF (nth l k)=true∧nnf (nth l k)=true∧can (nth l k)=some (nth l k):=fun k h=>by
      have hc:=canL_nth q (k:=k) (by omega)
      unfold can at hc
      cases q2:cls (nth f.kids k) with
      |none=>rw [q2] at hc; cases hc
      | some u =>
        rw [q2] at hc
        injection hc with hc
        have ca:=K k (by omega) u q2
        rw [← hc]
        exact ⟨(okF_fin ca).1,(okF_fin ca).2,idem (cls_good _ (hk k (by omega)) u q2) ca⟩
    refine all_one ⟨okF_nd ?_ (List.all_eq_true.2 fun x hx=>by obtain ⟨j,hj,rfl⟩:=mem_nth hx; exact (kid j hj).1),nnf_of fun k h=>⟨fun e=>absurd (show f.op=4 from e) h4,(kid k h).2.1⟩,.inr (.inr ⟨show f.op=7∨f.op=8∨f.op=9∨f.op=10 by omega,?_⟩)⟩
    · rw [hl]
      by_cases a:f.op=7∨f.op=9
      · exact .inl ⟨.inr a,r4 (by omega)⟩
      · exact .inr (.inl ⟨by omega,r6 (by omega)⟩)
    · show canL l=some l
      have key: ∀ m:List Fm,(∀ k,k < m.length→can (nth m k)=some (nth m k))→canL m=some m:=by
        intro m
        induction m with
        |nil=>intro _; rw [canL]
        | cons g m ihm =>
          intro h
          have h0:can g=some g:=h 0 (by simp)
          have:=canL_go (l:=g::m) (k:=0) (by simp) h0
          rw [List.drop_zero] at this
          rw [this]
          show (canL m).map _=_
          rw [ihm fun k hk=>h (k+1) (by simpa using hk)]; rfl
      exact key l fun k h=>(kid k h).2.2
structure Canon (g:Fm):Prop where
  ok:okF g=true
  nn:nnf g=true
  id:can g=some g
theorem can_canon {f g:Fm} (hf:okF f=true) (hn:nnf f=true) (h:can f=some g):Canon g:=by
  unfold can at h
  cases q:cls f with
  |none=>rw [q] at h; cases h
  | some s =>
    rw [q] at h
    injection h with h
    have ca:=cls_CA f hf hn s q
    rw [← h]
    exact ⟨(okF_fin ca).1,(okF_fin ca).2,idem (cls_good f hf s q) ca⟩
end Go.Proofs.YteehaobohaecmaaGreatDoor
namespace Go.Proofs.YteehaobohaecmaaGreatDoor
open Go
structure PE where
  ia:List (List UInt8)
  oa:List (List UInt8)
  src:List UInt8
structure PS where
  pos:Nat
  wd:List UInt8
  dep:Nat
instance:Inhabited PS:=⟨⟨0,[],0⟩⟩
inductive PR (α:Type) where
  |ok (a:α) (s:PS)
  |er (pos:Nat) (e:Int)
def failC (ty:TypeId) (a:Nat) (e:Int):Value:=.iface ty (.agg #[.int .i64 ((a:Nat):Int),.int .i64 e])
def pCells (e:PE) (s:PS):List V:=[.sl (e.ia.map cS),.sl (e.oa.map cS),.str e.src,iV (s.pos:Nat),.str s.wd,iV (s.dep:Nat)]
def PR.out {α:Type} (ty tf v:Nat) (e:PE) (fv:α→V):PR α→LOut
  | .ok a s=>.ok (fv a) (hpB (bk v ty 6 [pCells e s]))
  | .er p x=>.pan (failC tf p x)
abbrev fmV (f:Fm):V:=.agg [iV f.op,iV f.arg,.sl (f.kids.map cF)]
def skp:List UInt8→Nat→Nat
  |[],p=>p
  |c::l,p=>if c=32 then skp l (p+1) else p
def wlen:List UInt8→Nat
  |[]=>0
  |c::l=>if wby c=true then wlen l+1 else 0
def tok (r:List UInt8):List UInt8:=
  if r=[] then [] else if prB r [45,62]=true then [45,62] else if 0≤Lib.indexByte [33,38,124,40,41] (nth r 0) then r.take 1 else r.take (wlen r)
def pNext (e:PE) (s:PS):PR Unit:=
  let p:=skp (e.src.drop (s.pos+s.wd.length)) (s.pos+s.wd.length)
  if e.src.drop p≠[]∧tok (e.src.drop p)=[] then .er p 5 else .ok () ⟨p,tok (e.src.drop p),s.dep⟩
theorem skp_ge: ∀ (l:List UInt8) (p:Nat),p≤skp l p∧skp l p≤p+l.length
  |[],p=>⟨Nat.le_refl _,Nat.le_refl _⟩
  | c :: l, p => by
    simp only [skp]
    split
    · have:=skp_ge l (p+1); simp; omega
    · simp
def pPart (e : PE) (rd : PS → Option (PR Fm)) (s : PS) : Option (PR Fm) :=
  match pNext e s with
  | .er a x=>some (.er a x)
  | .ok _ s1 => if 128 < s1.dep + 1 then some (.er s1.pos 16) else match rd { s1 with dep := s1.dep + 1 } with
    |none=>none
    |some (.er a x)=>some (.er a x)
    |some (.ok f s2)=>some (.ok f {s2 with dep:=s2.dep - 1})
def pMore (e : PE) (w : List UInt8) (rd : PS → Option (PR Fm)) : Nat → List Fm → PS → Option (PR (List Fm))
  |0,_,_=>none
  | k + 1, l, s => if s.wd = w then match pNext e s with
      | .er a x=>some (.er a x)
      | .ok _ s1 => match rd s1 with
        |none=>none
        |some (.er a x)=>some (.er a x)
        |some (.ok f s2)=>pMore e w rd k (l++[f]) s2
    else some (.ok l s)
def oneOr (op:Int) (l:List Fm):Fm:=if l.length=1 then nth l 0 else .nd op 0 l
def finSev (op:Int):Option (PR (List Fm))→Option (PR Fm)
  |none=>none
  |some (.er a x)=>some (.er a x)
  |some (.ok l s)=>some (.ok (oneOr op l) s)
def pSev (e:PE) (w:List UInt8) (op:Int) (rd:PS→Option (PR Fm)) (k:Nat) (s:PS):Option (PR Fm):=
  match rd s with
  |none=>none
  |some (.er a x)=>some (.er a x)
  |some (.ok f s1)=>finSev op (pMore e w rd k [f] s1)
def cutP (p s:List UInt8):List UInt8:=if prB s p=true then s.drop p.length else s
def pAtom (e : PE) (s : PS) : PR Fm :=
  let r:Option (PR Fm):=
    if prB s.wd [105,110,58]=true then (if ixB e.ia (cutP [105,110,58] s.wd)=true then none else some (.er s.pos 8))
    else if prB s.wd [111,117,116,58]=true then (if ixB e.oa (cutP [111,117,116,58] s.wd)=true then none else some (.er s.pos 8))
    else if s.wd=[102,97,108,115,101] then none
    else if s.wd=[116,114,117,101] then none else some (.er s.pos 5)
  let f:Fm:=
    if prB s.wd [105,110,58]=true then .nd 2 (ixV e.ia (cutP [105,110,58] s.wd)) []
    else if prB s.wd [111,117,116,58]=true then .nd 3 (ixV e.oa (cutP [111,117,116,58] s.wd)) []
    else if s.wd=[102,97,108,115,101] then .nd 4 0 [.nd 1 0 []] else .nd 1 0 []
  match r with
  |some q=>q
  | none => match pNext e s with
    | .er a x=>.er a x
    | .ok _ s1=>.ok f s1
inductive PK where
  |form|conj|bin|un
def mapP (g:Fm→Fm):Option (PR Fm)→Option (PR Fm)
  |none=>none
  |some (.er a x)=>some (.er a x)
  |some (.ok f s)=>some (.ok (g f) s)
def pF (e : PE) : Nat → PK → PS → Option (PR Fm)
  |0,_,_=>none
  | k + 1, .form, s => match pSev e [124] 6 (pF e k .conj) k s with
    |none=>none
    |some (.er a x)=>some (.er a x)
    |some (.ok f s1)=>if s1.wd=[45,62] then mapP (fun g=>.nd 6 0 [.nd 4 0 [f],g]) (pPart e (pF e k .form) s1) else some (.ok f s1)
  |k+1,.conj,s=>pSev e [38] 5 (pF e k .bin) k s
  | k + 1, .bin, s => match pF e k .un s with
    |none=>none
    |some (.er a x)=>some (.er a x)
    |some (.ok f s1)=>if s1.wd=[85] then mapP (fun g=>.nd 8 0 [f,g]) (pPart e (pF e k .bin) s1) else if s1.wd=[82] then mapP (fun g=>.nd 10 0 [f,g]) (pPart e (pF e k .bin) s1) else some (.ok f s1)
  | k + 1, .un, s =>
    if s.wd=[33] then mapP (fun g=>.nd 4 0 [g]) (pPart e (pF e k .un) s)
    else if s.wd=[88] then mapP (fun g=>.nd 7 0 [g]) (pPart e (pF e k .un) s)
    else if s.wd=[78] then mapP (fun g=>.nd 9 0 [g]) (pPart e (pF e k .un) s)
    else if s.wd=[70] then mapP (fun g=>.nd 8 0 [.nd 1 0 [],g]) (pPart e (pF e k .un) s)
    else if s.wd=[71] then mapP (fun g=>.nd 10 0 [.nd 4 0 [.nd 1 0 []],g]) (pPart e (pF e k .un) s)
    else if s.wd=[40] then match pPart e (pF e k .form) s with
      |none=>none
      |some (.er a x)=>some (.er a x)
      | some (.ok f s1) => if s1.wd = [41] then match pNext e s1 with
          | .er a x=>some (.er a x)
          | .ok _ s2=>some (.ok f s2)
        else some (.er s1.pos 5)
    else some (pAtom e s)
structure OkS (e:PE) (s:PS):Prop where
  len:e.src.length≤1048576
  pos:s.pos+s.wd.length≤e.src.length
  dep:s.dep≤128
theorem tok_le (r:List UInt8):(tok r).length≤r.length:=by
  unfold tok
  split
  · simp
  · split
    · rename_i h; exact (of_decide_eq_true h).1
    · split
      · simp; omega
      · simp; omega
theorem pNext_inv {e:PE} {s s1:PS} {u:Unit} (hs:OkS e s) (h:pNext e s=.ok u s1):OkS e s1∧s1.dep=s.dep∧s.pos+s.wd.length≤s1.pos:=by
  unfold pNext at h
  simp only at h
  have h1:=skp_ge (e.src.drop (s.pos+s.wd.length)) (s.pos+s.wd.length)
  rw [List.length_drop] at h1
  split at h
  · cases h
  · cases h
    have h2:=tok_le (e.src.drop (skp (e.src.drop (s.pos+s.wd.length)) (s.pos+s.wd.length)))
    rw [List.length_drop] at h2
    have:=hs.pos
    refine ⟨⟨hs.len,?_,hs.dep⟩,rfl,h1.1⟩
    simp only
    omega
def Keeps (e:PE) (R:PS→Option (PR Fm)):Prop:= ∀ s f s1,OkS e s→R s=some (.ok f s1)→OkS e s1∧s1.dep=s.dep
theorem pPart_keeps {e : PE} {R : PS → Option (PR Fm)} (hR : Keeps e R) : Keeps e (pPart e R) := by
  intro s f s1 hs h
  unfold pPart at h
  cases hx:pNext e s with
  |er a x=>rw [hx] at h; cases h
  | ok u s2 =>
    rw [hx] at h
    obtain ⟨k1,k2,_⟩:=pNext_inv hs hx
    simp only at h
    split at h
    · cases h
    · rename_i hd
      have k3:OkS e {s2 with dep:=s2.dep+1}:=⟨k1.len,k1.pos,by show s2.dep+1≤128; omega⟩
      cases hy:R {s2 with dep:=s2.dep+1} with
      |none=>rw [hy] at h; cases h
      | some r =>
        rw [hy] at h
        cases r with
        |er a x=>cases h
        | ok g s3 =>
          cases h
          obtain ⟨k4,k5⟩:=hR _ _ _ k3 hy
          have k6:s3.dep=s2.dep+1:=k5
          exact ⟨⟨k4.len,k4.pos,by show s3.dep - 1≤128; omega⟩,by show s3.dep - 1=_; omega⟩
theorem pMore_keeps {e : PE} {w : List UInt8} {R : PS → Option (PR Fm)} (hR : Keeps e R) : ∀ (k : Nat) (l : List Fm) (s : PS) (l1 : List Fm) (s1 : PS), OkS e s → pMore e w R k l s = some (.ok l1 s1) → OkS e s1 ∧ s1.dep = s.dep
  |0,_,_,_,_,_,h=>by cases h
  | k + 1, l, s, l1, s1, hs, h => by
    rw [pMore] at h
    split at h
    · cases hx : pNext e s with
      |er a x=>rw [hx] at h; cases h
      | ok u s2 =>
        rw [hx] at h
        obtain ⟨k1,k2,_⟩:=pNext_inv hs hx
        simp only at h
        cases hy:R s2 with
        |none=>rw [hy] at h; cases h
        | some r =>
          rw [hy] at h
          cases r with
          |er a x=>cases h
          | ok g s3 =>
            obtain ⟨k3,k4⟩:=hR _ _ _ k1 hy
            obtain ⟨k5,k6⟩:=pMore_keeps hR k _ _ _ _ k3 h
            exact ⟨k5,by omega⟩
    · cases h; exact ⟨hs,rfl⟩
theorem pSev_keeps {e : PE} {w : List UInt8} {op : Int} {R : PS → Option (PR Fm)} {k : Nat} (hR : Keeps e R) : Keeps e (pSev e w op R k) := by
  intro s f s1 hs h
  unfold pSev at h
  cases hx:R s with
  |none=>rw [hx] at h; cases h
  | some r =>
    rw [hx] at h
    cases r with
    |er a x=>cases h
    | ok g s2 =>
      obtain ⟨k1,k2⟩:=hR _ _ _ hs hx
      simp only at h
      cases hy:pMore e w R k [g] s2 with
      |none=>rw [hy] at h; cases h
      | some r =>
        rw [hy] at h
        cases r with
        |er a x=>cases h
        | ok l s3 =>
          cases h
          obtain ⟨k3,k4⟩:=pMore_keeps hR k _ _ _ _ k1 hy
          exact ⟨k3,by omega⟩
theorem mapP_keeps {e:PE} {g:Fm→Fm} {R:PS→Option (PR Fm)} (hR:Keeps e R):Keeps e fun s=>mapP g (R s):=by
  intro s f s1 hs h
  simp only at h
  cases hx:R s with
  |none=>rw [hx] at h; cases h
  | some r =>
    rw [hx] at h
    cases r with
    |er a x=>cases h
    |ok q s2=>cases h; exact hR _ _ _ hs hx
theorem pAtom_keeps {e : PE} {s s1 : PS} {f : Fm} (hs : OkS e s) (h : pAtom e s = .ok f s1) : OkS e s1 ∧ s1.dep = s.dep := by
  unfold pAtom at h
  simp only at h
  split at h
  · rename_i q hq
    subst h
    split at hq
    · split at hq <;> cases hq
    · split at hq
      · split at hq <;> cases hq
      · split at hq
        · cases hq
        · split at hq <;> cases hq
  · cases hx:pNext e s with
    |er a x=>rw [hx] at h; cases h
    |ok u s2=>rw [hx] at h; cases h; obtain ⟨k1,k2,_⟩:=pNext_inv hs hx; exact ⟨k1,k2⟩
theorem pF_keeps (e : PE) : ∀ (k : Nat) (K : PK), Keeps e (pF e k K)
  |0,_=>fun _ _ _ _ h=>by cases h
  | k + 1, .form => fun s f s1 hs h => by
    rw [pF] at h
    cases hx:pSev e [124] 6 (pF e k .conj) k s with
    |none=>rw [hx] at h; cases h
    | some r =>
      rw [hx] at h
      cases r with
      |er a x=>cases h
      | ok g s2 =>
        obtain ⟨k1,k2⟩:=pSev_keeps (pF_keeps e k .conj) _ _ _ hs hx
        simp only at h
        split at h
        · obtain ⟨k3,k4⟩:=mapP_keeps (pPart_keeps (pF_keeps e k .form)) _ _ _ k1 h
          exact ⟨k3,by omega⟩
        · cases h; exact ⟨k1,k2⟩
  |k+1,.conj=>fun s f s1 hs h=>by rw [pF] at h; exact pSev_keeps (pF_keeps e k .bin) _ _ _ hs h
  | k + 1, .bin => fun s f s1 hs h => by
    rw [pF] at h
    cases hx:pF e k .un s with
    |none=>rw [hx] at h; cases h
    | some r =>
      rw [hx] at h
      cases r with
      |er a x=>cases h
      | ok g s2 =>
        obtain ⟨k1,k2⟩:=pF_keeps e k .un _ _ _ hs hx
        simp only at h
        split at h
        · obtain ⟨k3,k4⟩:=mapP_keeps (pPart_keeps (pF_keeps e k .bin)) _ _ _ k1 h
          exact ⟨k3,by omega⟩
        · split at h
          · obtain ⟨k3,k4⟩:=mapP_keeps (pPart_keeps (pF_keeps e k .bin)) _ _ _ k1 h
            exact ⟨k3,by omega⟩
          · cases h; exact ⟨k1,k2⟩
  | k + 1, .un => fun s f s1 hs h => by
    rw [pF] at h
    have hu:=pPart_keeps (pF_keeps e k .un)
    split at h
    · exact mapP_keeps hu _ _ _ hs h
    · split at h
      · exact mapP_keeps hu _ _ _ hs h
      · split at h
        · exact mapP_keeps hu _ _ _ hs h
        · split at h
          · exact mapP_keeps hu _ _ _ hs h
          · split at h
            · exact mapP_keeps hu _ _ _ hs h
            · split at h
              · cases hx : pPart e (pF e k .form) s with
                |none=>rw [hx] at h; cases h
                | some r =>
                  rw [hx] at h
                  cases r with
                  |er a x=>cases h
                  | ok g s2 =>
                    obtain ⟨k1,k2⟩:=pPart_keeps (pF_keeps e k .form) _ _ _ hs hx
                    simp only at h
                    split at h
                    · cases hy:pNext e s2 with
                      |er a x=>rw [hy] at h; cases h
                      |ok u s3=>rw [hy] at h; cases h; obtain ⟨k3,k4,_⟩:=pNext_inv k1 hy; exact ⟨k3,by omega⟩
                    · cases h
              · injection h with h; exact pAtom_keeps hs h
end Go.Proofs.YteehaobohaecmaaGreatDoor
namespace Go.Proofs.YteehaobohaecmaaGreatDoor
open Go
abbrev wIn:List UInt8:=[105,110,58]
abbrev wOut:List UInt8:=[111,117,116,58]
abbrev wFa:List UInt8:=[102,97,108,115,101]
abbrev wTr:List UInt8:=[116,114,117,101]
def aft (e:PE) (s:PS) (f:Fm):PR Fm:=match pNext e s with
  | .er a x=>.er a x
  | .ok _ s1=>.ok f s1
theorem pAtom_in {e:PE} {s:PS} (q1:prB s.wd wIn=true):pAtom e s=if ixB e.ia (cutP wIn s.wd)=true then aft e s (.nd 2 (ixV e.ia (cutP wIn s.wd)) []) else .er s.pos 8:=by
  unfold pAtom
  simp only [if_pos q1]
  split
  · rename_i q h
    split at h
    · cases h
    · cases h; rename_i h; rw [if_neg h]
  · rename_i h
    split at h
    · rename_i h2; rw [if_pos h2]; rfl
    · cases h
theorem pAtom_out {e:PE} {s:PS} (q1: ¬prB s.wd wIn=true) (q2:prB s.wd wOut=true):pAtom e s=if ixB e.oa (cutP wOut s.wd)=true then aft e s (.nd 3 (ixV e.oa (cutP wOut s.wd)) []) else .er s.pos 8:=by
  unfold pAtom
  simp only [if_neg q1,if_pos q2]
  split
  · rename_i q h
    split at h
    · cases h
    · cases h; rename_i h; rw [if_neg h]
  · rename_i h
    split at h
    · rename_i h2; rw [if_pos h2]; rfl
    · cases h
theorem pAtom_fa {e:PE} {s:PS} (q1: ¬prB s.wd wIn=true) (q2: ¬prB s.wd wOut=true) (q3:s.wd=wFa):pAtom e s=aft e s (.nd 4 0 [.nd 1 0 []]):=by
  unfold pAtom; simp only [if_neg q1,if_neg q2,if_pos q3]; rfl
theorem pAtom_tr {e:PE} {s:PS} (q1: ¬prB s.wd wIn=true) (q2: ¬prB s.wd wOut=true) (q3: ¬s.wd=wFa) (q4:s.wd=wTr):pAtom e s=aft e s (.nd 1 0 []):=by
  unfold pAtom; simp only [if_neg q1,if_neg q2,if_neg q3,if_pos q4]; rfl
theorem pAtom_no {e:PE} {s:PS} (q1: ¬prB s.wd wIn=true) (q2: ¬prB s.wd wOut=true) (q3: ¬s.wd=wFa) (q4: ¬s.wd=wTr):pAtom e s=.er s.pos 5:=by
  unfold pAtom; simp only [if_neg q1,if_neg q2,if_neg q3,if_neg q4]
theorem pAtom_in0 {e:PE} {s:PS} (q1:prB s.wd wIn=true) (d: ¬ixB e.ia (cutP wIn s.wd)=true):pAtom e s=.er s.pos 8:=by rw [pAtom_in q1,if_neg d]
theorem pAtom_in1 {e:PE} {s:PS} (q1:prB s.wd wIn=true) (d:ixB e.ia (cutP wIn s.wd)=true):pAtom e s=aft e s (.nd 2 (ixV e.ia (cutP wIn s.wd)) []):=by rw [pAtom_in q1,if_pos d]
theorem pAtom_out0 {e:PE} {s:PS} (q1: ¬prB s.wd wIn=true) (q2:prB s.wd wOut=true) (d: ¬ixB e.oa (cutP wOut s.wd)=true):pAtom e s=.er s.pos 8:=by rw [pAtom_out q1 q2,if_neg d]
theorem pAtom_out1 {e:PE} {s:PS} (q1: ¬prB s.wd wIn=true) (q2:prB s.wd wOut=true) (d:ixB e.oa (cutP wOut s.wd)=true):pAtom e s=aft e s (.nd 3 (ixV e.oa (cutP wOut s.wd)) []):=by rw [pAtom_out q1 q2,if_pos d]
theorem aft_ok {e:PE} {s s1:PS} {u:Unit} {f:Fm} (h:pNext e s=.ok u s1):aft e s f=.ok f s1:=by unfold aft; rw [h]
theorem aft_er {e:PE} {s:PS} {a:Nat} {x:Int} {f:Fm} (h:pNext e s=.er a x):aft e s f=.er a x:=by unfold aft; rw [h]
theorem pAtom_wd (e : PE) (s : PS) : (∃ f, pAtom e s = aft e s f) ∨ ∃ x, pAtom e s = .er s.pos x := by
  by_cases q1:prB s.wd wIn=true
  · by_cases d:ixB e.ia (cutP wIn s.wd)=true
    · exact .inl ⟨_,pAtom_in1 q1 d⟩
    · exact .inr ⟨_,pAtom_in0 q1 d⟩
  · by_cases q2:prB s.wd wOut=true
    · by_cases d:ixB e.oa (cutP wOut s.wd)=true
      · exact .inl ⟨_,pAtom_out1 q1 q2 d⟩
      · exact .inr ⟨_,pAtom_out0 q1 q2 d⟩
    · by_cases q3:s.wd=wFa
      · exact .inl ⟨_,pAtom_fa q1 q2 q3⟩
      · by_cases q4:s.wd=wTr
        · exact .inl ⟨_,pAtom_tr q1 q2 q3 q4⟩
        · exact .inr ⟨_,pAtom_no q1 q2 q3 q4⟩
def Fin1 (s:PS) (o:Option (PR Fm)):Prop:= ∃ r,o=some r∧ ∀ f s1,r=.ok f s1→s.pos≤s1.pos
def Tot (e:PE) (n:Nat) (R:PS→Option (PR Fm)):Prop:= ∀ s,OkS e s→e.src.length - s.pos < n→Fin1 s (R s)
theorem pPart_tot {e : PE} {n : Nat} {R : PS → Option (PR Fm)} (hR : Tot e n R) {s : PS} (hs : OkS e s) (hw : s.wd ≠ []) (hn : e.src.length - s.pos < n + 1) : Fin1 s (pPart e R s) := by
  have hl:0 < s.wd.length:=List.length_pos_iff.2 hw
  unfold pPart
  cases hx:pNext e s with
  |er a x=>exact ⟨_,rfl,fun _ _ h=>by cases h⟩
  | ok u s2 =>
    obtain ⟨k1,k2,k3⟩:=pNext_inv hs hx
    simp only
    split
    · exact ⟨_,rfl,fun _ _ h=>by cases h⟩
    · rename_i hd
      have k4:OkS e {s2 with dep:=s2.dep+1}:=⟨k1.len,k1.pos,by show s2.dep+1≤128; omega⟩
      have:=hs.pos
      obtain ⟨r,h1,h2⟩:=hR _ k4 (by show e.src.length - s2.pos < n; omega)
      rw [h1]
      cases r with
      |er a x=>exact ⟨_,rfl,fun _ _ h=>by cases h⟩
      | ok f s3 =>
        refine ⟨_,rfl,fun _ _ h=>?_⟩
        cases h
        have:=h2 _ _ rfl
        show s.pos≤s3.pos
        have:s2.pos≤s3.pos:=this
        omega
theorem pMore_tot {e : PE} {n : Nat} {w : List UInt8} {R : PS → Option (PR Fm)} (hw : w ≠ []) (hR : Tot e n R) (hK : Keeps e R) : ∀ (k : Nat) (l : List Fm) (s : PS), OkS e s → e.src.length - s.pos < k → e.src.length - s.pos < n + 1 →
    ∃ r,pMore e w R k l s=some r∧ ∀ l1 s1,r=.ok l1 s1→s.pos≤s1.pos
  |0,_,_,_,h,_=>by omega
  | k + 1, l, s, hs, hk, hn => by
    rw [pMore]
    split
    · rename_i e1
      have hl:0 < s.wd.length:=List.length_pos_iff.2 (by rw [e1]; exact hw)
      cases hx:pNext e s with
      |er a x=>exact ⟨_,rfl,fun _ _ h=>by cases h⟩
      | ok u s2 =>
        obtain ⟨k1,k2,k3⟩:=pNext_inv hs hx
        have:=hs.pos
        obtain ⟨r,h1,h2⟩:=hR s2 k1 (by omega)
        simp only
        rw [h1]
        cases r with
        |er a x=>exact ⟨_,rfl,fun _ _ h=>by cases h⟩
        | ok f s3 =>
          have h3:=h2 _ _ rfl
          obtain ⟨k4,_⟩:=hK _ _ _ k1 h1
          obtain ⟨r,h4,h5⟩:=pMore_tot hw hR hK k (l++[f]) s3 k4 (by omega) (by omega)
          exact ⟨r,h4,fun _ _ h=>by have:=h5 _ _ h; omega⟩
    · exact ⟨_,rfl,fun _ _ h=>by cases h; exact Nat.le_refl _⟩
theorem pSev_tot {e:PE} {n:Nat} {w:List UInt8} {op:Int} {R:PS→Option (PR Fm)} {k:Nat} (hw:w≠[]) (hR:Tot e n R) (hK:Keeps e R) (hk:n≤k):Tot e n (pSev e w op R k):=by
  intro s hs hn
  obtain ⟨r,h1,h2⟩:=hR s hs hn
  unfold pSev
  rw [h1]
  cases r with
  |er a x=>exact ⟨_,rfl,fun _ _ h=>by cases h⟩
  | ok f s1 =>
    have h3:=h2 _ _ rfl
    obtain ⟨k4,_⟩:=hK _ _ _ hs h1
    obtain ⟨r,h4,h5⟩:=pMore_tot hw hR hK k [f] s1 k4 (by omega) (by omega)
    simp only
    rw [h4]
    cases r with
    |er a x=>exact ⟨_,rfl,fun _ _ h=>by cases h⟩
    |ok l s2=>exact ⟨_,rfl,fun _ _ h=>by cases h; have:=h5 _ _ rfl; omega⟩
theorem mapP_fin {s:PS} {g:Fm→Fm} {o:Option (PR Fm)} (h:Fin1 s o):Fin1 s (mapP g o):=by
  obtain ⟨r,rfl,h2⟩:=h
  cases r with
  |er a x=>exact ⟨_,rfl,fun _ _ h=>by cases h⟩
  |ok f s1=>exact ⟨_,rfl,fun _ _ h=>by cases h; exact h2 _ _ rfl⟩
theorem Fin1.le {s s1:PS} {o:Option (PR Fm)} (h:Fin1 s1 o) (hl:s.pos≤s1.pos):Fin1 s o:=by
  obtain ⟨r,h1,h2⟩:=h
  exact ⟨r,h1,fun f s2 h3=>Nat.le_trans hl (h2 f s2 h3)⟩
theorem aft_fin {e:PE} {s:PS} (hs:OkS e s) (f:Fm):Fin1 s (some (aft e s f)):=by
  cases hx:pNext e s with
  |er a x=>rw [aft_er hx]; exact ⟨_,rfl,fun _ _ h=>by cases h⟩
  | ok u s2 =>
    obtain ⟨_,_,k3⟩:=pNext_inv hs hx
    rw [aft_ok hx]; exact ⟨_,rfl,fun _ _ h=>by cases h; omega⟩
theorem pF_tot (e : PE) : ∀ n k, (4 * n ≤ k → Tot e n (pF e k .un)) ∧ (4 * n + 1 ≤ k → Tot e n (pF e k .bin)) ∧ (4 * n + 2 ≤ k → Tot e n (pF e k .conj)) ∧ (4 * n + 3 ≤ k → Tot e n (pF e k .form))
  |0,_=>⟨fun _ _ _ h=>by omega,fun _ _ _ h=>by omega,fun _ _ _ h=>by omega,fun _ _ _ h=>by omega⟩
  | n + 1, k => by
    have U : ∀ k, 4 * (n + 1) ≤ k → Tot e (n + 1) (pF e k .un) := by
      intro k hk s hs hn
      obtain ⟨k,rfl⟩: ∃ j,k=j+1:=⟨k - 1,by omega⟩
      have hu:=fun hw=>pPart_tot ((pF_tot e n k).1 (by omega)) hs hw hn
      rw [pF]
      split
      · rename_i h; exact mapP_fin (hu (by rw [h]; simp))
      · split
        · rename_i h; exact mapP_fin (hu (by rw [h]; simp))
        · split
          · rename_i h; exact mapP_fin (hu (by rw [h]; simp))
          · split
            · rename_i h; exact mapP_fin (hu (by rw [h]; simp))
            · split
              · rename_i h; exact mapP_fin (hu (by rw [h]; simp))
              · split
                · rename_i h
                  obtain ⟨r,h1,h2⟩:=pPart_tot ((pF_tot e n k).2.2.2 (by omega)) hs (by rw [h]; simp) hn
                  rw [h1]
                  cases r with
                  |er a x=>exact ⟨_,rfl,fun _ _ h=>by cases h⟩
                  | ok f s1 =>
                    have h3:=h2 _ _ rfl
                    obtain ⟨k1,_⟩:=pPart_keeps (pF_keeps e k .form) _ _ _ hs h1
                    simp only
                    split
                    · cases hx:pNext e s1 with
                      |er a x=>exact ⟨_,rfl,fun _ _ h=>by cases h⟩
                      | ok u s2 =>
                        obtain ⟨_,_,k3⟩:=pNext_inv k1 hx
                        exact ⟨_,rfl,fun _ _ h=>by cases h; omega⟩
                    · exact ⟨_,rfl,fun _ _ h=>by cases h⟩
                · rcases pAtom_wd e s with ⟨f,h⟩|⟨x,h⟩
                  · rw [h]; exact aft_fin hs f
                  · rw [h]; exact ⟨_,rfl,fun _ _ h=>by cases h⟩
    have B: ∀ k,4*(n+1)+1≤k→Tot e (n+1) (pF e k .bin):=by
      intro k hk s hs hn
      obtain ⟨k,rfl⟩: ∃ j,k=j+1:=⟨k - 1,by omega⟩
      obtain ⟨r,h1,h2⟩:=U k (by omega) s hs hn
      rw [pF,h1]
      cases r with
      |er a x=>exact ⟨_,rfl,fun _ _ h=>by cases h⟩
      | ok f s1 =>
        have h3:=h2 _ _ rfl
        obtain ⟨k1,_⟩:=pF_keeps e k .un _ _ _ hs h1
        have hb:=fun hw=>(pPart_tot ((pF_tot e n k).2.1 (by omega)) k1 hw (by omega)).le h3
        simp only
        split
        · rename_i h; exact mapP_fin (hb (by rw [h]; simp))
        · split
          · rename_i h; exact mapP_fin (hb (by rw [h]; simp))
          · exact ⟨_,rfl,fun _ _ h=>by cases h; exact h3⟩
    have Cj: ∀ k,4*(n+1)+2≤k→Tot e (n+1) (pF e k .conj):=by
      intro k hk s hs hn
      obtain ⟨k,rfl⟩: ∃ j,k=j+1:=⟨k - 1,by omega⟩
      rw [pF]
      exact pSev_tot (by simp) (B k (by omega)) (pF_keeps e k .bin) (by omega) s hs hn
    refine ⟨U k,B k,Cj k,fun hk s hs hn=>?_⟩
    obtain ⟨k,rfl⟩: ∃ j,k=j+1:=⟨k - 1,by omega⟩
    obtain ⟨r,h1,h2⟩:=pSev_tot (w:=[124]) (op:=6) (k:=k) (by simp) (Cj k (by omega)) (pF_keeps e k .conj) (by omega) s hs hn
    rw [pF,h1]
    cases r with
    |er a x=>exact ⟨_,rfl,fun _ _ h=>by cases h⟩
    | ok f s1 =>
      have h3:=h2 _ _ rfl
      obtain ⟨k1,_⟩:=pSev_keeps (pF_keeps e k .conj) _ _ _ hs h1
      simp only
      split
      · rename_i h; exact mapP_fin ((pPart_tot ((pF_tot e n k).2.2.2 (by omega)) k1 (by rw [h]; simp) (by omega)).le h3)
      · exact ⟨_,rfl,fun _ _ h=>by cases h; exact h3⟩
def fuE (e:PE):Nat:=4*e.src.length+7
theorem pF_all {e:PE} {s:PS} (hs:OkS e s): ∃ r,pF e (fuE e) .form s=some r:=by
  obtain ⟨r,h,_⟩:=(pF_tot e (e.src.length+1) (fuE e)).2.2.2 (by unfold fuE; omega) s hs (by omega)
  exact ⟨r,h⟩
end Go.Proofs.YteehaobohaecmaaGreatDoor
namespace Go.Proofs.YteehaobohaecmaaGreatDoor
open Go
structure RS where
  pos:Nat
  dep:Int
  er:Int
  wh:Nat
instance:Inhabited RS:=⟨⟨0,0,0,0⟩⟩
def rSkp (e:PE) (s:RS):Nat:=skp (e.src.drop s.pos) s.pos
def rNext (e:PE) (s:RS):List UInt8×RS:=
  if s.er≠0∨rSkp e s=e.src.length then ([],{s with pos:=rSkp e s})
  else if tok (e.src.drop (rSkp e s))=[] then ([],{s with pos:=rSkp e s,er:=5,wh:=rSkp e s})
  else (tok (e.src.drop (rSkp e s)),{s with pos:=rSkp e s})
def rTake (e:PE) (w:List UInt8) (s:RS):Bool×RS:=
  if (rNext e s).1≠w∨(rNext e s).2.er≠0 then (false,(rNext e s).2) else (true,{(rNext e s).2 with pos:=(rNext e s).2.pos+w.length})
inductive RK where
  |form|disj|conj|bin|un|bel
structure OkR (e:PE) (s:RS):Prop where
  len:e.src.length≤1048576
  pos:s.pos≤e.src.length
  d0:0≤s.dep
  d1:s.dep≤129
  d2:s.er=0→s.dep≤128
end Go.Proofs.YteehaobohaecmaaGreatDoor
namespace Go.Proofs.YteehaobohaecmaaGreatDoor
open Go
structure Rel (e:PE) (s:PS) (r:RS):Prop where
  er:r.er=0
  dep:r.dep=(s.dep:Int)
  pos:rSkp e r=s.pos
  tk:tok (e.src.drop s.pos)=s.wd
  nb:e.src.drop s.pos=[]∨s.wd≠[]
def Hard (a:Nat) (x:Int) (r:RS):Prop:=r.er=x∧r.wh=a∧x≠0
def Pend (e:PE) (a:Nat) (x:Int) (r:RS):Prop:=r.er=0∧x=5∧rSkp e r=a∧e.src.drop a≠[]∧tok (e.src.drop a)=[]
def Bad (e:PE) (a:Nat) (x:Int) (r:RS):Prop:=Hard a x r∨Pend e a x r
section
variable {e:PE} {s s1:PS} {r:RS} {a:Nat} {x:Int}
theorem drop_nil_iff (hp:s.pos≤e.src.length):e.src.drop s.pos=[]↔s.pos=e.src.length:=by
  rw [List.drop_eq_nil_iff]; omega
theorem skp_fix: ∀ (l:List UInt8) (p q:Nat),skp l p=p+q→skp (l.drop q) (p+q)=p+q:=by
  intro l
  induction l with
  |nil=>intro p q h; simp [skp]
  | cons c l ih =>
    intro p q h
    rw [skp] at h
    split at h
    · rename_i hc
      have h1:=skp_ge l (p+1)
      obtain ⟨q',rfl⟩: ∃ q',q=q'+1:=⟨q - 1,by omega⟩
      have:=ih (p+1) q' (by rw [h]; omega)
      rw [List.drop_succ_cons,show p+(q'+1)=p+1+q' by omega]; exact this
    · rename_i hc
      have:q=0:=by omega
      subst this
      rw [List.drop_zero,Nat.add_zero,skp,if_neg hc]
theorem rSkp_fix {r':RS} (h:r'.pos=rSkp e r):rSkp e r'=rSkp e r:=by
  have h1:=(skp_ge (e.src.drop r.pos) r.pos).1
  obtain ⟨q,hq⟩: ∃ q,rSkp e r=r.pos+q:=⟨rSkp e r - r.pos,by unfold rSkp; omega⟩
  have:=skp_fix (e.src.drop r.pos) r.pos q hq
  rw [List.drop_drop,← hq] at this
  unfold rSkp at*
  rw [h]; exact this
theorem Rel.next (h:Rel e s r) (hs:OkS e s):rNext e r=(s.wd,{r with pos:=s.pos}):=by
  have hp:s.pos≤e.src.length:=by have:=hs.pos; omega
  unfold rNext
  rw [h.pos]
  by_cases hl:s.pos=e.src.length
  · rw [if_pos (.inr hl),← h.tk,(drop_nil_iff hp).2 hl]; rfl
  · have hn:s.wd≠[]:=by
      rcases h.nb with q|q
      · exact absurd ((drop_nil_iff hp).1 q) hl
      · exact q
    rw [if_neg (by rintro (q|q); exact q h.er; exact hl q),h.tk,if_neg hn]
theorem Rel.same (h:Rel e s r):Rel e s {r with pos:=s.pos}:=
  ⟨h.er,h.dep,by rw [rSkp_fix (r:=r) (by rw [h.pos]),h.pos],h.tk,h.nb⟩
theorem Rel.take (h:Rel e s r) (hs:OkS e s) (w:List UInt8):rTake e w r=if s.wd=w then (true,{r with pos:=s.pos+w.length}) else (false,{r with pos:=s.pos}):=by
  unfold rTake
  rw [h.next hs]
  by_cases q:s.wd=w
  · rw [if_pos q,if_neg (by rintro (q'|q'); exact q' q; exact q' h.er)]
  · rw [if_neg q,if_pos (.inl q)]
theorem Hard.next (h:Hard a x r): ∃ r',rNext e r=([],r')∧Hard a x r'∧r'.dep=r.dep:=by
  refine ⟨{r with pos:=rSkp e r},?_,h,rfl⟩
  unfold rNext
  rw [if_pos (.inl (by rw [h.1]; exact h.2.2))]
theorem Bad.next (h:Bad e a x r) (hp:r.pos≤e.src.length): ∃ r',rNext e r=([],r')∧Hard a x r'∧r'.dep=r.dep:=by
  rcases h with h|⟨h1,h2,h3,h4,h5⟩
  · exact h.next
  · refine ⟨{r with pos:=rSkp e r,er:=5,wh:=rSkp e r},?_,⟨h2.symm,h3,by rw [h2]; decide⟩,rfl⟩
    unfold rNext
    have:rSkp e r≠e.src.length:=fun q=>h4 (by rw [← h3,q]; simp)
    rw [if_neg (by rintro (q|q); exact q h1; exact this q),h3,if_pos h5,← h3]
theorem Bad.take (h:Bad e a x r) (hp:r.pos≤e.src.length) (w:List UInt8): ∃ r',rTake e w r=(false,r')∧Hard a x r'∧r'.dep=r.dep:=by
  obtain ⟨r',h1,h2,h3⟩:=h.next hp
  refine ⟨r',?_,h2,h3⟩
  unfold rTake
  rw [h1,if_pos (.inr (by rw [h2.1]; exact h2.2.2))]
end
end Go.Proofs.YteehaobohaecmaaGreatDoor
namespace Go.Proofs.YteehaobohaecmaaGreatDoor
open Go
def Le1 {α:Type} (R R':PS→Option (PR α)):Prop:= ∀ s r,R s=some r→R' s=some r
theorem pPart_le {e:PE} {R R':PS→Option (PR Fm)} (h:Le1 R R'):Le1 (pPart e R) (pPart e R'):=by
  intro s r
  unfold pPart
  cases hx:pNext e s with
  |er a x=>exact id
  | ok u s1 =>
    simp only
    split
    · exact id
    · intro hr
      cases hy:R {s1 with dep:=s1.dep+1} with
      |none=>rw [hy] at hr; cases hr
      |some q=>rw [hy] at hr; rw [h _ _ hy]; exact hr
theorem mapP_le {g:Fm→Fm} {R R':PS→Option (PR Fm)} (h:Le1 R R'):Le1 (fun s=>mapP g (R s)) (fun s=>mapP g (R' s)):=by
  intro s r hr
  simp only at hr ⊢
  cases hy:R s with
  |none=>rw [hy] at hr; cases hr
  |some q=>rw [hy] at hr; rw [h _ _ hy]; exact hr
theorem pMore_le {e : PE} {w : List UInt8} {R R' : PS → Option (PR Fm)} (h : Le1 R R') : ∀ {k k' : Nat} {l : List Fm}, k ≤ k' → ∀ s r, pMore e w R k l s = some r → pMore e w R' k' l s = some r
  |0,_,_,_=>fun _ _ hr=>by cases hr
  | k + 1, k', l, hk => fun s r hr => by
    obtain ⟨k2,rfl⟩: ∃ j,k'=j+1:=⟨k' - 1,by omega⟩
    rw [pMore] at hr ⊢
    split
    · rename_i e1
      rw [if_pos e1] at hr
      cases hx:pNext e s with
      |er a x=>rw [hx] at hr; exact hr
      | ok u s1 =>
        rw [hx] at hr
        simp only at hr ⊢
        cases hy:R s1 with
        |none=>rw [hy] at hr; cases hr
        | some q =>
          rw [hy] at hr; rw [h _ _ hy]
          cases q with
          |er a x=>exact hr
          |ok f s2=>exact pMore_le h (k:=k) (by omega) _ _ hr
    · rename_i e1
      rw [if_neg e1] at hr; exact hr
theorem pSev_le {e:PE} {w:List UInt8} {op:Int} {R R':PS→Option (PR Fm)} (h:Le1 R R') {k k':Nat} (hk:k≤k'):Le1 (pSev e w op R k) (pSev e w op R' k'):=by
  intro s r hr
  unfold pSev at hr ⊢
  cases hy:R s with
  |none=>rw [hy] at hr; cases hr
  | some q =>
    rw [hy] at hr; rw [h _ _ hy]
    cases q with
    |er a x=>exact hr
    | ok f s1 =>
      simp only at hr ⊢
      cases hz:pMore e w R k [f] s1 with
      |none=>rw [hz] at hr; cases hr
      |some q=>rw [hz] at hr; rw [pMore_le h hk _ _ hz]; exact hr
theorem pF_le (e : PE) : ∀ (k : Nat) (K : PK), Le1 (pF e k K) (pF e (k + 1) K)
  |0,_=>fun _ _ h=>by cases h
  | k + 1, .form => fun s r hr => by
    rw [pF] at hr ⊢
    cases hy:pSev e [124] 6 (pF e k .conj) k s with
    |none=>rw [hy] at hr; cases hr
    | some q =>
      rw [hy] at hr; rw [pSev_le (pF_le e k .conj) (Nat.le_succ k) _ _ hy]
      cases q with
      |er a x=>exact hr
      | ok f s1 =>
        simp only at hr ⊢
        split
        · rename_i e1; rw [if_pos e1] at hr; exact mapP_le (pPart_le (pF_le e k .form)) _ _ hr
        · rename_i e1; rw [if_neg e1] at hr; exact hr
  | k + 1, .conj => fun s r hr => by
    rw [pF] at hr ⊢; exact pSev_le (pF_le e k .bin) (Nat.le_succ k) _ _ hr
  | k + 1, .bin => fun s r hr => by
    rw [pF] at hr ⊢
    cases hy:pF e k .un s with
    |none=>rw [hy] at hr; cases hr
    | some q =>
      rw [hy] at hr; rw [pF_le e k .un _ _ hy]
      cases q with
      |er a x=>exact hr
      | ok f s1 =>
        simp only at hr ⊢
        split
        · rename_i e1; rw [if_pos e1] at hr; exact mapP_le (pPart_le (pF_le e k .bin)) _ _ hr
        · rename_i e1; rw [if_neg e1] at hr
          split
          · rename_i e2; rw [if_pos e2] at hr; exact mapP_le (pPart_le (pF_le e k .bin)) _ _ hr
          · rename_i e2; rw [if_neg e2] at hr; exact hr
  | k + 1, .un => fun s r hr => by
    have hu:=pPart_le (e:=e) (pF_le e k .un)
    rw [pF] at hr ⊢
    split
    · rename_i e1; rw [if_pos e1] at hr; exact mapP_le hu _ _ hr
    · rename_i e1; rw [if_neg e1] at hr
      split
      · rename_i e1; rw [if_pos e1] at hr; exact mapP_le hu _ _ hr
      · rename_i e1; rw [if_neg e1] at hr
        split
        · rename_i e1; rw [if_pos e1] at hr; exact mapP_le hu _ _ hr
        · rename_i e1; rw [if_neg e1] at hr
          split
          · rename_i e1; rw [if_pos e1] at hr; exact mapP_le hu _ _ hr
          · rename_i e1; rw [if_neg e1] at hr
            split
            · rename_i e1; rw [if_pos e1] at hr; exact mapP_le hu _ _ hr
            · rename_i e1; rw [if_neg e1] at hr
              split
              · rename_i e1; rw [if_pos e1] at hr
                cases hy:pPart e (pF e k .form) s with
                |none=>rw [hy] at hr; cases hr
                |some q=>rw [hy] at hr; rw [pPart_le (pF_le e k .form) _ _ hy]; exact hr
              · rename_i e1; rw [if_neg e1] at hr; exact hr
theorem pF_up {e:PE} {K:PK} {s:PS} {r:PR Fm} {k:Nat} (h:pF e k K s=some r): ∀ m,pF e (k+m) K s=some r
  |0=>h
  |m+1=>pF_le e (k+m) K s r (pF_up h m)
def EvR (e:PE) (K:PK) (s:PS) (r:PR Fm):Prop:= ∃ k0,∀ k,k0≤k→pF e k K s=some r
theorem EvR.at {e:PE} {s:PS} {r:PR Fm} (hs:OkS e s) (h:EvR e .form s r):pF e (fuE e) .form s=some r:=by
  obtain ⟨k0,hk⟩:=h
  obtain ⟨q,hq⟩:=pF_all hs
  have h1:=pF_up hq k0
  have h2:=hk (fuE e+k0) (by omega)
  rw [h1] at h2; rw [hq,h2]
section
variable {e:PE} {s s1 s2 s3:PS} {f g:Fm} {u:Unit}
theorem EvR.bin (h:EvR e .un s (.ok f s1)) (h1:s1.wd≠[85]) (h2:s1.wd≠[82]):EvR e .bin s (.ok f s1):=by
  obtain ⟨k0,hk⟩:=h
  refine ⟨k0+1,fun k hl=>?_⟩
  obtain ⟨k,rfl⟩: ∃ j,k=j+1:=⟨k - 1,by omega⟩
  rw [pF,hk k (by omega)]
  simp only [if_neg h1,if_neg h2]
theorem EvR.conj (h:EvR e .bin s (.ok f s1)) (h1:s1.wd≠[38]):EvR e .conj s (.ok f s1):=by
  obtain ⟨k0,hk⟩:=h
  refine ⟨k0+2,fun k hl=>?_⟩
  obtain ⟨k,rfl⟩: ∃ j,k=j+2:=⟨k - 2,by omega⟩
  rw [pF,pSev,hk (k+1) (by omega)]
  simp only [pMore,if_neg h1]
  rfl
theorem EvR.form (h:EvR e .conj s (.ok f s1)) (h1:s1.wd≠[124]) (h2:s1.wd≠[45,62]):EvR e .form s (.ok f s1):=by
  obtain ⟨k0,hk⟩:=h
  refine ⟨k0+2,fun k hl=>?_⟩
  obtain ⟨k,rfl⟩: ∃ j,k=j+2:=⟨k - 2,by omega⟩
  rw [pF,pSev,hk (k+1) (by omega)]
  simp only [pMore,if_neg h1,finSev,oneOr,List.length_cons,List.length_nil,if_true,if_neg h2]
  rfl
theorem pPart_ok {R:PS→Option (PR Fm)} (hn:pNext e s=.ok u s1) (hd:s1.dep+1≤128) (hr:R {s1 with dep:=s1.dep+1}=some (.ok f s2)):pPart e R s=some (.ok f {s2 with dep:=s2.dep - 1}):=by
  unfold pPart; rw [hn]; simp only; rw [if_neg (by omega),hr]
theorem EvR.u1 {c:UInt8} {op:Int} (hw:s.wd=[c]) (hc:(c=33∧op=4)∨(c=88∧op=7)∨(c=78∧op=9)) (hn:pNext e s=.ok u s1) (hd:s1.dep+1≤128) (h:EvR e .un {s1 with dep:=s1.dep+1} (.ok f s2)):
    EvR e .un s (.ok (.nd op 0 [f]) {s2 with dep:=s2.dep - 1}):=by
  obtain ⟨k0,hk⟩:=h
  refine ⟨k0+1,fun k hl=>?_⟩
  obtain ⟨k,rfl⟩: ∃ j,k=j+1:=⟨k - 1,by omega⟩
  have hp:=pPart_ok hn hd (hk k (by omega))
  rw [pF]
  rcases hc with ⟨rfl,rfl⟩|⟨rfl,rfl⟩|⟨rfl,rfl⟩
  · rw [if_pos hw,hp]; rfl
  · rw [if_neg (by rw [hw]; decide),if_pos hw,hp]; rfl
  · rw [if_neg (by rw [hw]; decide),if_neg (by rw [hw]; decide),if_pos hw,hp]; rfl
theorem EvR.two {c:UInt8} {op:Int} (h0:EvR e .un s (.ok f s1)) (hw:s1.wd=[c]) (hc:(c=85∧op=8)∨(c=82∧op=10)) (hn:pNext e s1=.ok u s2) (hd:s2.dep+1≤128) (h:EvR e .bin {s2 with dep:=s2.dep+1} (.ok g s3)):
    EvR e .bin s (.ok (.nd op 0 [f,g]) {s3 with dep:=s3.dep - 1}):=by
  obtain ⟨k0,hk⟩:=h
  obtain ⟨k1,hk1⟩:=h0
  refine ⟨k0+k1+1,fun k hl=>?_⟩
  obtain ⟨k,rfl⟩: ∃ j,k=j+1:=⟨k - 1,by omega⟩
  have hp:=pPart_ok hn hd (hk k (by omega))
  rw [pF,hk1 k (by omega)]
  simp only
  rcases hc with ⟨rfl,rfl⟩|⟨rfl,rfl⟩
  · rw [if_pos hw,hp]; rfl
  · rw [if_neg (by rw [hw]; decide),if_pos hw,hp]; rfl
def EvM (e:PE) (w:List UInt8) (K:PK) (l:List Fm) (s:PS) (r:PR (List Fm)):Prop:= ∃ k0,∀ k k',k0≤k→k0≤k'→pMore e w (pF e k K) k' l s=some r
theorem EvM.end {w:List UInt8} {K:PK} {l:List Fm} (h:s.wd≠w):EvM e w K l s (.ok l s):=by
  refine ⟨1,fun k k' _ hl=>?_⟩
  obtain ⟨k',rfl⟩: ∃ j,k'=j+1:=⟨k' - 1,by omega⟩
  rw [pMore,if_neg h]
theorem EvM.step {w:List UInt8} {K:PK} {l:List Fm} {r:PR (List Fm)} (hw:s.wd=w) (hn:pNext e s=.ok u s1) (h:EvR e K s1 (.ok f s2)) (hm:EvM e w K (l++[f]) s2 r):EvM e w K l s r:=by
  obtain ⟨k0,hk⟩:=h
  obtain ⟨k1,hk1⟩:=hm
  refine ⟨k0+k1+1,fun k k' h1 hl=>?_⟩
  obtain ⟨k',rfl⟩: ∃ j,k'=j+1:=⟨k' - 1,by omega⟩
  rw [pMore,if_pos hw,hn]
  simp only
  rw [hk k (by omega)]
  exact hk1 k k' (by omega) (by omega)
theorem EvR.atom (h1: ∀ c:UInt8,s.wd≠[c]):EvR e .un s (pAtom e s):=by
  refine ⟨1,fun k hl=>?_⟩
  obtain ⟨k,rfl⟩: ∃ j,k=j+1:=⟨k - 1,by omega⟩
  rw [pF,if_neg (h1 _),if_neg (h1 _),if_neg (h1 _),if_neg (h1 _),if_neg (h1 _),if_neg (h1 _)]
end
end Go.Proofs.YteehaobohaecmaaGreatDoor
namespace Go.Proofs.YteehaobohaecmaaGreatDoor
open Go
def sk:List UInt8→List UInt8
  |[]=>[]
  |c::l=>if c=32 then sk l else c::l
def tk (l:List UInt8):List UInt8:=tok (sk l)
section
variable {e:PE} {l r:List UInt8} {d:Nat}
abbrev spc:List UInt8:=[33,38,124,40,41]
def Sta (l:List UInt8):Prop:= ∃ c l',l=c::l'∧c≠45∧c≠32∧(wby c=true∨0≤Lib.indexByte spc c)
theorem Sta.app (h:Sta l) (r:List UInt8):Sta (l++r):=by
  obtain ⟨c,l',rfl,h⟩:=h; exact ⟨c,l'++r,rfl,h⟩
theorem Sta.c {c:UInt8} (l:List UInt8) (h:c≠45∧c≠32∧(wby c=true∨0≤Lib.indexByte spc c)):Sta (c::l):=⟨c,l,rfl,h⟩
end
section
variable {ia oa:List (List UInt8)} {f:Fm}
def Cn (lv:Int) (w:List UInt8):Prop:=(lv≤3→w≠[85]∧w≠[82])∧(lv≤2→w≠[38])∧(lv≤1→w≠[124]∧w≠[45,62])
theorem Cn.mono {lv lv':Int} {w:List UInt8} (h:Cn lv w) (hl:lv≤lv'):Cn lv' w:=⟨fun q=>h.1 (by omega),fun q=>h.2.1 (by omega),fun q=>h.2.2 (by omega)⟩
end
end Go.Proofs.YteehaobohaecmaaGreatDoor
namespace Go.Proofs.YteehaobohaecmaaGreatDoor
open Go
theorem lstA1 {α:Type} [Inhabited α] {l:List α} (h:l.length=1):l=[nth l 0]:=by
  match l,h with
  |[a],_=>rfl
section
variable {e:PE} {f:Fm}
end
end Go.Proofs.YteehaobohaecmaaGreatDoor
namespace Go.Proofs.YteehaobohaecmaaGreatDoor
open Go
mutual
theorem exm_flat : ∀ (f : Fm) (lv b : Int), okF f = true → lv + dp f ≤ 65 → (exm f lv b).2 = 0 ∨ (exm f lv b).2 = 11
  | .nd o a k, lv, b, h, hd => by
    rw [okF,Bool.and_eq_true,decide_eq_true_eq] at h
    rw [dp] at hd
    rw [exm]
    split
    · exact .inr rfl
    · split
      · omega
      · split
        · rename_i q; exact absurd h.1 q
        · exact exmL_flat k _ _ h.2 (by omega)
theorem exmL_flat: ∀ (l:List Fm) (lv n:Int),okL l=true→lv+dpL l≤65→(exmL l lv n).2=0∨(exmL l lv n).2=11
  |[],_,_,_,_=>.inl rfl
  | f :: l, lv, n, h, hd => by
    rw [okL,Bool.and_eq_true] at h
    rw [dpL] at hd
    rw [exmL]
    split
    · exact exm_flat f lv n h.1 (by omega)
    · exact exmL_flat l _ _ h.2 (by omega)
end
theorem fval_flat {f:Fm} (h:okF f=true) (hd:dp f≤64):fval f=0∨fval f=11:=exm_flat f 1 0 h (by omega)
theorem dpL_le: ∀ {l:List Fm} {n:Nat},(∀ x∈l,dp x≤n)→dpL l≤n
  |[],_,_=>by rw [dpL]; exact Nat.zero_le _
  | f :: l, n, h => by
    rw [dpL]
    have h1:=h f (List.mem_cons_self ..)
    have h2:=dpL_le (l:=l) fun x hx=>h x (List.mem_cons_of_mem _ hx)
    omega
abbrev DA (D:Nat) (x:Fm):Prop:=dp x≤D
theorem dp_fin {s:List Cl} {D:Nat} (h:AllA (DA D) s):dp (fin s)≤D+2:=by
  have hc: ∀ c∈s,dp (clF c)≤D+1:=fun c hc=>by
    unfold clF
    split
    · rename_i q; have:=h c hc _ (nth_mem (show 0 < c.length by omega)); unfold DA at this; omega
    · rw [dp]; have:=dpL_le (l:=c) (n:=D) fun x hx=>h c hc x hx; omega
  rcases fin_cases s with ⟨rfl,e⟩|⟨hm,e⟩|⟨c,hne,rfl,e⟩|⟨h2,hn,e⟩
  · rw [e]; have:dp noF=2:=by decide+kernel
    omega
  · rw [e]; have:dp yesF=1:=by decide+kernel
    omega
  · rw [e]; have:=hc c (List.mem_singleton.2 rfl); omega
  · rw [e,dp]
    have:=dpL_le (l:=sF (s.map clF)) (n:=D+1) fun x hx=>by obtain ⟨c,q,rfl⟩:=List.mem_map.1 (mem_sF.1 hx); exact hc c q
    omega
mutual
def wz:Fm→Nat
  | .nd o _ k=>if o=4 then 1 else wzs k+1
def wzs:List Fm→Nat
  |[]=>0
  |f::l=>wz f+wzs l
end
theorem wz_eq (f:Fm):wz f=if f.op=4 then 1 else wzs f.kids+1:=by cases f; rw [wz]; rfl
theorem wz_pos (f:Fm):1≤wz f:=by rw [wz_eq]; split <;> omega
theorem wzs_nth: ∀ {l:List Fm} {k:Nat},k < l.length→wz (nth l k)≤wzs l
  |[],k,h=>absurd h (Nat.not_lt_zero k)
  |f::l,0,_=>by show wz f≤_; rw [wzs]; omega
  | f :: l, k + 1, h => by
    have:=wzs_nth (l:=l) (k:=k) (by simpa using h)
    show wz (nth l k)≤_
    rw [wzs]; omega
theorem wzs_two: ∀ {l:List Fm} {k:Nat},2≤l.length→k < l.length→wz (nth l k)+1≤wzs l
  |[],_,h,_=>by simp at h
  |[f],_,h,_=>by simp at h
  | f :: g :: l, 0, _, _ => by
    have:=wz_pos g
    rw [wzs,wzs]; show wz f+1≤_; omega
  | f :: g :: l, k + 1, _, hk => by
    have:=wz_pos f
    have:=wzs_nth (l:=g::l) (k:=k) (by simpa using hk)
    rw [wzs]; show wz (nth (g::l) k)+1≤_; omega
theorem djL_all {p:Fm→Prop}: ∀ {l:List Fm} {out s:List Cl},(∀ k,k < l.length→ ∀ t,cls (nth l k)=some t→AllA p t)→AllA p out→djL l out=some s→AllA p s
  | [], out, s, _, h1, h => by
    rw [djL] at h
    split at h
    · cases h
    · cases h; exact h1
  | f :: l, out, s, hk, h1, h => by
    rw [djL] at h
    cases q:cls f with
    |none=>rw [q] at h; cases h
    | some t =>
      rw [q] at h
      exact djL_all (fun k hl t ht=>hk (k+1) (by simpa using hl) t ht) (AllA.wths h1 (hk 0 (by simp) t q)) h
theorem cjL_all {p:Fm→Prop}: ∀ {l:List Fm} {out s:List Cl},(∀ k,k < l.length→ ∀ t,cls (nth l k)=some t→AllA p t)→AllA p out→cjL l out=some s→AllA p s
  |[],out,s,_,h1,h=>by rw [cjL] at h; cases h; exact h1
  | f :: l, out, s, hk, h1, h => by
    rw [cjL] at h
    cases q:cls f with
    |none=>rw [q] at h; cases h
    | some t =>
      rw [q] at h
      simp only at h
      split at h
      · cases h
      · exact cjL_all (fun k hl t ht=>hk (k+1) (by simpa using hl) t ht) (AllA.prd h1 (hk 0 (by simp) t q)) h
theorem all_nil1 {p:Fm→Prop}:AllA p [[]]:=fun c hc x hx=>by rw [List.mem_singleton.1 hc] at hx; exact absurd hx List.not_mem_nil
theorem all_nil0 {p:Fm→Prop}:AllA p []:=fun c hc=>absurd hc List.not_mem_nil
theorem all_one1 {p:Fm→Prop} {x:Fm} (h:p x):AllA p [[x]]:=fun c hc y hy=>by rw [List.mem_singleton.1 hc] at hy; rw [List.mem_singleton.1 hy]; exact h
theorem AllA.mono {p q:Fm→Prop} {s:List Cl} (h:AllA p s) (hq: ∀ x,p x→q x):AllA q s:=fun c hc x hx=>hq x (h c hc x hx)
theorem cls_dp (f : Fm) : okF f = true → nnf f = true → ∀ s, cls f = some s → AllA (DA (wz f + 1)) s ∧ dp (fin s) ≤ wz f + 1 := by
  refine fm_ind (p:=fun f=>okF f=true→nnf f=true→ ∀ s,cls f=some s→AllA (DA (wz f+1)) s∧dp (fin s)≤wz f+1) (fun f ih hf hn s hs=>?_) f
  obtain ⟨hr,hk⟩:=okF_parts hf
  obtain ⟨r1,r2,r3,r4,r5,r6,r7,r8,r9⟩:=rgt_ok hr
  have hw:=wz_pos f
  have leaf: ∀ g:Fm,g.kids.length=0→dp g=1:=fun g h=>by
    cases g with
    |nd o a k=>rw [dp,show k=[] from List.length_eq_zero_iff.1 h,dpL]
  have one: ∀ x:Fm,dp x≤wz f+1→AllA (DA (wz f+1)) [[x]]∧dp (fin [[x]])≤wz f+1:=fun x h=>⟨all_one1 h,by
    have e:fin [[x]]=x:=rfl
    rw [e]; exact h⟩
  by_cases h1:f.op=1
  · rw [cls_1 h1] at hs; cases hs
    have e:dp (fin [[]])=1:=by decide+kernel
    exact ⟨all_nil1,by omega⟩
  by_cases h4:f.op=4
  · by_cases q:(nth f.kids 0).op=1
    · rw [cls_4 h4 q] at hs; cases hs
      have e:dp (fin [])=2:=by decide+kernel
      exact ⟨all_nil0,by omega⟩
    · rw [cls_4n h4 q] at hs; cases hs
      have hl:=r4 (.inl h4)
      have h3:=(nnf_kid hn (k:=0) (by omega)).2 h4
      have hrk:=(okF_parts (hk 0 (by omega))).1
      have hz:(nth f.kids 0).kids.length=0:=by
        obtain ⟨q1,q2,q3,_⟩:=rgt_ok hrk
        exact q3 (by omega)
      have hd:=leaf _ hz
      have e:f.kids=[nth f.kids 0]:=lstA1 hl
      refine one f ?_
      have:dp f=dpL f.kids+1:=by cases f; rw [dp]; rfl
      rw [this,e,dpL,dpL,hd]
      omega
  by_cases h23:f.op=2∨f.op=3
  · rw [cls_23 h23] at hs; cases hs
    have:=leaf f (r3 (by omega))
    exact one f (by omega)
  have hwz:wz f=wzs f.kids+1:=by rw [wz_eq,if_neg h4]
  have big:2≤f.kids.length→AllA (DA (wz f - 1)) s→AllA (DA (wz f+1)) s∧dp (fin s)≤wz f+1:=fun h2 ha=>by
    have:=dp_fin ha
    exact ⟨ha.mono fun x q=>by unfold DA at*; omega,by omega⟩
  by_cases h6:f.op=6
  · have h2:=r5 (.inr h6)
    rw [cls_6 h6] at hs
    exact big h2 (djL_all (fun k h t ht=>(ih k h (hk k h) (nnf_kid hn h).1 t ht).1.mono fun x q=>by have:=wzs_two h2 h; unfold DA at*; omega) all_nil0 hs)
  by_cases h5:f.op=5
  · have h2:=r5 (.inl h5)
    rw [cls_5 h5] at hs
    exact big h2 (cjL_all (fun k h t ht=>(ih k h (hk k h) (nnf_kid hn h).1 t ht).1.mono fun x q=>by have:=wzs_two h2 h; unfold DA at*; omega) all_nil1 hs)
  rw [cls_t (by omega)] at hs
  cases q:canL f.kids with
  |none=>rw [q] at hs; cases hs
  | some l =>
    rw [q] at hs
    cases hs
    have hl:=canL_len q
    refine one _ ?_
    rw [dp,hwz]
    have:dpL l≤wzs f.kids+1:=dpL_le fun x hx=>by
      obtain ⟨j,hj,rfl⟩:=mem_nth hx
      have hc:=canL_nth q (k:=j) (by omega)
      unfold can at hc
      cases q2:cls (nth f.kids j) with
      |none=>rw [q2] at hc; cases hc
      | some u =>
        rw [q2] at hc
        injection hc with hc
        rw [← hc]
        have h1:=(ih j (by omega) (hk j (by omega)) (nnf_kid hn (by omega)).1 u q2).2
        have h2:=wzs_nth (l:=f.kids) (k:=j) (by omega)
        omega
    omega
mutual
theorem nrm_wz: ∀ (f:Fm) (b:Bool),wz (nrm f b)≤f.sz
  | .nd o a [], b => by
    rw [nrm]
    have h:1≤(Fm.nd o a []).sz:=by rw [Fm.sz]; omega
    split
    · rw [wz]; simp [wzs]; exact h
    · split
      · rw [wz]; simp; exact h
      · rename_i q _; rw [wz,if_neg q,wzs]; exact h
  | .nd o a (f :: l), b => by
    have h1:=nrm_wz f b
    have h2:=nrm_wz f (!b)
    have h3:=nrmL_wz l b
    rw [nrm]
    split
    · rw [Fm.sz,Fm.szs]; omega
    · rw [Fm.sz,Fm.szs,wz,wzs]
      split <;> omega
theorem nrmL_wz: ∀ (l:List Fm) (b:Bool),wzs (nrmL l b)≤Fm.szs l
  |[],_=>by rw [nrmL,Fm.szs,wzs]; omega
  | f :: l, b => by
    have h1:=nrm_wz f b
    have h2:=nrmL_wz l b
    rw [nrmL,Fm.szs,wzs]; omega
end
def chk (f:Fm):Fm×Int:=match can f with
  |none=>(zF,11)
  |some g=>if fval g≠0 then (zF,fval g) else (g,0)
def simp_ (f:Fm):Fm×Int:=if fval f≠0 then (zF,fval f) else chk (nrm f false)
theorem chk_none {f:Fm} (h:can f=none):chk f=(zF,11):=by unfold chk; rw [h]
theorem chk_bad {f g:Fm} (h:can f=some g) (h2:fval g≠0):chk f=(zF,fval g):=by unfold chk; rw [h]; exact if_pos h2
theorem chk_good {f g:Fm} (h:can f=some g) (h2:fval g=0):chk f=(g,0):=by unfold chk; rw [h]; exact if_neg (by omega)
theorem chk_err {f:Fm} (hf:okF f=true) (hn:nnf f=true) (hd: ∀ s,cls f=some s→dp (fin s)≤64):(chk f=(zF,11))∨ ∃ g,can f=some g∧fval g=0∧chk f=(g,0):=by
  cases q:cls f with
  |none=>exact .inl (chk_none (by unfold can; rw [q]; rfl))
  | some s =>
    have hc:can f=some (fin s):=by unfold can; rw [q]; rfl
    have c:=can_canon hf hn hc
    rcases fval_flat c.ok (hd s q) with h|h
    · exact .inr ⟨_,hc,h,chk_good hc h⟩
    · exact .inl (by rw [chk_bad hc (by omega),h])
theorem simp_err {f:Fm} (hv:fval f=0) (hs:f.sz≤63):simp_ f=(zF,11)∨ ∃ g,can (nrm f false)=some g∧fval g=0∧simp_ f=(g,0):=by
  have ho:=nrm_ok f (fval_ok hv) false
  have hn:=nrm_nnf f (fval_ok hv) false
  unfold simp_
  rw [if_neg (by omega)]
  refine chk_err ho hn fun s q=>?_
  have h1:=(cls_dp _ ho hn s q).2
  have h2:=nrm_wz f false
  omega
end Go.Proofs.YteehaobohaecmaaGreatDoor
namespace Go.Proofs.YteehaobohaecmaaGreatDoor
open Go
def trF (b:Bool):Fm:=if b=true then yesF else noF
def ntB (g:Fm) (a o:Int):Bool:=decide ((g.op=2∧g.arg≠a)∨(g.op=3∧g.arg≠o))
def stO (f:Fm) (a o:Int) (K:List Fm):Fm:=
  if f.op=2 then trF (decide (f.arg=a)) else if f.op=3 then trF (decide (f.arg=o)) else if f.op=4 then trF (ntB (nth f.kids 0) a o)
  else if f.op=7∨f.op=9 then nth f.kids 0 else if f.op=8 then .nd 6 0 [nth K 1,.nd 5 0 [nth K 0,f]] else if f.op=10 then .nd 5 0 [nth K 1,.nd 6 0 [nth K 0,f]]
  else .nd f.op 0 K
mutual
def mst:Fm→Int→Int→Fm
  | .nd p r k,a,o=>stO (.nd p r k) a o (mstL k a o)
def mstL:List Fm→Int→Int→List Fm
  |[],_,_=>[]
  |f::l,a,o=>mst f a o::mstL l a o
end
theorem mstL_map (a o:Int): ∀ l:List Fm,mstL l a o=l.map fun f=>mst f a o
  |[]=>by rw [mstL]; rfl
  |f::l=>by rw [mstL,mstL_map a o l]; rfl
theorem mst_eq (f:Fm) (a o:Int):mst f a o=stO f a o (f.kids.map fun g=>mst g a o):=by cases f; rw [mst,mstL_map]; rfl
section
variable {f:Fm} {a o:Int}
theorem mst_2 (h:f.op=2):mst f a o=trF (decide (f.arg=a)):=by rw [mst_eq,stO,if_pos h]
theorem mst_3 (h:f.op=3):mst f a o=trF (decide (f.arg=o)):=by rw [mst_eq,stO,if_neg (by omega),if_pos h]
theorem mst_4 (h:f.op=4):mst f a o=trF (ntB (nth f.kids 0) a o):=by rw [mst_eq,stO,if_neg (by omega),if_neg (by omega),if_pos h]
theorem mst_79 (h:f.op=7∨f.op=9):mst f a o=nth f.kids 0:=by rw [mst_eq,stO,if_neg (by omega),if_neg (by omega),if_neg (by omega),if_pos h]
theorem mst_8 (h:f.op=8) (hk:f.kids.length=2):mst f a o=.nd 6 0 [mst (nth f.kids 1) a o,.nd 5 0 [mst (nth f.kids 0) a o,f]]:=by
  rw [mst_eq,stO,if_neg (by omega),if_neg (by omega),if_neg (by omega),if_neg (by omega),if_pos h,nthM (by omega),nthM (by omega)]
theorem mst_10 (h:f.op=10) (hk:f.kids.length=2):mst f a o=.nd 5 0 [mst (nth f.kids 1) a o,.nd 6 0 [mst (nth f.kids 0) a o,f]]:=by
  rw [mst_eq,stO,if_neg (by omega),if_neg (by omega),if_neg (by omega),if_neg (by omega),if_neg (by omega),if_pos h,nthM (by omega),nthM (by omega)]
theorem mst_n (h: ¬(f.op=2∨f.op=3∨f.op=4∨f.op=7∨f.op=8∨f.op=9∨f.op=10)):mst f a o=.nd f.op 0 (f.kids.map fun g=>mst g a o):=by
  rw [mst_eq,stO,if_neg (by omega),if_neg (by omega),if_neg (by omega),if_neg (by omega),if_neg (by omega),if_neg (by omega)]
end
theorem okT_ (b:Bool):okF (trF b)=true∧nnf (trF b)=true∧(trF b).op≤4:=by cases b <;> exact ⟨by decide+kernel,by decide+kernel,by decide+kernel⟩
theorem nnf_nd {o:Int} {l:List Fm} (h:o≠4) (hk: ∀ x∈l,nnf x=true):nnf (.nd o 0 l)=true:=
  nnf_of fun k hl=>⟨fun e=>absurd (show o=4 from e) h,hk _ (nth_mem hl)⟩
theorem mst_ok (f:Fm) (a o:Int):okF f=true→nnf f=true→okF (mst f a o)=true∧nnf (mst f a o)=true:=by
  refine fm_ind (p:=fun f=>okF f=true→nnf f=true→okF (mst f a o)=true∧nnf (mst f a o)=true) (fun f ih hf hn=>?_) f
  obtain ⟨hr,hk⟩:=okF_parts hf
  obtain ⟨r1,r2,r3,r4,r5,r6,r7,r8,r9⟩:=rgt_ok hr
  have K: ∀ k,k < f.kids.length→okF (mst (nth f.kids k) a o)=true∧nnf (mst (nth f.kids k) a o)=true:=fun k h=>ih k h (hk k h) (nnf_kid hn h).1
  by_cases h2:f.op=2
  · rw [mst_2 h2]; exact ⟨(okT_ _).1,(okT_ _).2.1⟩
  by_cases h3:f.op=3
  · rw [mst_3 h3]; exact ⟨(okT_ _).1,(okT_ _).2.1⟩
  by_cases h4:f.op=4
  · rw [mst_4 h4]; exact ⟨(okT_ _).1,(okT_ _).2.1⟩
  by_cases h79:f.op=7∨f.op=9
  · rw [mst_79 h79]; have:=r4 (by omega); exact ⟨hk 0 (by omega),(nnf_kid hn (by omega)).1⟩
  have bin: ∀ (p q:Int),(p=6∧q=5)∨(p=5∧q=6)→f.kids.length=2→okF (.nd p 0 [mst (nth f.kids 1) a o,.nd q 0 [mst (nth f.kids 0) a o,f]])=true∧nnf (.nd p 0 [mst (nth f.kids 1) a o,.nd q 0 [mst (nth f.kids 0) a o,f]])=true:=fun p q hpq h=>by
    have k0:=K 0 (by omega)
    have k1:=K 1 (by omega)
    have i1:okF (.nd q 0 [mst (nth f.kids 0) a o,f])=true:=okF_nd (.inr (.inr ⟨by omega,by simp⟩)) (by simp [k0.1,hf])
    have i2:nnf (.nd q 0 [mst (nth f.kids 0) a o,f])=true:=nnf_nd (by omega) (by simp [k0.2,hn])
    exact ⟨okF_nd (.inr (.inr ⟨by omega,by simp⟩)) (by simp [k1.1,i1]),nnf_nd (by omega) (by simp [k1.2,i2])⟩
  by_cases h8:f.op=8
  · rw [mst_8 h8 (r6 (.inl h8))]; exact bin 6 5 (.inl ⟨rfl,rfl⟩) (r6 (.inl h8))
  by_cases h10:f.op=10
  · rw [mst_10 h10 (r6 (.inr h10))]; exact bin 5 6 (.inr ⟨rfl,rfl⟩) (r6 (.inr h10))
  rw [mst_n (by omega)]
  by_cases h1:f.op=1
  · have e:f.kids=[]:=List.length_eq_zero_iff.1 (r3 (.inl h1))
    rw [e,h1]; exact (show okF (Fm.nd 1 0 [])=true∧nnf (Fm.nd 1 0 [])=true from ⟨by decide+kernel,by decide+kernel⟩)
  · have hl:=r5 (by omega)
    refine ⟨okF_nd (.inr (.inr ⟨by omega,by simpa using hl⟩)) (List.all_eq_true.2 fun x hx=>?_),nnf_nd h4 fun x hx=>?_⟩
    · obtain ⟨y,hy,rfl⟩:=List.mem_map.1 hx
      obtain ⟨j,hj,rfl⟩:=mem_nth hy
      exact (K j hj).1
    · obtain ⟨y,hy,rfl⟩:=List.mem_map.1 hx
      obtain ⟨j,hj,rfl⟩:=mem_nth hy
      exact (K j hj).2
abbrev t0:Tr:=⟨[],[]⟩
mutual
def WD (D:Nat):Fm→Prop
  | .nd o a k=>if o=5∨o=6 then WDL D k else if o=1∨(o=4∧(nth k 0).op=1) then True else CA (.nd o a k)∧dp (.nd o a k)≤D
def WDL (D:Nat):List Fm→Prop
  |[]=>True
  |f::l=>WD D f∧WDL D l
end
theorem WDL_iff (D:Nat): ∀ l:List Fm,WDL D l↔ ∀ x∈l,WD D x
  |[]=>by rw [WDL]; simp
  |f::l=>by rw [WDL,WDL_iff D l]; simp
theorem WD_eq (D:Nat) (f:Fm):WD D f↔if f.op=5∨f.op=6 then ∀ x∈f.kids,WD D x else if f.op=1∨(f.op=4∧(nth f.kids 0).op=1) then True else CA f∧dp f≤D:=by
  cases f; rw [WD,WDL_iff]; rfl
theorem WD.atom {D:Nat} {x:Fm} (h:CA x) (hd:dp x≤D):WD D x:=by
  rw [WD_eq]
  have:=h.at_
  unfold atB at this
  rw [if_neg (by omega)]
  split
  · trivial
  · exact ⟨h,hd⟩
theorem WD.nd {D:Nat} {o:Int} {l:List Fm} (ho:o=5∨o=6) (h: ∀ x∈l,WD D x):WD D (.nd o 0 l):=by
  rw [WD_eq,if_pos (show (Fm.nd o 0 l).op=5∨(Fm.nd o 0 l).op=6 from ho)]
  exact h
theorem WD.fin {D:Nat} {s:List Cl} (ha:AllA CA s) (hd:AllA (DA D) s):WD D (fin s):=by
  have hat: ∀ c∈s,∀ x∈c,WD D x:=fun c hc x hx=>WD.atom (ha c hc x hx) (hd c hc x hx)
  have hcl: ∀ c∈s,c≠[]→WD D (clF c):=fun c hc hne=>by
    unfold clF
    split
    · rename_i q; exact hat c hc _ (nth_mem (by omega))
    · exact WD.nd (.inl rfl) (hat c hc)
  rcases fin_cases s with ⟨rfl,e⟩|⟨hm,e⟩|⟨c,hne,rfl,e⟩|⟨h2,hn,e⟩
  · rw [e,WD_eq]; show if _ then _ else _; rw [if_neg (by decide),if_pos (.inr ⟨rfl,rfl⟩)]; trivial
  · rw [e,WD_eq]; show if _ then _ else _; rw [if_neg (by decide),if_pos (.inl rfl)]; trivial
  · rw [e]; exact hcl c (List.mem_singleton.2 rfl) hne
  · rw [e]
    refine WD.nd (.inr rfl) fun x hx=>?_
    obtain ⟨c,hc,rfl⟩:=List.mem_map.1 (mem_sF.1 hx)
    exact hcl c hc fun k=>hn (k ▸ hc)
theorem WD.mono {D E:Nat} (hDE:D≤E) (f:Fm):WD D f→WD E f:=by
  refine fm_ind (p:=fun f=>WD D f→WD E f) (fun f ih h=>?_) f
  rw [WD_eq] at h ⊢
  split
  · rename_i q
    rw [if_pos q] at h
    intro x hx
    obtain ⟨j,hj,rfl⟩:=mem_nth hx
    exact ih j hj (h _ hx)
  · rename_i q
    rw [if_neg q] at h
    split
    · trivial
    · rename_i q2; rw [if_neg q2] at h; exact ⟨h.1,Nat.le_trans h.2 hDE⟩
theorem WD.tr {D:Nat} (b:Bool):WD D (trF b):=by
  cases b
  · rw [WD_eq]; show if _ then _ else _; rw [if_neg (by decide),if_pos (.inr ⟨rfl,rfl⟩)]; trivial
  · rw [WD_eq]; show if _ then _ else _; rw [if_neg (by decide),if_pos (.inl rfl)]; trivial
end Go.Proofs.YteehaobohaecmaaGreatDoor
namespace Go.Proofs.YteehaobohaecmaaGreatDoor
open Go
def stM (f:Fm) (a o:Int):Fm×Int:=if fval f≠0 then (zF,fval f) else if a < 0∨64≤a∨o < 0∨1048576 < o then (zF,2) else if (simp_ f).2≠0 then (zF,(simp_ f).2) else chk (mst (simp_ f).1 a o)
structure Run (D:Nat) (g:Fm):Prop where
  c:Canon g
  v:fval g=0
  w:WD D g
theorem run_start {f : Fm} {D : Nat} (hv : fval f = 0) (hs : f.sz ≤ D) (hD : D ≤ 60) : simp_ f = (zF, 11) ∨ ∃ g, simp_ f = (g, 0) ∧ Run (D + 1) g ∧ ∀ t i, sat t g i = sat t f i := by
  have ho:=nrm_ok f (fval_ok hv) false
  have hn:=nrm_nnf f (fval_ok hv) false
  rcases simp_err hv (by omega) with h|⟨g,h1,h2,h3⟩
  · exact .inl h
  · refine .inr ⟨g,h3,⟨can_canon ho hn h1,h2,?_⟩,fun t i=>?_⟩
    · unfold can at h1
      cases q:cls (nrm f false) with
      |none=>rw [q] at h1; cases h1
      | some s =>
        rw [q] at h1
        injection h1 with h1
        have h4:=(cls_dp _ ho hn s q).1
        have h5:=nrm_wz f false
        rw [← h1]
        exact WD.fin (cls_CA _ ho hn s q) (h4.mono fun x hx=>by unfold DA at*; omega)
    · rw [can_sat ho h1,sat_nrm t f (fval_ok hv)]; simp
section
variable {S:Fm→Bool} {o d:Int}
end
structure Ordr (f g h:Fm) (p d:Int):Prop where
  ea:(simp_ (.nd p 0 [f,g,h])).2=0∨(simp_ (.nd p 0 [f,g,h])).2=11
  eb:(simp_ (.nd p 0 [h,.nd p 0 [g,f,g]])).2=0∨(simp_ (.nd p 0 [h,.nd p 0 [g,f,g]])).2=11
  ec:(simp_ (.nd p 0 [.nd p 0 [f,h],g,.nd 4 0 [.nd 4 0 [h]]])).2=0∨(simp_ (.nd p 0 [.nd p 0 [f,h],g,.nd 4 0 [.nd 4 0 [h]]])).2=11
  ed:(simp_ (.nd p 0 [f,.nd d 0 [f,g]])).2=0∨(simp_ (.nd p 0 [f,.nd d 0 [f,g]])).2=11
  ex:(simp_ f).2=0∨(simp_ f).2=11
  all:(simp_ (.nd p 0 [f,g,h])).2=0→(simp_ (.nd p 0 [h,.nd p 0 [g,f,g]])).2=0→(simp_ (.nd p 0 [.nd p 0 [f,h],g,.nd 4 0 [.nd 4 0 [h]]])).2=0→(simp_ (.nd p 0 [f,.nd d 0 [f,g]])).2=0→(simp_ f).2=0→
    (simp_ (.nd p 0 [f,g,h])).1=(simp_ (.nd p 0 [h,.nd p 0 [g,f,g]])).1∧(simp_ (.nd p 0 [f,g,h])).1=(simp_ (.nd p 0 [.nd p 0 [f,h],g,.nd 4 0 [.nd 4 0 [h]]])).1∧(simp_ (.nd p 0 [f,.nd d 0 [f,g]])).1=(simp_ f).1
end Go.Proofs.YteehaobohaecmaaGreatDoor
namespace Go.Proofs.YteehaobohaecmaaGreatDoor
open Go
theorem orI3 (a b c:Int):orI [a,b,c]=cp3 a b c:=by
  unfold cp3
  simp only [orI]
  by_cases h:a=0
  · by_cases h2:b=0
    · by_cases h3:c=0 <;> simp [h,h2,h3]
    · simp [h,h2]
  · simp [h]
theorem ordF_or (f h:Fm):ordF f h=cp3 (orI [cmpI f.op h.op,cmpI f.arg h.arg,cmpI f.kids.length h.kids.length]) (ordL f.kids h.kids) 0:=by rw [ordF_eq,orI3]
theorem cmp_first {f h:Fm} (d:orI [cmpI f.op h.op,cmpI f.arg h.arg,cmpI f.kids.length h.kids.length]≠0):orI [cmpI f.op h.op,cmpI f.arg h.arg,cmpI f.kids.length h.kids.length]=ordF f h:=by
  rw [ordF_or]; unfold cp3; rw [if_pos d]
theorem cmp_zero {a b:Int} (h:cmpI a b=0):a=b:=by
  have:=cmpI_rng a b
  omega
theorem cmp_len {f h:Fm} (d: ¬orI [cmpI f.op h.op,cmpI f.arg h.arg,cmpI f.kids.length h.kids.length]≠0):f.kids.length=h.kids.length:=by
  rw [orI3] at d
  unfold cp3 at d
  have:cmpI f.kids.length h.kids.length=0:=by
    split at d
    · rename_i q; exact (d q).elim
    · split at d
      · rename_i q; exact (d q).elim
      · exact Decidable.not_not.1 d
  have:=cmp_zero this
  omega
theorem cmp_start {f h:Fm} (d: ¬orI [cmpI f.op h.op,cmpI f.arg h.arg,cmpI f.kids.length h.kids.length]≠0):ordF f h=ordL f.kids h.kids:=by
  rw [ordF_or]; unfold cp3; rw [if_neg d]
  split
  · rfl
  · rename_i q; exact (Decidable.not_not.1 q).symm
theorem end_y {f:Fm} (e:f.op=1∨f.op=9):sat t0 f 0=true:=by
  rw [sat_eq]
  rcases e with e|e <;> rw [e] <;> rfl
theorem end_4 {f:Fm} (hf:okF f=true) (e:f.op=4):sat t0 f 0= !(sat t0 (nth f.kids 0) 0):=by
  obtain ⟨hr,hk⟩:=okF_parts hf
  obtain ⟨r1,r2,r3,r4,r5,r6,r7,r8,r9⟩:=rgt_ok hr
  have hl:=r4 (.inl e)
  rw [sat_eq,e]
  show (!nth (f.kids.map (sat t0)) 0 0)=_
  rw [nthM (by omega)]
theorem end_5 {f:Fm} (e:f.op=5):sat t0 f 0=f.kids.all fun g=>sat t0 g 0:=by
  rw [sat_eq,e]; show List.all _ _=_; rw [List.all_map]; rfl
theorem end_6 {f:Fm} (e:f.op=6):sat t0 f 0=f.kids.any fun g=>sat t0 g 0:=by
  rw [sat_eq,e]; show List.any _ _=_; rw [List.any_map]; rfl
theorem end_u {f:Fm} (hf:okF f=true) (e:f.op=8∨f.op=10):sat t0 f 0=sat t0 (nth f.kids 1) 0:=by
  obtain ⟨hr,hk⟩:=okF_parts hf
  obtain ⟨r1,r2,r3,r4,r5,r6,r7,r8,r9⟩:=rgt_ok hr
  have hl:=r6 e
  rw [sat_eq]
  rcases e with e|e <;> rw [e]
  · show untB (nth (f.kids.map (sat t0)) 0) (nth (f.kids.map (sat t0)) 1) 0 0=_
    rw [untB,nthM (by omega)]
  · show relB (nth (f.kids.map (sat t0)) 0) (nth (f.kids.map (sat t0)) 1) 0 0=_
    rw [relB,nthM (by omega)]
theorem end_n {f:Fm} (hf:okF f=true) (h1: ¬(f.op=1∨f.op=9)) (h4: ¬f.op=4) (h5: ¬f.op=5) (h6: ¬f.op=6) (hu: ¬(f.op=8∨f.op=10)):sat t0 f 0=false:=by
  obtain ⟨hr,hk⟩:=okF_parts hf
  obtain ⟨r1,r2,r3,r4,r5,r6,r7,r8,r9⟩:=rgt_ok hr
  have e:f.op=2∨f.op=3∨f.op=7:=by omega
  rw [sat_eq]
  rcases e with e|e|e <;> rw [e] <;> rfl
abbrev cCl (c:Cl):List V:=[.sl (c.map cF)]
@[simp] theorem pureLL_cls (l:List Cl):pureLL (l.map cCl)=true:=pureLL_map _ _ fun a=>by simp
@[simp] theorem canonLL_cls (l:List Cl):canonLL (l.map cCl)=true:=canonLL_map _ _ fun a=>by simp
def cntP {α:Type} (p:α→Bool) (l:List α):Nat:=(l.filter p).length
theorem cntP_le {α:Type} (p:α→Bool) (l:List α):cntP p l≤l.length:=List.length_filter_le _ _
theorem cntP_take {α:Type} [Inhabited α] {p:α→Bool} {l:List α} {k:Nat} (h:k < l.length):cntP p (l.take (k+1))=cntP p (l.take k)+(if p (nth l k)=true then 1 else 0):=by
  unfold cntP
  rw [List.take_succ_eq_append_getElem h,List.filter_append,List.length_append,nth_getElem h]
  congr 1
  by_cases e:p (nth l k)=true
  · rw [if_pos e,List.filter_cons_of_pos e]; rfl
  · rw [if_neg e,List.filter_cons_of_neg e]; rfl
theorem cntP_yes {α:Type} [Inhabited α] {p:α→Bool} {l:List α} {k:Nat} (h:k < l.length) (e:p (nth l k)=true):cntP p (l.take (k+1))=cntP p (l.take k)+1:=by rw [cntP_take h,if_pos e]
theorem cntP_no {α:Type} [Inhabited α] {p:α→Bool} {l:List α} {k:Nat} (h:k < l.length) (e: ¬p (nth l k)=true):cntP p (l.take (k+1))=cntP p (l.take k):=by rw [cntP_take h,if_neg e]; rfl
theorem cntP_all {α:Type} (p:α→Bool) (l:List α):decide ((cntP p l:Int)=(l.length:Nat))=l.all p:=by
  refine bool_ext ?_
  rw [decide_eq_true_eq,List.all_eq_true]
  unfold cntP
  constructor
  · intro h x hx
    have:l.filter p=l:=List.filter_eq_self.2 fun y hy=>by
      have:=List.length_filter_eq_length_iff.1 (show (l.filter p).length=l.length by omega)
      exact this y hy
    exact List.filter_eq_self.1 this x hx
  · intro h
    rw [List.filter_eq_self.2 h]
theorem cntP_any {α:Type} (p:α→Bool) (l:List α):decide ((0:Int) < (cntP p l:Nat))=l.any p:=by
  refine bool_ext ?_
  rw [decide_eq_true_eq,List.any_eq_true]
  unfold cntP
  constructor
  · intro h
    have:0 < (l.filter p).length:=by omega
    obtain ⟨x,hx⟩:=List.exists_mem_of_length_pos this
    rw [List.mem_filter] at hx
    exact ⟨x,hx.1,hx.2⟩
  · rintro ⟨x,hx,hp⟩
    have:=List.length_pos_of_mem (List.mem_filter.2 ⟨hx,hp⟩)
    omega
theorem cntP_none {α:Type} (p:α→Bool) (l:List α):decide ((cntP p l:Int)=0)=l.all fun x=> !p x:=by
  refine bool_ext ?_
  rw [decide_eq_true_eq,List.all_eq_true]
  unfold cntP
  constructor
  · intro h x hx
    cases e:p x with
    |false=>rfl
    | true =>
      have:=List.length_pos_of_mem (List.mem_filter.2 ⟨hx,e⟩)
      omega
  · intro h
    rw [List.filter_eq_nil_iff.2 fun x hx=>by have:=h x hx; simp at this; simp [this]]
    rfl
end Go.Proofs.YteehaobohaecmaaGreatDoor
namespace Go.Proofs.YteehaobohaecmaaGreatDoor
open Go
def lbF:List Fm→Fm→Nat
  |[],_=>0
  |x::l,f=>if ordF x f < 0 then lbF l f+1 else 0
theorem lbF_le (f:Fm): ∀ l:List Fm,lbF l f≤l.length
  |[]=>Nat.le_refl _
  | x :: l => by
    rw [lbF]
    have:=lbF_le f l
    split <;> simp <;> omega
theorem lbF_iff {f:Fm}: ∀ {l:List Fm} {i:Nat},SrtF l→i < l.length→(ordF (nth l i) f < 0↔i < lbF l f)
  |[],i,_,h=>absurd h (Nat.not_lt_zero _)
  | x :: l, 0, _, _ => by
    rw [lbF]
    show ordF x f < 0↔_
    split <;> rename_i q
    · exact ⟨fun _=>Nat.succ_pos _,fun _=>q⟩
    · exact ⟨fun e=>(q e).elim,fun e=>absurd e (Nat.lt_irrefl _)⟩
  | x :: l, i + 1, hs, h => by
    have hs':=List.pairwise_cons.1 hs
    have hi:i < l.length:=by simpa using h
    have ih:=lbF_iff (f:=f) hs'.2 hi
    rw [lbF]
    show ordF (nth l i) f < 0↔_
    split <;> rename_i q
    · rw [ih]; omega
    · refine ⟨fun e=>(q (ordF_trans (hs'.1 _ (nth_mem hi)) e)).elim,fun e=>absurd e (Nat.not_lt_zero _)⟩
theorem srtF_lt {l:List Fm} (hs:SrtF l) {i j:Nat} (h:i < j) (hj:j < l.length):ordF (nth l i) (nth l j) < 0:=by
  have:=List.pairwise_iff_getElem.1 hs i j (by omega) hj h
  rwa [nth_getElem,nth_getElem] at this
theorem lbF_found {l:List Fm} (hs:SrtF l) (f:Fm):decide (lbF l f < l.length∧ordF (nth l (lbF l f)) f=0)=l.any fun y=>sameF y f:=by
  refine bool_ext ?_
  rw [decide_eq_true_eq,List.any_eq_true]
  constructor
  · rintro ⟨h1,h2⟩
    exact ⟨_,nth_mem h1,by rw [ordF_zero _ _ h2]; exact sameF_self f⟩
  · rintro ⟨y,hy,he⟩
    have:=(sameF_iff _ _).1 he
    subst this
    obtain ⟨i,hi,e⟩:=List.getElem_of_mem hy
    rw [nth_getElem hi] at e
    have h1: ¬i < lbF l y:=fun q=>by
      have:=(lbF_iff hs hi).2 q
      rw [e,ordF_self] at this; omega
    have h2: ¬lbF l y < i:=fun q=>by
      have h3:=srtF_lt hs q hi
      rw [e] at h3
      have:=(lbF_iff hs (by omega)).1 h3
      omega
    have h3:lbF l y=i:=by omega
    rw [h3,e]
    exact ⟨hi,ordF_self y⟩
theorem con_cnt (c d:Cl):decide ((cntP (fun x=> !(c.any fun y=>sameF y x)) d:Int)=0)=conB c d:=by
  rw [cntP_none]; unfold conB; congr 1; funext x; simp
theorem flt_yes {α:Type} [Inhabited α] {p:α→Bool} {l:List α} {k:Nat} (h:k < l.length) (e:p (nth l k)=true):(l.take (k+1)).filter p=(l.take k).filter p++[nth l k]:=by
  rw [take_succ_nth h,List.filter_append,List.filter_cons_of_pos e]; rfl
theorem flt_no {α:Type} [Inhabited α] {p:α→Bool} {l:List α} {k:Nat} (h:k < l.length) (e: ¬p (nth l k)=true):(l.take (k+1)).filter p=(l.take k).filter p:=by
  rw [take_succ_nth h,List.filter_append,List.filter_cons_of_neg e,List.filter_nil,List.append_nil]
theorem flt_len {α:Type} (p:α→Bool) (l:List α) (k:Nat):((l.take k).filter p).length≤l.length:=Nat.le_trans (List.length_filter_le _ _) (by rw [List.length_take]; omega)
theorem wth_old {s:List Cl} {c:Cl} (h:0 < (cntP (fun d=>conB c d) s:Int)):s=wth s c:=by
  have:=cntP_any (fun d=>conB c d) s
  rw [decide_eq_true h] at this
  unfold wth; rw [if_pos this.symm]
theorem wth_add {s:List Cl} {c:Cl} (h: ¬0 < (cntP (fun d=>conB c d) s:Int)):s.filter (fun d=> !conB d c)++[c]=wth s c:=by
  have:=cntP_any (fun d=>conB c d) s
  rw [decide_eq_false h] at this
  unfold wth; rw [if_neg (by rw [← this]; exact Bool.false_ne_true)]
theorem prC_step {out:List Cl} {c:Cl} {b:List Cl} {j:Nat} (h:j < b.length):prC out c (b.take (j+1))=wth (prC out c (b.take j)) (unF c (nth b j)):=by
  unfold prC
  rw [take_succ_nth h,List.map_append,wths_app]; rfl
theorem prd_step {a b:List Cl} {k:Nat} (h:k < a.length):prd (a.take (k+1)) b=prC (prd (a.take k) b) (nth a k) b:=by
  unfold prd
  rw [take_succ_nth h,List.foldl_append]; rfl
theorem prC_ant {out:List Cl} {c:Cl} {b:List Cl} (h:Ant out) (hc:SrtF c):Ant (prC out c b):=wths_ant h fun d hd=>by
  obtain ⟨e,_,rfl⟩:=List.mem_map.1 hd
  exact unF_srt hc
theorem prC_len (out:List Cl) (c:Cl) (b:List Cl):(prC out c b).length≤out.length+b.length:=by
  have:=wths_len (b.map (unF c)) out
  rw [List.length_map] at this
  exact this
theorem Ant.at_ {s:List Cl} (h:Ant s) {k:Nat} (hk:k < s.length):SrtF (nth s k):=h.srt _ (nth_mem hk)
def cVal (o:Option (List Cl)):List Cl:=o.getD []
def cErr {α:Type} (o:Option α):Int:=match o with
  |some _=>0
  |none=>11
def fVal (o:Option Fm):Fm:=o.getD zF
end Go.Proofs.YteehaobohaecmaaGreatDoor
namespace Go.Proofs.YteehaobohaecmaaGreatDoor
open Go
abbrev fdA (a b:Tr):List Int:=a.no.take (cmn a.ni b.ni)
abbrev fdB (a b:Tr):List Int:=b.no.take (cmn a.ni b.ni)
def fd (a b:Tr):List (List Int):=if cmn (fdA a b) (fdB a b) < min (fdA a b).length (fdB a b).length then [a.ni.take (difn (fdA a b) (fdB a b)+1)] else []
theorem OK.same {o:Ob} (ok:OK o) {s t:Tr} (hs:s∈o.tr) (ht:t∈o.tr) {j:Nat} (hj:j < cmn s.ni t.ni):nth s.no j=nth t.no j:=by
  obtain ⟨a,ha,rfl⟩:=mem_nth hs
  obtain ⟨b,hb,rfl⟩:=mem_nth ht
  have key: ∀ a b,a < b→b < o.tr.length→ ∀ j,j < cmn (nth o.tr a).ni (nth o.tr b).ni→nth (nth o.tr a).no j=nth (nth o.tr b).no j:=by
    intro a b hab hb j hj
    by_cases e:nth (nth o.tr a).no j=nth (nth o.tr b).no j
    · exact e
    · have h1:=ok.cla a b hab hb
      have h2:=df_iff.2 ⟨j,hj,e⟩
      omega
  by_cases e:a=b
  · subst e; rfl
  · by_cases h:a < b
    · exact key a b h hb j hj
    · rw [cmn_comm] at hj
      exact (key b a (by omega) ha j hj).symm
def Ap (o:Ob) (u v x:List Int):Prop:=
  x≠[]∧ ∃ s∈o.tr,∃ t∈o.tr,hp s.ni (u++x)=true∧hp t.ni (v++x)=true∧nth s.no (u.length+x.length - 1)≠nth t.no (v.length+x.length - 1)
theorem Ap.symm {o:Ob} {u v x:List Int} (h:Ap o u v x):Ap o v u x:=by
  obtain ⟨h1,s,hs,t,ht,h2,h3,h4⟩:=h
  exact ⟨h1,t,ht,s,hs,h3,h2,fun e=>h4 e.symm⟩
structure Covers (o:Ob) (u v:List Int) (l:List (List Int)):Prop where
  sound: ∀ x∈l,Ap o u v x
  full: ∀ x,Ap o u v x→ ∃ y∈l,slx y x≤0
theorem Covers.swap {o:Ob} {u v:List Int} {l:List (List Int)} (h:Covers o u v l):Covers o v u l:=
  ⟨fun x hx=>(h.sound x hx).symm,fun x hx=>h.full x hx.symm⟩
end Go.Proofs.YteehaobohaecmaaGreatDoor
namespace Go.Proofs.YteehaobohaecmaaGreatDoor
open Go.Sort
def plP (w u:List Int):Bool:=decide (slx u w < 0)
def plN (l:List (List Int)) (w:List Int):Nat:=(l.takeWhile (plP w)).length
def wiH (l:List (List Int)) (w:List Int):Prop:=plN l w < l.length∧nth l (plN l w)=w
instance (l:List (List Int)) (w:List Int):Decidable (wiH l w):=inferInstanceAs (Decidable (_∧_))
theorem set_app_drop {α:Type} {a l:List α} {x:α} (h:a.length < l.length):(a++l.drop a.length).set a.length x=a++[x]++l.drop (a.length+1):=by
  rw [List.drop_eq_getElem_cons h]
  rw [List.set_append_right _ _ (Nat.le_refl _),Nat.sub_self,List.set_cons_zero]; simp
end Go.Proofs.YteehaobohaecmaaGreatDoor
namespace Go.Proofs.YteehaobohaecmaaGreatDoor
open Go
instance:DecidableEq Fm:=fun a b=>decidable_of_iff (sameF a b=true) (sameF_iff a b)
def dfK (L:List Fm):Nat→List Fm
  |0=>[]
  |j+1=>if j=0∨nth L j≠nth L (j - 1) then dfK L j++[nth L j] else dfK L j
def dfL (L:List Fm) (j:Nat):List Fm:=dfK L j++L.drop (dfK L j).length
theorem dfK_le (L:List Fm): ∀ j,(dfK L j).length≤j
  |0=>Nat.le_refl _
  | j + 1 => by
    have:=dfK_le L j
    simp only [dfK]; split <;> simp <;> omega
theorem dfL_len {L:List Fm} {j:Nat} (h:j≤L.length):(dfL L j).length=L.length:=by
  have:=dfK_le L j
  unfold dfL; rw [List.length_append,List.length_drop]; omega
theorem dfL_nth {L:List Fm} {j k:Nat} (h:(dfK L j).length≤k):nth (dfL L j) k=nth L k:=by
  unfold dfL
  have e:nth (dfK L j++L.drop (dfK L j).length) ((dfK L j).length+(k - (dfK L j).length))=nth (L.drop (dfK L j).length) (k - (dfK L j).length):=nth_app_r
  rw [nth_dropn] at e
  rw [show (dfK L j).length+(k - (dfK L j).length)=k by omega] at e
  exact e
theorem dfK_keep {L:List Fm} {j:Nat} (h:j=0∨nth L j≠nth L (j - 1)):dfK L (j+1)=dfK L j++[nth L j]:=if_pos h
theorem dfK_skip {L:List Fm} {j:Nat} (h: ¬(j=0∨nth L j≠nth L (j - 1))):dfK L (j+1)=dfK L j:=if_neg h
theorem dfL_skip {L:List Fm} {j:Nat} (h: ¬(j=0∨nth L j≠nth L (j - 1))):dfL L (j+1)=dfL L j:=by unfold dfL; rw [dfK_skip h]
theorem dfL_keep {L:List Fm} {j:Nat} (hj:j < L.length) (h:j=0∨nth L j≠nth L (j - 1)):(dfL L j).set (dfK L j).length (nth L j)=dfL L (j+1):=by
  have:=dfK_le L j
  unfold dfL
  rw [dfK_keep h,set_app_drop (by omega)]
  simp
theorem dfK_all {L:List Fm}: ∀ {j:Nat},j≤L.length→(∀ i,1≤i→i < j→nth L i≠nth L (i - 1))→dfK L j=L.take j
  |0,_,_=>by simp [dfK]
  | j + 1, hj, h => by
    rw [dfK_keep (by by_cases e:j=0; exact .inl e; exact .inr (h j (by omega) (by omega))),dfK_all (by omega) fun i h1 h2=>h i h1 (by omega),take_succ_nth (by omega)]
theorem dfK_mem {L : List Fm} : ∀ {j : Nat}, j ≤ L.length → ∀ u, u ∈ dfK L j ↔ u ∈ L.take j
  |0,_,u=>by simp [dfK]
  | j + 1, hj, u => by
    have ih:=dfK_mem (L:=L) (j:=j) (by omega) u
    rw [take_succ_nth (by omega),List.mem_append,List.mem_singleton]
    by_cases h:j=0∨nth L j≠nth L (j - 1)
    · rw [dfK_keep h,List.mem_append,List.mem_singleton,ih]
    · rw [dfK_skip h,ih]
      refine ⟨.inl,fun q=>q.elim id fun e=>?_⟩
      have e2:nth L j=nth L (j - 1):=by
        by_cases e3:nth L j=nth L (j - 1)
        · exact e3
        · exact (h (.inr e3)).elim
      have:nth (L.take j) (j - 1)=u:=by rw [nth_take (by omega),← e2,e]
      rw [← this]
      exact nth_mem (by rw [List.length_take]; omega)
theorem df_all {l:List Fm} (h: ∀ i,1≤i→i < l.length→nth l i≠nth l (i - 1)):dfK l l.length=l:=by
  rw [dfK_all (Nat.le_refl _) h,List.take_length]
theorem df_start {l:List Fm} {k:Nat} (h1:1≤k) (hk:k < l.length) (h: ∀ i,1≤i→i < k→nth l i≠nth l (i - 1)) (he:nth l k=nth l (k - 1)):(dfK l (k+1)).length=k∧dfL l (k+1)=l:=by
  have e1:dfK l (k+1)=l.take k:=by
    rw [dfK_skip (by rintro (q|q); omega; exact q he),dfK_all (by omega) h]
  have e2:(l.take k).length=k:=by simp; omega
  refine ⟨by rw [e1,e2],?_⟩
  unfold dfL; rw [e1,e2,List.take_append_drop]
theorem df_pos {l:List Fm}: ∀ {j:Nat},0 < j→0 < (dfK l j).length
  |1,_=>by rw [show (1:Nat)=0+1 from rfl,dfK_keep (.inl rfl)]; simp
  | j + 2, _ => by
    have:=df_pos (l:=l) (j:=j+1) (by omega)
    simp only [dfK] at this ⊢
    split
    · rw [List.length_append]; omega
    · exact this
theorem df_at {l:List Fm} {k j:Nat} (h:(dfK l (k+j)).length < k+j) (hj:1≤j):
    nth (dfL l (k+j)) (0+k+j)=nth l (k+j)∧nth (dfL l (k+j)) (0+k+(((j:Nat):Int) - (1:Int)).toNat)=nth l (k+j - 1):=by
  refine ⟨(dfL_nth (by omega)).trans (by congr 1; omega),(dfL_nth (by omega)).trans (by congr 1; omega)⟩
theorem df_take {l:List Fm} {j:Nat} (h:l.length≤j) (hj:j≤l.length):(dfL l j).take (dfK l j).length=dfK l l.length:=by
  have:j=l.length:=by omega
  subst this
  unfold dfL; rw [List.take_left]
theorem ord_zero_of {f g:Fm} (h1: ¬ordF f g < 0) (h2: ¬ordF g f < 0):f=g:=by
  have:=ordF_swap f g
  exact ordF_zero f g (by omega)
theorem dfK_srt {L : List Fm} (hs : L.Pairwise fun a b => ¬ordF b a < 0) : ∀ {j : Nat}, j ≤ L.length → SrtF (dfK L j)
  |0,_=>List.Pairwise.nil
  | j + 1, hj => by
    have ih:=dfK_srt hs (j:=j) (by omega)
    by_cases h:j=0∨nth L j≠nth L (j - 1)
    · rw [dfK_keep h]
      show List.Pairwise _ _
      rw [List.pairwise_append]
      refine ⟨ih,by simp,fun a ha b hb=>?_⟩
      rw [List.mem_singleton.1 hb]
      have ha':=(dfK_mem (L:=L) (by omega) a).1 ha
      obtain ⟨i,hi,rfl⟩:=mem_nth ha'
      rw [List.length_take] at hi
      rw [nth_take (by omega)]
      have le: ∀ p q,p < q→q < L.length→ ¬ordF (nth L q) (nth L p) < 0:=fun p q h1 h2=>by
        have:=(List.pairwise_iff_getElem.1 hs) p q (by omega) h2 h1
        rwa [nth_getElem,nth_getElem] at this
      have h1:=le i j (by omega) (by omega)
      by_cases e:ordF (nth L i) (nth L j) < 0
      · exact e
      · exfalso
        have heq:nth L i=nth L j:=ord_zero_of e h1
        have h2:=le (j - 1) j (by omega) (by omega)
        have h4:nth L j=nth L (j - 1):=by
          by_cases ei:i=j - 1
          · rw [← heq,ei]
          · have h3:=le i (j - 1) (by omega) (by omega)
            rw [heq] at h3
            exact ord_zero_of h2 h3
        rcases h with h|h
        · omega
        · exact h h4
    · rw [dfK_skip h]; exact ih
theorem un_srt {c d:Cl} (hc:SrtF c):dfK (srt ordF (c++d)) (srt ordF (c++d)).length=unF c d:=by
  refine srtF_uniq (dfK_srt (srt_sorted ordF_swo _) (Nat.le_refl _)) (unF_srt hc) fun x=>?_
  rw [dfK_mem (Nat.le_refl _),List.take_length,(srt_perm ordF _).mem_iff,List.mem_append,mem_unF]
def catF (l:List Cl):Cl:=l.flatten
theorem catF_take {l:List Cl} {k:Nat} (h:k < l.length):catF (l.take (k+1))=catF (l.take k)++nth l k:=by
  unfold catF; rw [take_succ_nth h,List.flatten_append]; simp
theorem catF_le {l:List Cl} {k:Nat} (h:k < l.length):(catF (l.take k)).length+(nth l k).length≤(catF l).length:=by
  have e:catF l=catF (l.take (k+1))++catF (l.drop (k+1)):=by unfold catF; rw [← List.flatten_append,List.take_append_drop]
  rw [e,catF_take h]; simp
theorem catF2 (c d:Cl):catF [c,d]=c++d:=by simp [catF]
end Go.Proofs.YteehaobohaecmaaGreatDoor
namespace Go.Proofs.YteehaobohaecmaaGreatDoor
open Go
abbrev CLen (n:Nat) (s:List Cl):Prop:= ∀ c∈s,c.length≤n
theorem CLen.at_ {n:Nat} {s:List Cl} (h:CLen n s) {k:Nat} (hk:k < s.length):(nth s k).length≤n:=h _ (nth_mem hk)
theorem prC_clen {n:Nat} {out:List Cl} {c:Cl} {b:List Cl} (ho:CLen n out) (hb: ∀ e∈b,c.length+e.length≤n):CLen n (prC out c b):=fun d hd=>by
  rcases mem_wths hd with h|h
  · exact ho d h
  · obtain ⟨e,he,rfl⟩:=List.mem_map.1 h
    exact Nat.le_trans (unF_len e c) (hb e he)
theorem prd_clen {n:Nat} {a b:List Cl} (h: ∀ c∈a,∀ e∈b,c.length+e.length≤n):CLen n (prd a b):=fun d hd=>by
  obtain ⟨c,hc,e,he,rfl⟩:=mem_prd hd
  exact Nat.le_trans (unF_len e c) (h c hc e he)
theorem prd_len (a b:List Cl):(prd a b).length≤a.length*b.length:=by
  have h:(prdF [] a b).length≤_:=prdF_len b a []
  rw [List.length_nil,Nat.zero_add] at h
  exact h
theorem prd_len2 {a b:List Cl} {k:Nat} (na:a.length≤64) (nb:b.length≤65536) (hk:k≤a.length):(prd (a.take k) b).length≤4194304:=by
  have h1:=prd_len (a.take k) b
  have h2:(a.take k).length≤64:=by rw [List.length_take]; omega
  exact Nat.le_trans h1 (Nat.le_trans (Nat.mul_le_mul h2 nb) (by decide))
theorem prdT_ant {a b:List Cl} (ha: ∀ k,k < a.length→SrtF (nth a k)) (k:Nat):Ant (prd (a.take k) b):=prdF_ant Ant.nil fun c hc=>by
  obtain ⟨i,hi,rfl⟩:=mem_nth (List.mem_of_mem_take hc)
  exact ha i hi
theorem prdT_clen {n m:Nat} {a b:List Cl} (la: ∀ k,k < a.length→(nth a k).length≤n) (lb: ∀ k,k < b.length→(nth b k).length≤m) (k:Nat):CLen (n+m) (prd (a.take k) b):=prd_clen fun c hc e he=>by
  obtain ⟨i,hi,rfl⟩:=mem_nth (List.mem_of_mem_take hc)
  obtain ⟨j,hj,rfl⟩:=mem_nth he
  have:=la i hi; have:=lb j hj
  omega
theorem prCT_clen {n m:Nat} {out:List Cl} {c:Cl} {b:List Cl} (ho:CLen (n+m) out) (hc:c.length≤n) (lb: ∀ k,k < b.length→(nth b k).length≤m) (j:Nat):CLen (n+m) (prC out c (b.take j)):=prC_clen ho fun e he=>by
  obtain ⟨i,hi,rfl⟩:=mem_nth (List.mem_of_mem_take he)
  have:=lb i hi
  omega
end Go.Proofs.YteehaobohaecmaaGreatDoor
namespace Go.Proofs.YteehaobohaecmaaGreatDoor
open Go
theorem CLen.mono {n m:Nat} {s:List Cl} (h:CLen n s) (hm:n≤m):CLen m s:=fun c hc=>Nat.le_trans (h c hc) hm
theorem djL_clen: ∀ {l:List Fm} {n:Nat} {out s:List Cl},(∀ k,k < l.length→ ∀ t,cls (nth l k)=some t→CLen n t)→CLen n out→djL l out=some s→CLen n s
  | [], n, out, s, _, h1, h => by
    rw [djL] at h
    split at h
    · cases h
    · cases h; exact h1
  | f :: l, n, out, s, hk, h1, h => by
    rw [djL] at h
    cases q:cls f with
    |none=>rw [q] at h; cases h
    | some t =>
      rw [q] at h
      refine djL_clen (fun k hl t ht=>hk (k+1) (by simpa using hl) t ht) (fun c hc=>?_) h
      rcases mem_wths hc with h2|h2
      · exact h1 c h2
      · exact hk 0 (by simp) t q c h2
theorem cjL_clen : ∀ {l : List Fm} {n : Nat} {out s : List Cl}, (∀ k, k < l.length → ∀ t, cls (nth l k) = some t → CLen (nth l k).sz t) → CLen n out → cjL l out = some s → CLen (n + Fm.szs l) s
  |[],n,out,s,_,h1,h=>by rw [cjL] at h; cases h; exact h1.mono (Nat.le_add_right _ _)
  | f :: l, n, out, s, hk, h1, h => by
    rw [cjL] at h
    cases q:cls f with
    |none=>rw [q] at h; cases h
    | some t =>
      rw [q] at h
      simp only at h
      split at h
      · cases h
      · have h0:CLen f.sz t:=hk 0 (by simp) t q
        have h2:CLen (n+f.sz) (prd out t):=prd_clen fun c hc e he=>by
          have:=h1 c hc; have:=h0 e he; omega
        have:=cjL_clen (fun k hl t ht=>hk (k+1) (by simpa using hl) t ht) h2 h
        rw [Fm.szs]
        exact this.mono (by omega)
theorem Fm.sz_eq (f:Fm):f.sz=Fm.szs f.kids+1:=by cases f; rfl
theorem Fm.sz_pos (f:Fm):1≤f.sz:=by rw [Fm.sz_eq]; omega
theorem clen_one {n:Nat} {x:Fm} (h:1≤n):CLen n [[x]]:=fun c hc=>by rw [List.mem_singleton.1 hc]; exact h
theorem cls_clen (f:Fm): ∀ s,cls f=some s→CLen f.sz s:=by
  refine fm_ind (p:=fun f=> ∀ s,cls f=some s→CLen f.sz s) (fun f ih s h=>?_) f
  have hp:=f.sz_pos
  rw [cls_eq] at h
  split at h
  · cases h; exact fun c hc=>by rw [List.mem_singleton.1 hc]; exact Nat.zero_le _
  split at h
  · split at h
    · cases h; exact fun c hc=>absurd hc List.not_mem_nil
    · cases h; exact clen_one hp
  split at h
  · cases h; exact clen_one hp
  split at h
  · exact djL_clen (fun k hk t ht=>(ih k hk t ht).mono (Nat.le_of_lt (Fm.sz_kid hk))) (fun c hc=>absurd hc List.not_mem_nil) h
  split at h
  · have:=cjL_clen (n:=0) (fun k hk t ht=>ih k hk t ht) (fun c hc=>by rw [List.mem_singleton.1 hc]; exact Nat.le_refl 0) h
    rw [Fm.sz_eq]
    exact this.mono (by omega)
  · split at h
    · cases h
    · cases h; exact clen_one hp
theorem mstL_szs (a o:Int) (l:List Fm) (h: ∀ k,k < l.length→(mst (nth l k) a o).sz≤(nth l k).sz*(nth l k).sz*4):Fm.szs (l.map fun f=>mst f a o)≤Fm.szs l*Fm.szs l*4:=by
  induction l with
  |nil=>exact Nat.le_refl _
  | cons f l ih =>
    have h0:(mst f a o).sz≤f.sz*f.sz*4:=h 0 (by simp)
    have h1:=ih fun k hk=>h (k+1) (by simpa using hk)
    simp only [List.map_cons,Fm.szs]
    have:(f.sz+Fm.szs l)*(f.sz+Fm.szs l)*4=f.sz*f.sz*4+Fm.szs l*Fm.szs l*4+f.sz*Fm.szs l*8:=by
      rw [Nat.add_mul,Nat.mul_add,Nat.mul_add,Nat.mul_comm (Fm.szs l) f.sz]; omega
    omega
theorem sq_le {a b:Nat} (h:a≤b):a*a≤b*b:=Nat.mul_le_mul h h
theorem mst_sz (f:Fm) (a o:Int):okF f=true→(mst f a o).sz≤f.sz*f.sz*4:=by
  refine fm_ind (p:=fun f=>okF f=true→(mst f a o).sz≤f.sz*f.sz*4) (fun f ih hf=>?_) f
  obtain ⟨hr,hk⟩:=okF_parts hf
  obtain ⟨r1,r2,r3,r4,r5,r6,r7,r8,r9⟩:=rgt_ok hr
  have hp:=f.sz_pos
  have hq:f.sz≤f.sz*f.sz:=Nat.le_mul_of_pos_left _ hp
  have ht: ∀ b,(trF b).sz≤f.sz*f.sz*4:=fun b=>by
    have:(trF b).sz≤2:=by cases b <;> decide
    omega
  have K: ∀ k,k < f.kids.length→(mst (nth f.kids k) a o).sz≤(nth f.kids k).sz*(nth f.kids k).sz*4:=fun k h=>ih k h (hk k h)
  have two:f.kids.length=2→(mst (nth f.kids 1) a o).sz+(mst (nth f.kids 0) a o).sz+f.sz+2≤f.sz*f.sz*4:=fun h2=>by
    have k0:=K 0 (by omega)
    have k1:=K 1 (by omega)
    have e:f.sz=(nth f.kids 0).sz+(nth f.kids 1).sz+1:=by
      rw [Fm.sz_eq]
      match f.kids,h2 with
      |[x,y],_=>simp [Fm.szs,nth_zero,nth_succ]
    have p0:=(nth f.kids 0).sz_pos
    have p1:=(nth f.kids 1).sz_pos
    rw [e]
    generalize (nth f.kids 0).sz=u at*
    generalize (nth f.kids 1).sz=v at*
    have:(u+v+1)*(u+v+1)*4=u*u*4+v*v*4+u*v*8+u*8+v*8+4:=by
      simp only [Nat.add_mul,Nat.mul_add,Nat.mul_one,Nat.one_mul]
      rw [Nat.mul_comm v u]; omega
    omega
  by_cases h2:f.op=2
  · rw [mst_2 h2]; exact ht _
  by_cases h3:f.op=3
  · rw [mst_3 h3]; exact ht _
  by_cases h4:f.op=4
  · rw [mst_4 h4]; exact ht _
  by_cases h79:f.op=7∨f.op=9
  · rw [mst_79 h79]
    have:=Fm.sz_kid (f:=f) (k:=0) (by have:=r4 (by omega); omega)
    omega
  by_cases h8:f.op=8
  · rw [mst_8 h8 (r6 (.inl h8))]
    have:=two (r6 (.inl h8))
    simp only [Fm.sz,Fm.szs]; omega
  by_cases h10:f.op=10
  · rw [mst_10 h10 (r6 (.inr h10))]
    have:=two (r6 (.inr h10))
    simp only [Fm.sz,Fm.szs]; omega
  rw [mst_n (by omega)]
  have h:=mstL_szs a o f.kids K
  have e:=f.sz_eq
  simp only [Fm.sz]
  rw [e]
  generalize Fm.szs f.kids=u at*
  have:(u+1)*(u+1)*4=u*u*4+u*8+4:=by
    simp only [Nat.add_mul,Nat.mul_add,Nat.mul_one,Nat.one_mul]; omega
  omega
end Go.Proofs.YteehaobohaecmaaGreatDoor
namespace Go.Proofs.YteehaobohaecmaaGreatDoor
open Go
theorem cE_no {α:Type} {o:Option α} (h: ¬cErr o≠0): ∃ s,o=some s:=by
  cases o with
  |none=>exact (h (show (11:Int)≠0 by decide)).elim
  |some s=>exact ⟨s,rfl⟩
theorem cE_yes {α:Type} {o:Option α} (h:cErr o≠0):o=none:=by
  cases o with
  |none=>rfl
  |some s=>exact (h rfl).elim
theorem cV_some {o:Option (List Cl)} (h: ¬cErr o≠0):o=some (cVal o):=by
  obtain ⟨s,rfl⟩:=cE_no h; rfl
theorem wths_step {out z:List Cl} {j:Nat} (h:j < z.length):wths out (z.take (j+1))=wth (wths out (z.take j)) (nth z j):=by
  rw [take_succ_nth h,wths_app]; rfl
theorem wthsT_len (out z:List Cl) (j:Nat):(wths out (z.take j)).length≤out.length+z.length:=by
  have:=wths_len (z.take j) out
  rw [List.length_take] at this
  omega
theorem wthsT_ant {out z:List Cl} (ho:Ant out) (hz:Ant z) (j:Nat):Ant (wths out (z.take j)):=wths_ant ho fun c hc=>hz.srt c (List.mem_of_mem_take hc)
theorem wthsT_clen {n:Nat} {out z:List Cl} (ho:CLen n out) (hz:CLen n z) (j:Nat):CLen n (wths out (z.take j)):=fun c hc=>by
  rcases mem_wths hc with h|h
  · exact ho c h
  · exact hz c (List.mem_of_mem_take h)
theorem kid_cl {l:List Fm} {k:Nat} (hk:k < l.length) (hok:okF (nth l k)=true) (h: ¬cErr (cls (nth l k))≠0):GdS (cVal (cls (nth l k)))∧CLen (Fm.szs l) (cVal (cls (nth l k)))∧CLen (nth l k).sz (cVal (cls (nth l k))):=
  ⟨cls_good _ hok _ (cV_some h),(cls_clen _ _ (cV_some h)).mono (Fm.szs_nth hk),cls_clen _ _ (cV_some h)⟩
theorem lim_yes {n:Nat} (h:(if 64 < n then (11:Int) else 0)≠0):64 < n:=by
  by_cases q:64 < n
  · exact q
  · rw [if_neg q] at h; exact (h rfl).elim
theorem lim_no {n:Nat} (h: ¬(if 64 < n then (11:Int) else 0)≠0): ¬64 < n:=fun q=>by
  rw [if_pos q] at h; exact h (by decide)
theorem szs_take {l:List Fm} {k:Nat} (h:k < l.length):Fm.szs (l.take (k+1))=Fm.szs (l.take k)+(nth l k).sz:=by
  have app: ∀ a b:List Fm,Fm.szs (a++b)=Fm.szs a+Fm.szs b:=fun a b=>by
    induction a with
    |nil=>simp [Fm.szs]
    |cons x a ih=>simp only [List.cons_append,Fm.szs,ih]; omega
  rw [take_succ_nth h,app]; simp [Fm.szs]
theorem szs_take_le: ∀ (l:List Fm) (k:Nat),Fm.szs (l.take k)≤Fm.szs l
  |[],k=>by simp
  |f::l,0=>by simp [Fm.szs]
  | f :: l, k + 1 => by
    have:=szs_take_le l k
    simp only [List.take_succ_cons,Fm.szs]; omega
theorem cj_good {out z:List Cl} (ho:GdS out) (hz:GdS z) (h: ¬64 < (prd out z).length):GdS (prd out z):=⟨prd_ant ho.ant,AllA.prd ho.at_ hz.at_,by omega⟩
theorem cj_clen {l:List Fm} {k:Nat} {out z:List Cl} (hk:k < l.length) (ho:CLen (Fm.szs (l.take k)) out) (hz:CLen (nth l k).sz z):CLen (Fm.szs (l.take (k+1))) (prd out z):=by
  rw [szs_take hk]
  exact prd_clen fun c hc e he=>Nat.add_le_add (ho c hc) (hz e he)
end Go.Proofs.YteehaobohaecmaaGreatDoor
namespace Go.Proofs.YteehaobohaecmaaGreatDoor
open Go
section
variable {f:Fm} {s:List Cl} {k:Nat} {c:Cl}
theorem can_no (h:cErr (cls f)≠0):can f=none:=by unfold can; rw [cE_yes h]; rfl
theorem can_some (h: ¬cErr (cls f)≠0):can f=some (fin (cVal (cls f))):=by
  have q:=cV_some h
  unfold can; rw [q]; rfl
theorem fin_0 (h:s.length=0):fin s=noF:=if_pos h
theorem fin_y (hk:k < s.length) (h:(nth s k).length=0):fin s=yesF:=by
  unfold fin
  rw [if_neg (by omega),if_pos (List.any_eq_true.2 ⟨_,nth_mem hk,decide_eq_true h⟩)]
theorem fin_any (hn: ∀ i,i < s.length→(nth s i).length≠0): ¬s.any (fun c=>decide (c.length=0))=true:=fun q=>by
  obtain ⟨c,hc,e⟩:=List.any_eq_true.1 q
  obtain ⟨i,hi,rfl⟩:=mem_nth hc
  exact hn i hi (of_decide_eq_true e)
theorem fin_1 (hn: ∀ i,i < s.length→(nth s i).length≠0) (h1:s.length=1):fin s=nth (s.map clF) 0:=by
  unfold fin
  rw [if_neg (by omega),if_neg (fin_any hn),if_pos h1,nthM (by omega)]
theorem fin_n (hn: ∀ i,i < s.length→(nth s i).length≠0) (h0:s.length≠0) (h1:s.length≠1):fin s=.nd 6 0 (srt ordF (s.map clF)):=by
  unfold fin
  rw [if_neg h0,if_neg (fin_any hn),if_neg h1]
theorem clF_1 (h:c.length=1):clF c=nth c 0:=if_pos h
theorem clF_n (h:c.length≠1):clF c=.nd 5 0 c:=if_neg h
theorem clM_1 (hk:k < s.length) (h:(nth s k).length=1):(s.take (k+1)).map clF=(s.take k).map clF++[nth (nth s k) 0]:=by
  rw [mapTake hk,clF_1 h]
theorem clM_n (hk:k < s.length) (h:(nth s k).length≠1):(s.take (k+1)).map clF=(s.take k).map clF++[.nd 5 0 (nth s k)]:=by
  rw [mapTake hk,clF_n h]
end
theorem CallOK_len {P:Program} {f id ver n m:Nat} {rest:List V} {H:Heap} {v:V} {H':Heap} (h:CallOK P f (.ms id ver 0 n::rest) H v H') (e:m=n):CallOK P f (.ms id ver 0 m::rest) H v H':=e ▸ h
mutual
theorem nrm_sz: ∀ (f:Fm) (b:Bool),(nrm f b).sz≤2*f.sz
  | .nd o a [], b => by
    rw [nrm]
    have h:(Fm.nd o a []).sz=1:=by rw [Fm.sz,Fm.szs]
    split
    · simp [Fm.sz,Fm.szs]
    · split <;> simp [Fm.sz,Fm.szs]
  | .nd o a (f :: l), b => by
    have h1:=nrm_sz f b
    have h2:=nrm_sz f (!b)
    have h3:=nrmL_sz l b
    rw [nrm]
    split
    · rw [Fm.sz,Fm.szs]; omega
    · rw [Fm.sz,Fm.szs,Fm.sz,Fm.szs]
      omega
theorem nrmL_sz: ∀ (l:List Fm) (b:Bool),Fm.szs (nrmL l b)≤2*Fm.szs l
  |[],_=>by rw [nrmL,Fm.szs]; omega
  | f :: l, b => by
    have h1:=nrm_sz f b
    have h2:=nrmL_sz l b
    rw [nrmL,Fm.szs,Fm.szs]; omega
end
section
variable {f:Fm} {a o:Int} {k:Nat} {g:List Fm}
theorem can_err (h: ¬cErr (can f)≠0):can f=some (fVal (can f)):=by
  obtain ⟨s,e⟩:=cE_no h
  rw [e]; rfl
theorem chk_e (h:cErr (can f)≠0):chk f=(zF,cErr (can f)):=by
  rw [chk_none (cE_yes h),cE_yes h]; rfl
theorem chk_b (h: ¬cErr (can f)≠0) (h2:fval (fVal (can f))≠0):chk f=(zF,fval (fVal (can f))):=chk_bad (can_err h) h2
theorem chk_g (h: ¬cErr (can f)≠0) (h2: ¬fval (fVal (can f))≠0):chk f=(fVal (can f),0):=chk_good (can_err h) (by omega)
theorem simp_e (h:fval f≠0):simp_ f=(zF,fval f):=if_pos h
theorem simp_g (h: ¬fval f≠0):simp_ f=chk (nrm f false):=if_neg h
theorem stM_e (h:fval f≠0):stM f a o=(zF,fval f):=if_pos h
theorem stM_r (h: ¬fval f≠0) (h2:a < 0∨64≤a∨o < 0∨1048576 < o):stM f a o=(zF,2):=by unfold stM; rw [if_neg h,if_pos h2]
theorem stM_s (h: ¬fval f≠0) (h2: ¬(a < 0∨64≤a∨o < 0∨1048576 < o)) (h3:(simp_ f).2≠0):stM f a o=(zF,(simp_ f).2):=by unfold stM; rw [if_neg h,if_neg h2,if_pos h3]
theorem stM_g (h: ¬fval f≠0) (h2: ¬(a < 0∨64≤a∨o < 0∨1048576 < o)) (h3: ¬(simp_ f).2≠0):stM f a o=chk (mst (simp_ f).1 a o):=by unfold stM; rw [if_neg h,if_neg h2,if_neg h3]
theorem simp_val (h: ¬(simp_ f).2≠0):fval (simp_ f).1=0:=by
  unfold simp_ at h ⊢
  by_cases q:fval f≠0
  · rw [if_pos q] at h; exact absurd q h
  · rw [if_neg q] at h ⊢
    unfold chk at h ⊢
    split
    · rename_i e; rw [e] at h; exact absurd (by decide) h
    · rename_i g e
      rw [e] at h
      simp only at h
      split
      · rename_i q2; rw [if_pos q2] at h; exact absurd q2 h
      · rename_i q2; exact Decidable.of_not_not q2
theorem cls_tno (ho: ¬(f.op=1∨f.op=2∨f.op=3∨f.op=4∨f.op=5∨f.op=6)) (hc:canL f.kids=(canL (f.kids.drop k)).map fun r=>g++r) (hk:k < f.kids.length) (h:cErr (can (nth f.kids k))≠0):cls f=none:=by
  rw [cls_t ho,hc,canL_no hk (cE_yes h)]; rfl
theorem cls_tgo (hc:canL f.kids=(canL (f.kids.drop k)).map fun r=>g++r) (hk:k < f.kids.length) (h: ¬cErr (can (nth f.kids k))≠0):canL f.kids=(canL (f.kids.drop (k+1))).map fun r=>(g++[fVal (can (nth f.kids k))])++r:=by
  rw [hc,canL_go hk (can_err h)]
  cases canL (f.kids.drop (k+1)) <;> simp
theorem cls_tend (ho: ¬(f.op=1∨f.op=2∨f.op=3∨f.op=4∨f.op=5∨f.op=6)) (hc:canL f.kids=(canL (f.kids.drop k)).map fun r=>g++r) (hk:f.kids.length≤k):cls f=some [[.nd f.op 0 g]]:=by
  rw [cls_t ho,hc,canL_end hk]; simp
theorem simp_nn (h0: ¬fval f≠0) (h: ¬(simp_ f).2≠0):okF (simp_ f).1=true∧nnf (simp_ f).1=true:=by
  have ho:=nrm_ok f (fval_ok (by omega)) false
  have hn:=nrm_nnf f (fval_ok (by omega)) false
  rw [simp_g h0] at h ⊢
  by_cases q:cErr (can (nrm f false))≠0
  · rw [chk_e q] at h; exact absurd q h
  · by_cases q2:fval (fVal (can (nrm f false)))≠0
    · rw [chk_b q q2] at h; exact absurd q2 h
    · rw [chk_g q q2]
      have c:=can_canon ho hn (can_err q)
      exact ⟨c.ok,c.nn⟩
theorem mst_sz2 (ho:okF f=true) (hz:f.sz≤4096):(mst f a o).sz≤268435456:=by
  have h:=mst_sz f a o ho
  have h2:=sq_le hz
  omega
end
end Go.Proofs.YteehaobohaecmaaGreatDoor
