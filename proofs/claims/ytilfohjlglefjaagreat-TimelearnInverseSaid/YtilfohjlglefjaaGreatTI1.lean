/- Contracts of the functions that the law TI reaches, and the law itself, for every input; no condition. -/
import Derived.KernelRfl
import Derived.Test.YtilfohjlglefjaaGreatProg
import Derived.Sort.Statements
import Derived.Shelf.SlSortCmp.KitK
import Derived.Shelf.SlSortCmp.Kit1
import Derived.Shelf.SlSortCmp.NoneTotal
import Derived.Test.YtilfohjlglefjaaGreatLay3
set_option linter.unusedSimpArgs false
set_option linter.unusedVariables false
namespace Go.Proofs.YtilfohjlglefjaaGreat
open Go
def fe (e:Nat→Int) (k:Nat):Nat→Int
  |0=>0
  |n+1=>if e k=0 then fe e (k+1) n else e k
theorem fe_hit {e:Nat→Int} {k N:Nat} (h:e k≠0) (hk:k < N):fe e k (N - k)=e k:=by
  obtain ⟨n,hn⟩: ∃ n,N - k=n+1:=⟨N - k - 1,by omega⟩
  rw [hn]; simp [fe,h]
theorem fe_skip {e:Nat→Int} {k N:Nat} (h:e k=0) (hk:k < N):fe e k (N - k)=fe e (k+1) (N - (k+1)):=by
  obtain ⟨n,hn⟩: ∃ n,N - k=n+1:=⟨N - k - 1,by omega⟩
  rw [hn,show N - (k+1)=n by omega]; simp [fe,h]
theorem fe_end {e:Nat→Int} {k N:Nat} (hk:N≤k):fe e k (N - k)=0:=by
  rw [show N - k=0 by omega]; rfl
theorem fe_zero_iff {e : Nat → Int} : ∀ {n k : Nat}, fe e k n = 0 ↔ ∀ j, k ≤ j → j < k + n → e j = 0 := by
  intro n
  induction n with
  |zero=>intro k; simp only [fe,true_iff]; intro j h1 h2; omega
  | succ n ih =>
    intro k
    simp only [fe]
    split
    · rename_i h
      rw [ih]
      constructor
      · intro hh j h1 h2
        by_cases hj:j=k
        · subst hj; exact h
        · exact hh j (by omega) (by omega)
      · intro hh j h1 h2; exact hh j (by omega) (by omega)
    · rename_i h
      constructor
      · intro hh; exact (h hh).elim
      · intro hh; exact hh k (Nat.le_refl _) (by omega)
def fi (p:Nat→Bool) (k:Nat):Nat→Int
  |0=> -1
  |n+1=>if p k then k else fi p (k+1) n
theorem fi_hit {p:Nat→Bool} {k N:Nat} (h:p k=true) (hk:k < N):fi p k (N - k)=k:=by
  obtain ⟨n,hn⟩: ∃ n,N - k=n+1:=⟨N - k - 1,by omega⟩
  rw [hn]; simp [fi,h]
theorem fi_skip {p:Nat→Bool} {k N:Nat} (h:p k=false) (hk:k < N):fi p k (N - k)=fi p (k+1) (N - (k+1)):=by
  obtain ⟨n,hn⟩: ∃ n,N - k=n+1:=⟨N - k - 1,by omega⟩
  rw [hn,show N - (k+1)=n by omega]; simp [fi,h]
theorem fi_end {p:Nat→Bool} {k N:Nat} (hk:N≤k):fi p k (N - k)= -1:=by
  rw [show N - k=0 by omega]; rfl
theorem take_succ_nth {α:Type} [Inhabited α] {l:List α} {k:Nat} (h:k < l.length):l.take (k+1)=l.take k++[nth l k]:=by
  rw [← nth_getElem h,List.take_succ_eq_append_getElem h]
def wE (w:List Int) (n:Int) (k:Nat):Int:=if nth w k < 0∨n≤nth w k then 1 else 0
def wchk (w:List Int) (n:Int):Int:=
  if n < 1∨1024 < n then 2 else if 1024 < w.length then 3 else fe (wE w n) 0 w.length
structure M where
  i:Int
  s:Int
  nx:List (List Int)
  ot:List (List Int)
abbrev mC (m:M):List V:=[iV m.i,iV m.s,intss m.nx,intss m.ot]
def cell (l:List (List Int)) (s a:Int):Int:=nth (nth l s.toNat) a.toNat
def celE (m:M) (s a:Nat):Int:=if nth (nth m.nx s) a < 0∨m.nx.length≤nth (nth m.nx s) a∨nth (nth m.ot s) a < 0∨1048576 < nth (nth m.ot s) a then 2 else 0
def rowE (m:M) (s:Nat):Int:=
  if ((nth m.nx s).length:Int)≠m.i∨((nth m.ot s).length:Int)≠m.i then 1
  else fe (celE m s) 0 m.i.toNat
def mval (m:M):Int:=
  if m.i < 1∨64 < m.i then 2 else if m.nx.length=0 then 19 else if 128 < m.nx.length then 11 else if m.s < 0∨m.nx.length≤m.s then 2
  else if m.ot.length≠m.nx.length then 1 else fe (rowE m) 0 m.nx.length
def outs (m:M):Int→List Int→List Int
  |_,[]=>[]
  |s,a::w=>cell m.ot s a::outs m (cell m.nx s a) w
def goal (m:M):Int→List Int→Int
  |s,[]=>s
  |s,a::w=>goal m (cell m.nx s a) w
theorem mval_ok {m:M} (h:mval m=0):1≤m.i∧m.i≤64∧0 < m.nx.length∧m.nx.length≤128∧0≤m.s∧m.s < m.nx.length∧m.ot.length=m.nx.length∧
    (∀ s,s < m.nx.length→((nth m.nx s).length:Int)=m.i∧((nth m.ot s).length:Int)=m.i∧ ∀ a:Nat,a < m.i→0≤nth (nth m.nx s) a∧nth (nth m.nx s) a < m.nx.length∧0≤nth (nth m.ot s) a∧nth (nth m.ot s) a≤1048576):=by
  unfold mval at h
  split at h; · cases h
  rename_i h1
  split at h; · cases h
  rename_i h2
  split at h; · cases h
  rename_i h3
  split at h; · cases h
  rename_i h4
  split at h; · cases h
  rename_i h5
  refine ⟨by omega,by omega,by omega,by omega,by omega,by omega,by omega,fun s hs=>?_⟩
  have h6:=fe_zero_iff.1 h s (Nat.zero_le _) (by omega)
  unfold rowE at h6
  split at h6; · cases h6
  rename_i h7
  refine ⟨by omega,by omega,fun a ha=>?_⟩
  have h8:=fe_zero_iff.1 h6 a (Nat.zero_le _) (by omega)
  unfold celE at h8
  split at h8
  · cases h8
  · omega
structure Hy where
  m:M
  acc:List (List Int)
abbrev hC (h:Hy):List V:=[iV h.m.i,iV h.m.s,intss h.m.nx,intss h.m.ot,intss h.acc]
abbrev hV (h:Hy):V:=.agg (hC h)
abbrev hB (h:Hy):Blk:=⟨1,true,false,26,5,[hC h]⟩
def accE (h:Hy) (s:Nat):Int:=
  if wchk (nth h.acc s) h.m.i≠0 then wchk (nth h.acc s) h.m.i else if goal h.m h.m.s (nth h.acc s)≠s then 15 else 0
def hval (h:Hy):Int:=
  if mval h.m≠0 then mval h.m else if h.acc.length≠h.m.nx.length then 1
  else if fe (accE h) 0 h.acc.length≠0 then fe (accE h) 0 h.acc.length else if (nth h.acc h.m.s.toNat).length≠0 then 10 else 0
end Go.Proofs.YtilfohjlglefjaaGreat
namespace Go.Proofs.YtilfohjlglefjaaGreat
open Go
def cmn:List Int→List Int→Nat
  |a::l,b::m=>if a=b then cmn l m+1 else 0
  |_,_=>0
theorem nth_zero {α:Type} [Inhabited α] (a:α) (l:List α):nth (a::l) 0=a:=rfl
theorem nth_succ {α:Type} [Inhabited α] (a:α) (l:List α) (k:Nat):nth (a::l) (k+1)=nth l k:=rfl
theorem cmn_spec: ∀ (a b:List Int),cmn a b≤a.length∧cmn a b≤b.length∧(∀ j,j < cmn a b→nth a j=nth b j)∧(cmn a b < a.length→cmn a b < b.length→nth a (cmn a b)≠nth b (cmn a b))
  |[],b=>by simp [cmn]
  |a::l,[]=>by simp [cmn]
  | a :: l, b :: m => by
    obtain ⟨h1,h2,h3,h4⟩:=cmn_spec l m
    by_cases e:a=b
    · subst e
      simp only [cmn,if_true,List.length_cons]
      refine ⟨by omega,by omega,fun j hj=>?_,fun g1 g2=>by simpa [nth_succ] using h4 (by omega) (by omega)⟩
      cases j with
      |zero=>rfl
      |succ j=>simpa [nth_succ] using h3 j (by omega)
    · simp only [cmn,if_neg e,List.length_cons]
      exact ⟨by omega,by omega,fun j hj=>by omega,fun _ _=>e⟩
theorem cmn_l (a b:List Int):cmn a b≤a.length:=(cmn_spec a b).1
theorem cmn_r (a b:List Int):cmn a b≤b.length:=(cmn_spec a b).2.1
theorem cmn_next {a b:List Int} {k:Nat} (hc:k≤cmn a b) (ha:k < a.length) (hb:k < b.length) (e:nth a k=nth b k):k+1≤cmn a b:=by
  obtain ⟨h1,h2,h3,h4⟩:=cmn_spec a b
  by_cases h:k=cmn a b
  · subst h; exact (h4 ha hb e).elim
  · omega
theorem cmn_at {a b:List Int} {k:Nat} (hc:k≤cmn a b) (h:a.length≤k∨b.length≤k∨nth a k≠nth b k):cmn a b=k:=by
  obtain ⟨h1,h2,h3,h4⟩:=cmn_spec a b
  by_cases e:k=cmn a b
  · exact e.symm
  · have h5:=h3 k (by omega)
    rcases h with h|h|h
    · omega
    · omega
    · exact (h h5).elim
theorem cmn_comm (a b:List Int):cmn a b=cmn b a:=by
  obtain ⟨h1,h2,h3,h4⟩:=cmn_spec b a
  refine cmn_at ?_ ?_
  · have: ∀ k,k≤cmn b a→k≤cmn a b:=by
      intro k
      induction k with
      |zero=>intro _; exact Nat.zero_le _
      |succ k ih=>intro h; exact cmn_next (ih (by omega)) (by omega) (by omega) (h3 k (by omega)).symm
    exact this _ (Nat.le_refl _)
  · by_cases g1:a.length≤cmn b a
    · exact .inl g1
    · by_cases g2:b.length≤cmn b a
      · exact .inr (.inl g2)
      · exact .inr (.inr fun e=>h4 (by omega) (by omega) e.symm)
theorem cmn_self (a:List Int):cmn a a=a.length:=by
  induction a with
  |nil=>rfl
  |cons x l ih=>simp [cmn,ih]
theorem nth_take {α:Type} [Inhabited α] {l:List α} {n j:Nat} (h:j < n):nth (l.take n) j=nth l j:=by
  simp only [nth,List.getD_eq_getElem?_getD,List.getElem?_take,if_pos h]
theorem nth_dropn {α:Type} [Inhabited α] {l:List α} {n j:Nat}:nth (l.drop n) j=nth l (n+j):=by
  simp only [nth,List.getD_eq_getElem?_getD,List.getElem?_drop]
theorem nth_app_l {α:Type} [Inhabited α] {l m:List α} {j:Nat} (h:j < l.length):nth (l++m) j=nth l j:=by
  simp only [nth,List.getD_eq_getElem?_getD,List.getElem?_append_left h]
theorem nth_app_r {α:Type} [Inhabited α] {l m:List α} {j:Nat}:nth (l++m) (l.length+j)=nth m j:=by
  simp only [nth,List.getD_eq_getElem?_getD,List.getElem?_append_right (Nat.le_add_right _ _),Nat.add_sub_cancel_left]
theorem nth_map {α β:Type} [Inhabited α] [Inhabited β] {f:α→β} {l:List α} {j:Nat} (h:j < l.length):nth (l.map f) j=f (nth l j):=by
  rw [← nth_getElem (by simpa using h),← nth_getElem h,List.getElem_map]
theorem nth_mem {α:Type} [Inhabited α] {l:List α} {j:Nat} (h:j < l.length):nth l j∈l:=by
  rw [← nth_getElem h]; exact List.getElem_mem h
theorem mem_nth {α:Type} [Inhabited α] {l:List α} {x:α} (h:x∈l): ∃ j,j < l.length∧nth l j=x:=by
  obtain ⟨j,hj,e⟩:=List.getElem_of_mem h
  exact ⟨j,hj,by rw [← nth_getElem hj]; exact e⟩
theorem nth_ext {α:Type} [Inhabited α] {l m:List α} (h1:l.length=m.length) (h2: ∀ j,j < l.length→nth l j=nth m j):l=m:=by
  refine List.ext_getElem h1 fun j g1 g2=>?_
  rw [nth_getElem g1,nth_getElem g2]; exact h2 j g1
def lexI (a b:List Int):Int:=
  if cmn a b=a.length∧cmn a b=b.length then 0
  else if cmn a b=a.length∨(cmn a b < b.length∧nth a (cmn a b) < nth b (cmn a b)) then -1 else 1
def slx (a b:List Int):Int:=if a.length < b.length then -1 else if b.length < a.length then 1 else lexI a b
def cmpI (x y:Int):Int:=if x < y then -1 else if y < x then 1 else 0
def orI:List Int→Int
  |[]=>0
  |x::l=>if x=0 then orI l else x
theorem orI_drop {l:List Int} {k:Nat} (h:k < l.length):orI (l.drop k)=if nth l k=0 then orI (l.drop (k+1)) else nth l k:=by
  rw [nth_drop h]; rfl
theorem cmpI_zero {x y:Int}:cmpI x y=0↔x=y:=by
  unfold cmpI; split
  · omega
  · split <;> omega
theorem eq_of_cmn {a b:List Int} (h1:cmn a b=a.length) (h2:cmn a b=b.length):a=b:=
  nth_ext (by omega) fun j hj=>(cmn_spec a b).2.2.1 j (by omega)
theorem lexI_zero {a b:List Int}:lexI a b=0↔a=b:=by
  unfold lexI
  constructor
  · intro h
    split at h
    · rename_i g; exact eq_of_cmn g.1 g.2
    · split at h <;> omega
  · intro e; subst e; rw [cmn_self]; simp
theorem slx_zero {a b:List Int}:slx a b=0↔a=b:=by
  unfold slx
  split
  · rename_i h; constructor
    · intro h; omega
    · intro e; subst e; omega
  · split
    · rename_i h; constructor
      · intro h; omega
      · intro e; subst e; omega
    · exact lexI_zero
theorem lexI_neg {a b:List Int} (h:lexI a b < 0):0 < lexI b a:=by
  unfold lexI at h ⊢
  obtain ⟨h1,h2,h3,h4⟩:=cmn_spec a b
  rw [cmn_comm b a]
  split at h
  · omega
  · split at h
    · rename_i g1 g2
      rw [if_neg (by omega),if_neg (by omega)]; omega
    · omega
theorem slx_neg {a b:List Int} (h:slx a b < 0):0 < slx b a:=by
  unfold slx at h ⊢
  split at h
  · rw [if_neg (by omega),if_pos (by omega)]; omega
  · split at h
    · omega
    · rw [if_neg (by omega),if_neg (by omega)]; exact lexI_neg h
theorem lexI_pos {a b:List Int} (h:0 < lexI a b):lexI b a < 0:=by
  unfold lexI at h ⊢
  obtain ⟨h1,h2,h3,h4⟩:=cmn_spec a b
  rw [cmn_comm b a]
  split at h
  · omega
  · split at h
    · omega
    · rename_i g1 g2
      rw [if_neg (by omega),if_pos]; · omega
      by_cases g3:cmn a b=b.length
      · exact .inl g3
      · have:=h4 (by omega) (by omega); right; omega
theorem slx_pos {a b:List Int} (h:0 < slx a b):slx b a < 0:=by
  unfold slx at h ⊢
  split at h
  · omega
  · split at h
    · rw [if_pos (by omega)]; omega
    · rw [if_neg (by omega),if_neg (by omega)]; exact lexI_pos h
theorem cmn_min {a b c:List Int}:min (cmn a b) (cmn b c)≤cmn a c:=by
  have: ∀ k,k≤min (cmn a b) (cmn b c)→k≤cmn a c:=by
    intro k
    induction k with
    |zero=>intro _; exact Nat.zero_le _
    | succ k ih =>
      intro h
      obtain ⟨g1,g2,g3,_⟩:=cmn_spec a b
      obtain ⟨f1,f2,f3,_⟩:=cmn_spec b c
      exact cmn_next (ih (by omega)) (by omega) (by omega) ((g3 k (by omega)).trans (f3 k (by omega)))
  exact this _ (Nat.le_refl _)
theorem lexI_trans {a b c : List Int} (h1 : lexI a b < 0) (h2 : lexI b c < 0) : lexI a c < 0 := by
  obtain ⟨g1,g2,g3,g4⟩:=cmn_spec a b
  obtain ⟨f1,f2,f3,f4⟩:=cmn_spec b c
  obtain ⟨e1,e2,e3,e4⟩:=cmn_spec a c
  have m:=cmn_min (a:=a) (b:=b) (c:=c)
  unfold lexI at h1 h2 ⊢
  split at h1; · omega
  split at h1
  · split at h2; · omega
    split at h2
    · rename_i p1 p2 p3 p4
      by_cases q:cmn a b < cmn b c
      · -- the first difference is that of a and b
        have hb:cmn a b < b.length:=by omega
        have e:cmn a c=cmn a b:=by
          refine cmn_at (by omega) ?_
          by_cases r:a.length≤cmn a b
          · exact .inl r
          · refine .inr (.inr ?_)
            rw [← f3 _ q]; exact g4 (by omega) hb
        rw [if_neg (by omega),if_pos]; · omega
        rw [e]
        by_cases r:cmn a b=a.length
        · exact .inl r
        · right
          refine ⟨by omega,?_⟩
          rw [← f3 _ q]
          omega
      · by_cases q':cmn b c < cmn a b
        · have e:cmn a c=cmn b c:=by
            refine cmn_at (by omega) ?_
            by_cases r:c.length≤cmn b c
            · exact .inr (.inl r)
            · refine .inr (.inr ?_)
              rw [g3 _ q']; exact f4 (by omega) (by omega)
          rw [if_neg (by omega),if_pos]; · omega
          rw [e]; right
          refine ⟨by omega,?_⟩
          rw [g3 _ q']; omega
        · have e0:cmn a b=cmn b c:=by omega
          by_cases r:cmn a b=a.length
          · rw [if_neg,if_pos]; · omega
            · left; omega
            · intro hh
              omega
          · have hlt:nth a (cmn a b) < nth c (cmn a b):=by
              have x1:nth a (cmn a b) < nth b (cmn a b):=by omega
              have x2:nth b (cmn a b) < nth c (cmn a b):=by rw [e0] at x1 ⊢; omega
              omega
            have e:cmn a c=cmn a b:=cmn_at (by omega) (.inr (.inr (by omega)))
            rw [if_neg (by omega),if_pos]; · omega
            right; rw [e]; exact ⟨by omega,hlt⟩
    · omega
  · omega
theorem slx_trans {a b c : List Int} (h1 : slx a b < 0) (h2 : slx b c < 0) : slx a c < 0 := by
  unfold slx at h1 h2 ⊢
  split at h1
  · split at h2
    · rw [if_pos (by omega)]; omega
    · split at h2
      · omega
      · rw [if_pos (by omega)]; omega
  · split at h1
    · omega
    · split at h2
      · rw [if_pos (by omega)]; omega
      · split at h2
        · omega
        · rw [if_neg (by omega),if_neg (by omega)]; exact lexI_trans h1 h2
theorem slx_tr {a b c:List Int} (h1:slx a b≤0) (h2:slx b c≤0):slx a c≤0:=by
  by_cases e1:slx a b=0
  · rw [slx_zero.1 e1]; exact h2
  · by_cases e2:slx b c=0
    · rw [← slx_zero.1 e2]; exact h1
    · have:=slx_trans (a:=a) (b:=b) (c:=c) (by omega) (by omega); omega
theorem slx_anti {a b:List Int} (h1:slx a b≤0) (h2:slx b a≤0):a=b:=by
  by_cases e:slx a b=0
  · exact slx_zero.1 e
  · have:=slx_neg (a:=a) (b:=b) (by omega); omega
def exB (p:Nat→Bool) (k:Nat):Nat→Bool
  |0=>false
  |n+1=>exB p k n||p (k+n)
structure Tr where
  ni:List Int
  no:List Int
  deriving Inhabited
abbrev cT (t:Tr):List V:=[ints t.ni,ints t.no]
@[simp] theorem canonLL_trs (l:List Tr):canonLL (l.map cT)=true:=canonLL_map _ _ fun a=>by simp [cT]
structure Ob where
  i:Int
  tr:List Tr
  deriving Inhabited
def hp (w p:List Int):Bool:=decide (cmn w p=p.length)
theorem hp_iff {w p:List Int}:hp w p=true↔ ∃ x,w=p++x:=by
  simp only [hp,decide_eq_true_eq]
  constructor
  · intro h
    refine ⟨w.drop p.length,?_⟩
    have e:w.take p.length=p:=by
      have hl:=cmn_l w p
      refine nth_ext (by simp; omega) fun j hj=>?_
      simp at hj
      rw [nth_take (by omega)]
      exact (cmn_spec w p).2.2.1 j (by omega)
    conv=>lhs; rw [← List.take_append_drop p.length w,e]
  · rintro ⟨x,rfl⟩
    refine cmn_at ?_ (.inr (.inl (Nat.le_refl _)))
    have: ∀ k,k≤p.length→k≤cmn (p++x) p:=by
      intro k
      induction k with
      |zero=>intro _; exact Nat.zero_le _
      |succ k ih=>intro h; exact cmn_next (ih (by omega)) (by simp; omega) (by omega) (nth_app_l (by omega))
    exact this _ (Nat.le_refl _)
def outE (t:Tr) (k:Nat):Int:=if nth t.no k < 0∨1048576 < nth t.no k then 2 else 0
def prE (t:Tr) (n:Int):Int:=if wchk t.ni n≠0 then wchk t.ni n else if t.no.length≠t.ni.length then 1 else fe (outE t) 0 t.no.length
def dfE (a b:Tr) (k:Nat):Bool:=decide (nth a.no k≠nth b.no k)
def df (a b:Tr):Int:=fi (dfE a b) 0 (cmn a.ni b.ni)
structure Proper (t:Tr) (n:Int):Prop where
  len:t.no.length=t.ni.length
  lel:t.ni.length≤1024
  sym: ∀ k,k < t.ni.length→0≤nth t.ni k∧nth t.ni k < n
  out: ∀ k,k < t.no.length→0≤nth t.no k∧nth t.no k≤1048576
theorem fi_iff {p : Nat → Bool} : ∀ {n k : Nat}, 0 ≤ fi p k n ↔ ∃ j, k ≤ j ∧ j < k + n ∧ p j = true
  |0,k=>by simp [fi]; omega
  | n + 1, k => by
    simp only [fi]
    split
    · rename_i h
      constructor
      · intro _; exact ⟨k,by omega,by omega,h⟩
      · intro _; omega
    · rename_i h
      rw [fi_iff]
      constructor
      · rintro ⟨j,h1,h2,h3⟩; exact ⟨j,by omega,by omega,h3⟩
      · rintro ⟨j,h1,h2,h3⟩
        by_cases e:j=k
        · subst e; exact (h h3).elim
        · exact ⟨j,by omega,by omega,h3⟩
theorem df_iff {a b:Tr}:0≤df a b↔ ∃ j,j < cmn a.ni b.ni∧nth a.no j≠nth b.no j:=by
  unfold df
  rw [fi_iff]
  constructor
  · rintro ⟨j,_,h2,h3⟩; exact ⟨j,by omega,by simpa [dfE] using h3⟩
  · rintro ⟨j,h2,h3⟩; exact ⟨j,by omega,by omega,by simpa [dfE] using h3⟩
structure OK (o:Ob):Prop where
  hi:1≤o.i∧o.i≤64
  len:o.tr.length≤10000
  pr: ∀ k,k < o.tr.length→Proper (nth o.tr k) o.i∧0 < (nth o.tr k).ni.length
  ord: ∀ k,k+1 < o.tr.length→slx (nth o.tr k).ni (nth o.tr (k+1)).ni < 0
  pre: ∀ i k,i < k→k < o.tr.length→hp (nth o.tr k).ni (nth o.tr i).ni=false
  cla: ∀ i k,i < k→k < o.tr.length→df (nth o.tr i) (nth o.tr k) < 0
def lngE (o:Ob) (k:Nat):Int:=if 100 < (nth o.tr k).ni.length∨100 < (nth o.tr k).no.length then 1 else 0
def ogr (o:Ob):Prop:=60 < o.tr.length∨fe (lngE o) 0 o.tr.length≠0
instance (o:Ob):Decidable (ogr o):=inferInstanceAs (Decidable (_∨_))
def cat:List (List Int)→List Int
  |[]=>[]
  |w::l=>w++cat l
def difn (a b:List Int):Nat:=if cmn a b < min a.length b.length then cmn a b else 0
end Go.Proofs.YtilfohjlglefjaaGreat
namespace Go.Proofs.YtilfohjlglefjaaGreat
open Go
section
variable {P:Program} {T:Nat→V} {H:Heap}
theorem resV_t {t:Nat} {u:V} (h:T t=u):resV T H (.tmp t)=some u:=by rw [← h]; rfl
theorem resV_c {t m id ver row off:Nat} {g:Bool} {u:V} {B:Blk} (ha:T t=.mp id ver row off) (hH:H id=B) (hl:ldB g m B ver row off=some u):resV T H (.cell t g m)=some u:=by
  subst hH
  simp only [resV,ha,ptr]
  unfold ldB at hl
  split at hl
  · rename_i hc
    rw [if_pos (show ok H id ver=true from hc)]
    cases hr:(H id).rows[row]? with
    |none=>rw [hr] at hl; cases hl
    |some w=>rw [hr] at hl; exact hl
  · cases hl
theorem RetC_1 {s1:SRes} {u v:V} {n:Nat} (h1:resV T H s1=some u) (h2:fzv true H n u=v):Ret [s1] (fun u G=>fzv true G n u=v) .ret T H:=by
  simp only [Ret,resT,mapO,h1,onS_some]; exact h2
theorem RetC_2 {s1 s2:SRes} {u1 u2 v1 v2:V} {n:Nat} (h1:resV T H s1=some u1) (h2:resV T H s2=some u2) (g1:fzv true H n u1=v1) (g2:fzv true H n u2=v2):Ret [s1,s2] (fun u G=>fzv true G (n+1) u=.tup [v1,v2]) .ret T H:=by
  simp only [Ret,resT,mapO,h1,h2,onS_some,fzv,List.map_cons,List.map_nil,g1,g2]
theorem fz_aggL {n:Nat} {l m:List V} (h:l.map (fzv true H n)=m):fzv true H (n+1) (.agg l)=.agg m:=by subst h; rfl
theorem fz_agg2 {n:Nat} {u1 u2 v1 v2:V} (g1:fzv true H n u1=v1) (g2:fzv true H n u2=v2):fzv true H (n+1) (.agg [u1,u2])=.agg [v1,v2]:=by
  simp only [fzv,List.map_cons,List.map_nil,g1,g2]
end
end Go.Proofs.YtilfohjlglefjaaGreat
namespace Go.Proofs.YtilfohjlglefjaaGreat
open Go
def FinB (b b':Blk):Prop:=b.ver≤b'.ver∧(b'.live=false∨b'={b with ver:=b'.ver})
def FinH (H H':Heap):Prop:= ∀ j,FinB (H j) (H' j)
def FinX (S:List Nat) (H H':Heap):Prop:= ∀ j,j∉S→FinB (H j) (H' j)
theorem FinB.refl (b:Blk):FinB b b:=⟨Nat.le_refl _,.inr rfl⟩
theorem FinX.start {S:List Nat} {H Hi:Heap} (h: ∀ j,j∉S→H j=Hi j):FinX S H Hi:=fun j hj=>by rw [h j hj]; exact .refl _
theorem FinX.put {S:List Nat} {H H':Heap} {i:Nat} {b B:Blk} (h:FinX (i::S) H H') (hi:H i=b) (hB:FinB b B):FinX S H (upd H' i B):=fun j hj=>by
  by_cases e:j=i
  · subst e; rw [upd_same,hi]; exact hB
  · rw [upd_ne _ _ e]; exact h j (by simp [e,hj])
theorem FinX.putv {S:List Nat} {H H':Heap} {i n:Nat} {B:Blk} (h:FinX (i::S) H H') (hi:(H i).ver=n) (hn:n≤B.ver) (hd:B.live=false):FinX S H (upd H' i B):=h.put rfl ⟨by omega,.inl hd⟩
theorem FinX.fin {H H':Heap} (h:FinX [] H H'):FinH H H':=fun j=>h j (by simp)
theorem FinB.eq {b B:Blk} (h:b=B):FinB b B:=h ▸ .refl _
theorem FinB.up {v n:Nat} {l z:Bool} {ty:TypeId} {sz:Nat} {rows rows':List (List V)} (h:v≤n) (hr:rows=rows'):FinB ⟨v,l,z,ty,sz,rows⟩ ⟨n,l,z,ty,sz,rows'⟩:=⟨h,.inr (by subst hr; rfl)⟩
theorem FinB.own {b b':Blk} (h:FinB b b') (ho:b'.own=true):b'={b with ver:=b'.ver}∧b.own=true:=by
  rcases h.2 with h1|h1
  · have:=own_live ho; rw [h1] at this; cases this
  · refine ⟨h1,?_⟩
    rw [h1] at ho; exact ho
def finC (x:Cx) (H':Heap):Cx:={x with Z:=fun b=>x.Z b∨ ∃ j,(x.H j).own=true∧(H' j).live=false∧b=x.σ j,H:=H'}
theorem fin_step {x : Cx} (hx : Inv x) {H' : Heap} (h : FinH x.H H') : Inv (finC x H') ∧ Frame x (finC x H') := by
  generalize hy:finC x H'=y
  have ew:y.w=x.w:=by rw [← hy]; rfl
  have eh:y.H=H':=by rw [← hy]; rfl
  have es:y.σ=x.σ:=by rw [← hy]; rfl
  have ez: ∀ b,y.Z b↔x.Z b∨ ∃ j,(x.H j).own=true∧(H' j).live=false∧b=x.σ j:=fun b=>by rw [← hy]; exact Iff.rfl
  have hf:Frame x y:=by
    refine ⟨by rw [ew],by rw [ew],by rw [ew],by rw [ew]; exact Nat.le_refl _,fun _ _ _=>by rw [ew],fun b h=>(ez b).2 (.inl h),fun b hb=>?_,fun i=>?_,fun i ho=>?_,by rw [ew]; exact Nat.le_refl _,fun i hl hv=>by
      have e:H' i=x.H i:=by
        rw [eh] at hl hv
        rcases (h i).2 with h1|h1
        · rw [h1] at hl; cases hl
        · rw [h1]; show ({x.H i with ver:=(H' i).ver}:Blk)=x.H i; rw [hv]
      rw [eh,e]⟩
    · rcases (ez b).1 hb with h1|⟨j,h1,_,h3⟩
      · exact .inl h1
      · exact .inr (.inr ⟨j,h1,h3.symm⟩)
    rotate_left
    · rw [eh] at ho; rw [es]; exact .inl ⟨((h i).own ho).2,rfl⟩
    rw [eh,es,ew]
    refine ⟨(h i).1,fun hl hv=>?_⟩
    have e:H' i=x.H i:=by
      rcases (h i).2 with h1|h1
      · have:(H' i).live=true:=hl
        rw [h1] at this; cases this
      · rw [h1]; show ({x.H i with ver:=(H' i).ver}:Blk)=x.H i; rw [show (H' i).ver=(x.H i).ver from hv]
    simp only [e]
    have hl':(x.H i).live=true:=by rw [← e]; exact hl
    exact ⟨hl',trivial,trivial,fun _=>trivial,fun _=>⟨trivial,trivial⟩⟩
  refine ⟨⟨fun b hb=>?_,fun b i hb ho=>?_,fun i ho=>?_,fun i j hi hj he=>?_,hx.tab_of hf⟩,hf⟩
  · rw [ew]
    rcases (ez b).1 hb with h1|⟨j,h1,_,h3⟩
    · exact hx.zlt b h1
    · rw [h3]; exact hx.lt h1
  · rw [eh] at ho; rw [es]
    have ho':=((h i).own ho).2
    rcases (ez b).1 hb with h1|⟨j,h1,h2,h3⟩
    · exact hx.zown b i h1 ho'
    · intro q
      have:=hx.inj i j ho' h1 (q.trans h3)
      subst this
      have:=own_live ho; rw [h2] at this; cases this
  rotate_left
  · rw [eh] at hi hj; rw [es] at he
    exact hx.inj i j ((h i).own hi).2 ((h j).own hj).2 he
  rw [eh] at ho
  obtain ⟨e,ho'⟩:=(h i).own ho
  obtain ⟨dd,h1,h2,h3,h4⟩:=hx.blk i ho'
  have e1:(y.H i).rows=(x.H i).rows:=by rw [eh,e]
  have e2:(y.H i).sz=(x.H i).sz:=by rw [eh,e]
  have e3:(y.H i).obj dd=(x.H i).obj dd:=by rw [eh,e]; rfl
  rw [e1,e2,ew,es]
  exact ⟨dd,by rw [e3]; exact h1,h2,h3,fun r row j v hr hj=>(h4 r row j v hr hj).frame hx hf⟩
def FinV (H H':Heap) (v v':V):Prop:= ∀ (x:Cx) (c:Value),x.H=H→Inv x→R x v c→R (finC x H') v' c
theorem FinV.same {H H':Heap} (h:FinH H H') (v:V):FinV H H' v v:=fun x c e hx r=>by
  subst e; exact r.frame hx (fin_step hx h).2
theorem FinV.nil {H H':Heap}:FinV H H' .nilsl (.sl []):=fun x c e hx r=>by
  cases r; exact .slnil
theorem FinV.ms {H H':Heap} (h:FinH H H') {id ver n off len:Nat} (hl:(H id).live=true) (hv:(H id).ver=ver) (hl':(H' id).live=true) (hv':(H' id).ver=n):FinV H H' (.ms id ver off len) (.ms id n off len):=fun x c e hx r=>by
  subst e
  have e:H' id={x.H id with ver:=n}:=by
    rcases (h id).2 with h1|h1
    · rw [h1] at hl'; cases hl'
    · rw [hv'] at h1; exact h1
  cases r with
  | ms id ver off len b m cap hv1 hh hm =>
    refine .ms _ _ _ _ _ _ _ (by rw [show (finC x H').H id=H' id from rfl,hv']; exact Nat.le_refl _) (fun _ _=>?_) fun _ _=>by
      have:=hm hv hl
      simp only [finC,e]
      exact this
    have:=hh hv hl
    simp only [finC,e]
    exact this
theorem FinV.frz {H H' : Heap} (h : FinH H H') {id ver len : Nat} {rows : List (List V)} (hl : (H id).live = true) (hv : (H id).ver = ver) (hd : (H' id).live = false) (hr : (H id).rows.take len = rows) : FinV H H' (.ms id ver 0 len) (.sl rows) := fun x c e hx r => by
  subst e
  have hf:=(fin_step hx h).2
  subst hr
  cases r with
  | ms id ver off len b m cap hv1 hh hnm =>
    obtain ⟨e1,e2,e3,e4,e5,e6⟩:=hh hv hl
    subst e1
    rw [Nat.zero_add] at e4
    have hlen:((x.H id).rows.take m).length=m:=by simp; omega
    cases ho:(x.H id).own with
    | false =>
      have e8:=e6 ho
      have hm:m=0:=by omega
      subst hm; subst e8
      simpa using R.sl0 _
    | true =>
      obtain ⟨e7,e8⟩:=e5 ho
      subst e7
      obtain ⟨cc,h1,h2,h3,h4⟩:=hx.cel id ho (hnm hv hl)
      have hidx: ∀ (r:Nat) (row:List V),((x.H id).rows.take m)[r]?=some row→(x.H id).rows[r]?=some row:=by
        intro r row hr
        simp only [List.getElem?_take] at hr
        split at hr
        · exact hr
        · cases hr
      have key:=R.sl (x:=finC x H') ((x.H id).rows.take m) ⟨x.σ id,0,none⟩ cap (x.H id).sz
        (fun k=>cc.getD k undef) (by omega) e3 (fun _=>.inr ⟨id,ho,hd,rfl⟩)
        (fun r hr=>h2 r (List.mem_of_mem_take hr))
        (fun r row q v hr hj=>by
          have h8:=hidx _ _ hr
          have h9:=(row_lt h2 h3 h8 hj).1
          rw [Addr.add_lit]
          show x.w.cell? _=_
          rw [own_cell h1 (by omega)]
          simp)
        (fun r row q v hr hj=>(h4 _ _ _ _ (hidx _ _ hr) hj).frame hx hf)
      rw [hlen] at key
      simpa using key
theorem FinV.trans_eq {H H':Heap} {a b b':V} (h:FinV H H' a b) (e:b=b'):FinV H H' a b':=e ▸ h
section
variable {P:Program} {op:Opt} {k0:Nat}
theorem CallOK_of_Wf {f : Nat} {fn : Func} {s : SF} (hf : P.funcs[f]? = some fn) (hs : slimF P op fn = some s) (hn : (fn.name == "runtime.NumGoroutine") = false) {args : List V} {H : Heap} {v : V} {H' : Heap}
    (hl:args.length≤s.n) (hW:bndL args=true→W P k0 s.body (Ret s.res fun u G=>FinH G H'∧FinV G H' u v) (T0 args) H):CallOK P f args H v H':=by
  refine ⟨callable_of hf hs hn,fun x cs hxH hx hr=>?_⟩
  subst hxH
  refine (calls_of_W hf hs hl (hW hr.bnd) hx hr).mono fun e w' h=>?_
  obtain ⟨c,u,y,h1,h2,⟨h3,h4⟩,h5,h6,h7⟩:=h
  obtain ⟨z1,z2⟩:=fin_step h5 h3
  exact ⟨c,finC y H',h1,h2,rfl,z1,h4 y c rfl h5 h6,h7.trans z2⟩
variable {T:Nat→V} {H H':Heap}
theorem RetF_1 {t:Nat} {u v:V} (h:T t=u) (hH:FinH H H') (hv:FinV H H' u v):Ret [.tmp t] (fun u G=>FinH G H'∧FinV G H' u v) .ret T H:=by
  simp only [Ret,resT,mapO,resV,h,onS_some]; exact ⟨hH,hv⟩
end
end Go.Proofs.YtilfohjlglefjaaGreat
namespace Go.Proofs.YtilfohjlglefjaaGreat
open Go
section
variable {P:Program} {k0:Nat} {K:(Nat→V)→Heap→Prop} {T:Nat→V} {H:Heap} {r:List SO} {d:Nat} {a b c:SX} {v u:V}
theorem R_slice_ms_hi {e id ver off len n:Nat} {B:Blk} {k:IntKind} {x:SX} (ha:ev T a=.ms id ver off len) (hx:ev T x=.int k (n:Nat)) (hH:H id=B) (hok:okB B ver=true) (hs:B.sz=e) (hn:n≤len)
    (h:Ops P k0 r (upd T d (.ms id ver off n)) H K):Ops P k0 (⟨none,some d,.slice e a none (some x)⟩::r) T H K:=by
  subst hH
  refine stp (v:=.ms id ver off n) (fun _=>rfl) ?_ h
  rw [ha]
  simp only [Option.map_some,Option.map_none,sliceV,boundV,natV,hx,Option.bind_some]
  have h0:(0:Int)≤(n:Int):=by omega
  rw [if_pos h0]
  simp only [Option.bind_some,Int.toNat_natCast]
  rw [if_pos (show ok H id ver=true from hok),if_pos hs,if_pos (Nat.zero_le _),if_pos hn]
  by_cases e:0 < n
  · rw [if_pos e]; simp
  · rw [if_neg e,if_pos trivial,show n=0 by omega]
theorem R_slice_ms_lo {e id ver off len n:Nat} {B:Blk} {k:IntKind} {x:SX} (ha:ev T a=.ms id ver off len) (hx:ev T x=.int k (n:Nat)) (hH:H id=B) (hok:okB B ver=true) (hs:B.sz=e) (hn:n < len)
    (h:Ops P k0 r (upd T d (.ms id ver (off+n) (len - n))) H K):Ops P k0 (⟨none,some d,.slice e a (some x) none⟩::r) T H K:=by
  subst hH
  refine stp (v:=.ms id ver (off+n) (len - n)) (fun _=>rfl) ?_ h
  rw [ha]
  simp only [Option.map_some,Option.map_none,sliceV,boundV,natV,hx,Option.bind_some]
  have h0:(0:Int)≤(n:Int):=by omega
  rw [if_pos h0]
  simp only [Option.bind_some,Int.toNat_natCast]
  rw [if_pos (show ok H id ver=true from hok),if_pos hs,if_pos (by omega),if_pos (Nat.le_refl _),if_pos hn]
theorem R_clr {α:Type} {id ver ty sz m n:Nat} {lz:Bool} {f:α→List V} {l:List α} {z:List V} (ha:ev T a=.ms id ver m n) (hH:H id=⟨ver,true,lz,ty,sz,l.map f⟩) (hz:z.length=sz) (hz0:z.length≠0) (hone:z.all V.one=true)
    (hm:m < l.length) (hn:m+n=l.length)
    (h:Ops P k0 r T (upd H id ⟨ver,true,lz,ty,sz,(l.take m).map f++List.replicate n z⟩) K):Ops P k0 (⟨none,none,.clr z a⟩::r) T H K:=by
  simp only [Ops,St]
  refine on_some (x:=upd H id ⟨ver,true,lz,ty,sz,(l.take m).map f++List.replicate n z⟩) ?_ h
  rw [ha]
  simp only [clrV,hH]
  rw [if_pos (by simp),if_neg (by omega),if_pos ⟨hz,hz0⟩,if_pos hone,if_pos (by simp; omega)]
  rw [hn,List.drop_eq_nil_of_le (by simp),List.append_nil,List.map_take]
theorem putAt_full: ∀ (vs p r:List V),r.length=vs.length→putAt (p++r) p.length vs=p++vs
  | [], p, r, h => by cases r with
    |nil=>rfl
    |cons a r=>simp at h
  | v :: vs, p, r, h => by
    cases r with
    |nil=>simp at h
    | cons a r =>
      have e:(p++a::r).set p.length v=(p++[v])++r:=by simp
      rw [putAt,e,show p.length+1=(p++[v]).length by simp,putAt_full vs (p++[v]) r (by simpa using h)]
      simp
theorem stB_map {α:Type} [Inhabited α] {n ver ty sz i:Nat} {lz:Bool} {f:α→List V} {l:List α} {vs:List V} {x:α} (h:i < l.length) (hv:vs=f x) (hn:vs.length=n) (hs:(f (nth l i)).length=n) (ho:vs.all V.one=true):
    stB ⟨ver,true,lz,ty,sz,l.map f⟩ ver i 0 n vs=some ⟨ver,true,lz,ty,sz,(l.set i x).map f⟩:=by
  subst hv
  unfold stB
  rw [if_pos (okB_map (by omega)),if_pos hn,if_pos ho]
  simp only [List.getElem?_map,nth_eq h,Option.map_some]
  rw [if_pos (by omega)]
  have:=putAt_full (f x) [] (f (nth l i)) (by omega)
  simp only [List.nil_append,List.length_nil] at this
  rw [this,List.map_set]
theorem R_idx_ms0 {e id ver len i:Nat} {B:Blk} {k:IntKind} (ha:ev T a=.ms id ver 0 len) (hb:ev T b=.int k (i:Nat)) (hH:H id=B) (hok:okB B ver=true) (hs:B.sz=e) (hi:i < len)
    (h:Ops P k0 r (upd T d (.mp id ver i 0)) H K):Ops P k0 (⟨none,some d,.idx e a b⟩::r) T H K:=
  R_idx_ms ha hb hH hok hs hi (by rw [Nat.zero_add]; exact h)
theorem R_idxI_ms0 {e id ver len:Nat} {i:Int} {B:Blk} {k:IntKind} (ha:ev T a=.ms id ver 0 len) (hb:ev T b=.int k i) (hH:H id=B) (hok:okB B ver=true) (hs:B.sz=e) (h0:0≤i) (hi:i < len)
    (h:Ops P k0 r (upd T d (.mp id ver i.toNat 0)) H K):Ops P k0 (⟨none,some d,.idx e a b⟩::r) T H K:=
  R_idxI_ms ha hb hH hok hs h0 hi (by rw [Nat.zero_add]; exact h)
theorem R_mksm {α:Type} {ty e bytes i n:Nat} {z:List V} {f:α→List V} {x:α} {m q:Nat} (hi:k0+d=i) (hv:(H i).ver=n) (ha:ev T a=iV (m:Nat)) (hb:ev T b=iV (q:Nat)) (hz:z=f x) (h1:m≤q) (h2:q*bytes≤281474976710656) (h3:q≤9223372036854775807)
    (h:Ops P k0 r (upd T d (.ms i (n+1) 0 m)) (upd H i ⟨n+1,true,false,ty,e,(List.replicate m x).map f⟩) K):Ops P k0 (⟨none,some d,.mks ty e bytes z a b⟩::r) T H K:=
  R_mks hi hv ha hb h1 h2 h3 (by rw [List.map_replicate,← hz] at h; exact h)
theorem kill_self {id n:Nat} (h:(H id).ver=n):(kill id H id).ver=n∧(kill id H id).live=false:=by subst h; simp [kill]
theorem kill_dead {id j n:Nat} (h:(H j).ver=n∧(H j).live=false):(kill id H j).ver=n∧(kill id H j).live=false:=by
  by_cases e:j=id
  · subst e; exact kill_self h.1
  · simp only [kill,upd_ne _ _ e]; exact h
theorem fz_mst {α:Type} {n id ver len:Nat} {B:Blk} {f:α→List V} {l:List α} (hH:H id=B) (hok:(B.live&&decide (B.ver=ver))=true) (hr:B.rows.take len=l.map f) (hc: ∀ a,canonL (f a)=true):
    fzv true H (n+1) (.ms id ver 0 len)=.sl (l.map f):=by
  subst hH
  simp only [fzv]
  rw [if_pos hok,List.drop_zero,hr]
  congr 1
  rw [List.map_map]
  refine List.map_congr_left fun a _=>fzv_mapcanon n _ (hc a)
theorem take_map {α:Type} {len:Nat} {f:α→List V} {l:List α} (h:len=l.length):(l.map f).take len=l.map f:=by
  subst h; rw [show l.length=(l.map f).length by simp,List.take_length]
theorem take_zap {α:Type} {len:Nat} {f:α→List V} {l:List α} {r:List (List V)} (h:len=l.length):(l.map f++r).take len=l.map f:=by
  subst h; rw [show l.length=(l.map f).length by simp,List.take_left]
end
theorem okB_zap {α:Type} {ver ty sz m:Nat} {lz:Bool} {f:α→List V} {l:List α} {z:List V} (h:0 < l.length):okB ⟨ver,true,lz,ty,sz,l.map f++List.replicate m z⟩ ver=true:=by
  cases l with
  |nil=>simp at h
  |cons a l=>simp [okB,Blk.own]
theorem nth_zap {α:Type} [Inhabited α] {f:α→List V} {l:List α} {m i:Nat} {z:List V} (h:i < l.length):(l.map f++List.replicate m z)[i]?=some (f (nth l i)):=by
  rw [List.getElem?_append_left (by simpa using h),List.getElem?_map,nth_eq h]; rfl
theorem ldB_zap {α:Type} [Inhabited α] {agg:Bool} {n ver ty sz i off m:Nat} {lz:Bool} {f:α→List V} {l:List α} {z:List V} {v:V} (h:i < l.length) (hg:ldV agg n ((f (nth l i)).drop off)=some v):
    ldB agg n ⟨ver,true,lz,ty,sz,l.map f++List.replicate m z⟩ ver i off=some v:=by
  unfold ldB
  rw [if_pos (show (_&&_)=true from okB_zap (by omega))]
  simp only [nth_zap h,Option.bind_some]
  exact hg
theorem stB_zap {α:Type} [Inhabited α] {n ver ty sz i m:Nat} {lz:Bool} {f:α→List V} {l:List α} {vs:List V} {x:α} {z:List V} (h:i < l.length) (hv:vs=f x) (hn:vs.length=n) (hs:(f (nth l i)).length=n) (ho:vs.all V.one=true):
    stB ⟨ver,true,lz,ty,sz,l.map f++List.replicate m z⟩ ver i 0 n vs=some ⟨ver,true,lz,ty,sz,(l.set i x).map f++List.replicate m z⟩:=by
  subst hv
  unfold stB
  rw [if_pos (okB_zap (by omega)),if_pos hn,if_pos ho]
  simp only [nth_zap h]
  rw [if_pos (by omega)]
  have:=putAt_full (f x) [] (f (nth l i)) (by omega)
  simp only [List.nil_append,List.length_nil] at this
  rw [this,List.map_set,List.set_append_left _ _ (by simpa using h)]
theorem fz_mstR {H:Heap} {α:Type} {n id ver len:Nat} {B:Blk} {f:α→List V} {l m:List α} (hH:H id=B) (hok:(B.live&&decide (B.ver=ver))=true) (hr:B.rows.take len=l.map f) (hc: ∀ a,canonL (f a)=true) (h:l=m):
    fzv true H (n+1) (.ms id ver 0 len)=.sl (m.map f):=by
  subst h; exact fz_mst hH hok hr hc
theorem frz_cellg {H:Heap} {id id2 ver v2 ty ty2 i off len sz sz2:Nat} {lz lz2:Bool} {β:Type} {rows:List (List V)} {r:List V} {m:List β} {g:β→List V} (hne:id2≠id) (h1:H id=⟨ver,true,lz,ty,sz,m.map g⟩) (h2:H id2=⟨v2,true,lz2,ty2,sz2,rows.set i r⟩)
    (hi:i < rows.length) (hl:len=m.length) (hc:r[off]?=some (.ms id ver 0 len)) {K:(Nat→V)→Heap→Prop} {T:Nat→V} (h:G K (fzT id H T) (upd (kill id H) id2 ⟨v2,true,lz2,ty2,sz2,rows.set i (r.set off (.sl (m.map g)))⟩)):G K T H:=by
  subst hl
  have hr:(H id2).rows[i]?=some r:=by rw [h2]; simp [hi]
  refine .frzCell id ver m.length id2 i off r hne (by rw [h1]) (by rw [h1]) (by rw [h2]; cases rows with
    |nil=>simp at hi
    |cons a l=>cases i <;> simp [Blk.own]) hr hc ?_
  have e:({H id2 with rows:=(H id2).rows.set i (r.set off (.sl ((H id).rows.take m.length)))}:Blk)=⟨v2,true,lz2,ty2,sz2,rows.set i (r.set off (.sl (m.map g)))⟩:=by
    rw [h2,h1]
    simp only [Blk.mk.injEq,true_and,List.set_set]
    rw [show m.length=(m.map g).length by simp,List.take_length]
  rw [e]; exact h
end Go.Proofs.YtilfohjlglefjaaGreat
namespace Go.Proofs.YtilfohjlglefjaaGreat
open Go
abbrev sO (d:Nat) (x:X):SO:=⟨none,some d,x⟩
abbrev qM (d a:Nat):SO:=sO d (.mv (.t a))
abbrev qI (d:Nat) (n:Int):SO:=sO d (.mv (.c (.int .i64 n)))
abbrev qF (d n a:Nat):SO:=sO d (.fld n (.t a))
abbrev qL (d n a:Nat):SO:=sO d (.load true n (.t a))
abbrev ql (d a:Nat):SO:=sO d (.load false 1 (.t a))
abbrev qE (d a i:Nat):SO:=sO d (.ext (.t a) i)
abbrev qA (d e a i:Nat):SO:=sO d (.idx e (.t a) (.t i))
abbrev qN (d a:Nat):SO:=sO d (.len (.t a))
abbrev qP (d:Nat) (b:BinOp) (x y:Nat):SO:=sO d (.bin b (.t x) (.t y))
abbrev qC (d:Nat) (b:BinOp) (x:Nat) (n:Int):SO:=sO d (.bin b (.t x) (.c (.int .i64 n)))
abbrev sN (x:X):SO:=⟨none,none,x⟩
abbrev bk (v:Nat) (ty sz:Nat) (rows:List (List V)):Blk:=⟨v,true,false,ty,sz,rows⟩
abbrev bz (v:Nat) (ty sz:Nat) (rows:List (List V)):Blk:=⟨v,true,true,ty,sz,rows⟩
section
variable {P:Program} {k0 d:Nat} {r:List SO} {T:Nat→V} {H:Heap} {K:(Nat→V)→Heap→Prop} {a b:SX} {v:V}
theorem R_callk {f:Nat} {args:List SX} {as0:List V} (hc:PureC P f as0 v) (he:evs T args=as0) (h:Ops P k0 r (upd T d v) H K)
    (h1:canonL as0=true:=by simp [-List.map_take,-List.map_drop,-List.map_append,-List.map_reverse]) (h2:pureL as0=true:=by simp [-List.map_take,-List.map_drop,-List.map_append,-List.map_reverse]):
    Ops P k0 (⟨none,some d,.call false f args⟩::r) T H K:=R_call he hc (fzv_mapcanon _ _ h1) h2 (.inl h2) h
end
end Go.Proofs.YtilfohjlglefjaaGreat
namespace Go.Proofs.YtilfohjlglefjaaGreat
open Go
section
variable {P:Program} {k0:Nat} {Q:Ex→(Nat→V)→Heap→Prop} {T:Nat→V} {H:Heap}
theorem W_r {ops:List SO} {b:SC} (h:Ops P k0 ops T H fun T H=>W P k0 b Q T H):W P k0 (.seq (.reg ops) b) Q T H:=
  ⟨k0,Ops_mono (fun _ _ h=>.done h) h⟩
theorem W_t {ops:List SO} (h:Ops P k0 ops T H fun T H=>Q .norm T H):W P k0 (.reg ops) Q T H:=⟨k0,h⟩
theorem W_d {ops:List SO} {b:SC} {late:List Nat} (hl: ∀ d∈late,(H (k0+d)).live=false) (h:Ops P k0 ops T H fun T H=>W P k0 b Q T H):W P k0 (.seq (.dreg late ops) b) Q T H:=
  ⟨k0,hl,Ops_mono (fun _ _ h=>.done h) h⟩
end
theorem lateN {H:Heap} {k0:Nat}: ∀ d∈([]:List Nat),(H (k0+d)).live=false:=fun _ h=>by simp at h
theorem lateC {H:Heap} {k0 d:Nat} {l:List Nat} (h:(H (k0+d)).live=false) (hl: ∀ d∈l,(H (k0+d)).live=false): ∀ x∈d::l,(H (k0+x)).live=false:=by
  intro x hx
  rcases List.mem_cons.1 hx with rfl|hx
  · exact h
  · exact hl _ hx
theorem oB {ver ty sz:Nat} {rows:List (List V)}:okB ⟨ver,true,false,ty,sz,rows⟩ ver=true:=by simp [okB,Blk.own]
theorem lB {agg:Bool} {n ver row off:Nat} {B:Blk} {r:List V} {v:V} (ho:okB B ver=true) (hr:B.rows[row]?=some r) (hv:ldV agg n (r.drop off)=some v):ldB agg n B ver row off=some v:=by
  unfold ldB; rw [if_pos (show (B.own&&decide (B.ver=ver))=true from ho),hr]; exact hv
theorem sB {n ver row off:Nat} {B B':Blk} {r vs:List V} (ho:okB B ver=true) (hn:vs.length=n) (ha:vs.all V.one=true) (hr:B.rows[row]?=some r) (hl:Nat.ble (off+n) r.length=true) (hB:{B with rows:=B.rows.set row (putAt r off vs)}=B'):stB B ver row off n vs=some B':=by
  unfold stB; rw [if_pos ho,if_pos hn,if_pos ha,hr]; dsimp only; rw [if_pos (Nat.le_of_ble_eq_true hl),hB]
section
variable {P:Program} {k0 d:Nat} {r:List SO} {T:Nat→V} {H:Heap} {K:(Nat→V)→Heap→Prop} {a b:SX} {v:V}
theorem R_lk {agg:Bool} {n id ver row off ty sz:Nat} {rows:List (List V)} {rw:List V} (ha:ev T a=.mp id ver row off) (hH:H id=⟨ver,true,false,ty,sz,rows⟩) (hr:rows[row]?=some rw) (hv:ldV agg n (rw.drop off)=some v) (h:Ops P k0 r (upd T d v) H K):
    Ops P k0 (⟨none,some d,.load agg n a⟩::r) T H K:=R_load_mp ha hH (lB oB hr hv) h
theorem R_fk {off id ver row o ty sz:Nat} {rows:List (List V)} (ha:ev T a=.mp id ver row o) (hH:H id=⟨ver,true,false,ty,sz,rows⟩) (h:Ops P k0 r (upd T d (.mp id ver row (o+off))) H K):Ops P k0 (⟨none,some d,.fld off a⟩::r) T H K:=
  R_fld_mp ha hH oB rfl h
theorem R_sk {n id ver row off ty sz:Nat} {rows:List (List V)} {B':Blk} {rw vs:List V} (ha:ev T a=.mp id ver row off) (hb:ev T b=v) (hc:v.cells=vs) (hH:H id=⟨ver,true,false,ty,sz,rows⟩) (hn:vs.length=n) (hl:vs.all V.one=true) (hr:rows[row]?=some rw)
    (hm:Nat.ble (off+n) rw.length=true) (hB:(⟨ver,true,false,ty,sz,rows.set row (putAt rw off vs)⟩:Blk)=B') (h:Ops P k0 r T (upd H id B') K):Ops P k0 (⟨none,none,.store n a b⟩::r) T H K:=
  R_store ha hb hc hH (sB oB hn hl hr hm hB) h
end
theorem R_e {P:Program} {k0:Nat} {T:Nat→V} {H:Heap} {K:(Nat→V)→Heap→Prop} (h:K T H):Ops P k0 [] T H K:=h
end Go.Proofs.YtilfohjlglefjaaGreat
namespace Go.Proofs.YtilfohjlglefjaaGreat
open Go
theorem pW {P:Program} {op:Opt} {f:Nat} {fn:Func} {s:SF} {args:List V} {v:V} {B:Prop} (hf:P.funcs[f]?=some fn) (hs:slimF P op fn=some s)
    (hW : B → W P 0 s.body (Ret s.res fun u G => fzv true G 6 u = v) (T0 args) H0) (hn : (fn.name == "runtime.NumGoroutine") = false := by kernel_rfl)
    (hl:Nat.ble args.length s.n=true:=by rfl) (ha:pureL args=true:=by simp) (hv:v.pure=true:=by simp)
    (hb:bndL args=true→B:=by intro hB; first|(simp only [bnd_map,bnd_int,bnd_bool,bnd_str,bnd_agg,bnd_pp,bnd_nil,bnd_cons,implies_true,and_true,true_and] at hB; exact hB)|exact (fun _=>trivial) hB):PureC P f args v:=
  pure_of_Wb true 6 hf hs hn (Nat.le_of_ble_eq_true hl) ha hv fun h=>hW (hb h)
theorem eW {P:Program} {op:Opt} {k0 f:Nat} {fn:Func} {s:SF} {args:List V} {H:Heap} {v:V} {H':Heap} {B:Prop} (hf:P.funcs[f]?=some fn) (hs:slimF P op fn=some s)
    (hW : B → W P k0 s.body (Ret s.res fun u G => FinH G H' ∧ FinV G H' u v) (T0 args) H) (hn : (fn.name == "runtime.NumGoroutine") = false := by kernel_rfl)
    (hl:Nat.ble args.length s.n=true:=by rfl)
    (hb:bndL args=true→B:=by intro hB; first|(simp only [bnd_map,bnd_int,bnd_bool,bnd_str,bnd_agg,bnd_pp,bnd_nil,bnd_cons,implies_true,and_true,true_and] at hB; exact hB)|exact (fun _=>trivial) hB):CallOK P f args H v H':=
  CallOK_of_Wf hf hs hn (Nat.le_of_ble_eq_true hl) fun h=>hW (hb h)
theorem edT {x:V} {p:Prop} [Decidable p] (h:p) (hx:x=V.bool (decide p)):x=V.bool true:=by rw [hx]; simp [h]
theorem edF {x:V} {p:Prop} [Decidable p] (h: ¬p) (hx:x=V.bool (decide p)):x=V.bool false:=by rw [hx]; simp [h]
theorem G_n {P:Program} {k0 d t:Nat} {r:List SO} {T:Nat→V} {H:Heap} {K:(Nat→V)→Heap→Prop} {w:Bool} {q:X} (ht:T t=.bool (!w)) (h:Ops P k0 r (upd T d (.raw undef)) H K):
    Ops P k0 (⟨some (t,w),some d,q⟩::r) T H K:=G_no ht (by cases w <;> decide) h
section
variable {P:Program} {k0 d:Nat} {r:List SO} {T:Nat→V} {H:Heap} {K:(Nat→V)→Heap→Prop} {a b:SX} {x y x' y':Int}
end
section
variable {P:Program} {k0 d:Nat} {r:List SO} {T:Nat→V} {H:Heap} {K:(Nat→V)→Heap→Prop} {a b:SX} {u w v:V}
end
section
variable {P:Program} {k0:Nat} {Q:Ex→(Nat→V)→Heap→Prop} {T:Nat→V} {H:Heap}
theorem W_rk (k1:Nat) {ops:List SO} {b:SC} (h:Ops P k1 ops T H fun T H=>W P k0 b Q T H):W P k0 (.seq (.reg ops) b) Q T H:=⟨k1,Ops_mono (fun _ _ h=>.done h) h⟩
end
end Go.Proofs.YtilfohjlglefjaaGreat
namespace Go.Proofs.YtilfohjlglefjaaGreat
open Go
def ren0 (ρ:Nat→Nat):V→V
  | .mp id ver r o=>.mp (ρ id) ver r o
  | .ms id ver o l=>.ms (ρ id) ver o l
  |v=>v
def renB (ρ:Nat→Nat) (b:Blk):Blk:={b with rows:=b.rows.map fun r=>r.map (ren0 ρ)}
structure View (n:Nat) (ρ:Nat→Nat) (x z:Cx):Prop where
  w:z.w=x.w
  Z: ∀ b,x.Z b→z.Z b
  H: ∀ i,i < n→z.H (ρ i)=renB ρ (x.H i)
  σ: ∀ i,i < n→z.σ (ρ i)=x.σ i
def putL (ρ:Nat→Nat) (HL:Heap) (H:Heap):Nat→Heap
  |0=>H
  |n+1=>upd (putL ρ HL H n) (ρ n) (renB ρ (HL n))
section
variable {n:Nat} {ρ:Nat→Nat} {Hl:Heap} {x:Cx}
end
inductive LOut where
  |ok (v:V) (HL:Heap)
  |pan (c:Value)
def LOut.at (n:Nat) (ρ:Nat→Nat) (H:Heap):LOut→Res
  | .ok v HL=>.ok v (putL ρ HL H n)
  | .pan c=>.pan c ((List.range n).map ρ)
section
variable {P:Program} {op:Opt} {k0:Nat}
end
end Go.Proofs.YtilfohjlglefjaaGreat
namespace Go.Proofs.YtilfohjlglefjaaGreat
open Go
section
variable {P:Program} {k0 d:Nat} {r:List SO} {T:Nat→V} {H:Heap} {K:(Nat→V)→Heap→Prop} {a b c:SX} {v:V}
variable {k:IntKind} {x y:Int}
variable {s t:List UInt8}
theorem R_mkm {f:Nat} {first caps:List SX} {us cs:List V} (hf:evs T first=us) (he:evs T caps=cs) (h:Ops P k0 r (upd T d (.fn f us cs)) H K):Ops P k0 (⟨none,some d,.mkm f first caps⟩::r) T H K:=by
  subst hf; subst he
  simpa only [Ops,St,putT] using h
end
section
variable {P:Program} {k0 f:Nat} {Q:Ex→(Nat→V)→Heap→Prop} {T:Nat→V} {H:Heap} {d:Option Nat} {r:SC} {i:Nat} {asq asq':List V} {args:List SX} {b b' b1 b1':Blk} {v:V} {c:Value} {out:LOut}
variable {res:List SRes} {HL:Heap}
end
end Go.Proofs.YtilfohjlglefjaaGreat
namespace Go.Proofs.YtilfohjlglefjaaGreat
open Go
section
variable {P:Program} {k0:Nat} {r:List SO} {T:Nat→V} {H:Heap} {K:(Nat→V)→Heap→Prop} {d:Nat} {a b c:SX} {v:V}
end
section
variable {ver:Nat} {z:V} {t:List UInt8} {es:List (List UInt8×V)}
end
end Go.Proofs.YtilfohjlglefjaaGreat
namespace Go.Proofs.YtilfohjlglefjaaGreat
open Go
section
variable {P:Program} {k0:Nat} {r:List SO} {T:Nat→V} {H:Heap} {K:(Nat→V)→Heap→Prop} {d:Nat} {a b c:SX} {v:V}
end
end Go.Proofs.YtilfohjlglefjaaGreat
namespace Go.Proofs.YtilfohjlglefjaaGreat
open Go
end Go.Proofs.YtilfohjlglefjaaGreat
namespace Go.Proofs.YtilfohjlglefjaaGreat
open Go
section
variable {P:Program} {k0:Nat} {Q:Ex→(Nat→V)→Heap→Prop} {T:Nat→V} {H:Heap}
theorem W_seq_J {a r:SC} (J:(Nat→V)→Heap→Prop) (h1: ∀ Q':Ex→(Nat→V)→Heap→Prop,(∀ T H,J T H→Q' .norm T H)→(∀ T H,Q .ret T H→Q' .ret T H)→(∀ n T H,Q (.exit n) T H→Q' (.exit n) T H)→W P k0 a Q' T H)
    (h2: ∀ T H,J T H→W P k0 r Q T H):W P k0 (.seq a r) Q T H:=by
  simp only [W]
  exact h1 _ (fun T H hJ=>.done (h2 T H hJ)) (fun T H h=>h) (fun n T H h=>h)
end
end Go.Proofs.YtilfohjlglefjaaGreat
namespace Go.Proofs.YtilfohjlglefjaaGreat
open Go
section
variable {ver:Nat} {k:Int×List UInt8} {l:List (Int×List UInt8)}
end
end Go.Proofs.YtilfohjlglefjaaGreat
namespace Go.Proofs.YtilfohjlglefjaaGreat
open Go
section
variable {P:Program} {k0 d:Nat} {r:List SO} {T:Nat→V} {H:Heap} {K:(Nat→V)→Heap→Prop} {a b:SX} {x y:Int} {s t:List UInt8}
end
end Go.Proofs.YtilfohjlglefjaaGreat
namespace Go.Proofs.YtilfohjlglefjaaGreat
open Go
section
variable {P:Program} {k0:Nat} {r:List SO} {T:Nat→V} {H:Heap} {K:(Nat→V)→Heap→Prop} {d:Nat} {a b:SX}
theorem R_quoI {x y:Int} (ha:ev T a=iV x) (hb:ev T b=iV y) (hx:0≤x∧x < 9223372036854775808) (hy:0 < y) (h:Ops P k0 r (upd T d (iV (x / y))) H K):Ops P k0 (⟨none,some d,.bin .quo a b⟩::r) T H K:=by
  refine stp (v:=iV (x / y)) (fun _=>rfl) ?_ h
  rw [ha,hb]
  have e:x.tdiv y=x / y:=Int.tdiv_eq_ediv_of_nonneg hx.1
  have h1:0≤x / y:=Int.ediv_nonneg hx.1 (by omega)
  have h2:x / y≤x:=Int.ediv_le_self _ hx.1
  simp only [intBin,if_true]
  rw [if_neg (by omega),e]
  generalize x / y=q at h1 h2
  rw [wrap_in (by omega) (by omega)]
theorem R_remI {x y:Int} (ha:ev T a=iV x) (hb:ev T b=iV y) (hx:0≤x∧x < 9223372036854775808) (hy:0 < y) (h:Ops P k0 r (upd T d (iV (x % y))) H K):Ops P k0 (⟨none,some d,.bin .rem a b⟩::r) T H K:=by
  refine stp (v:=iV (x % y)) (fun _=>rfl) ?_ h
  rw [ha,hb]
  have e:x.tmod y=x % y:=Int.tmod_eq_emod_of_nonneg hx.1
  simp only [intBin,if_true]
  rw [if_neg (by omega),e]
variable {Q:Ex→(Nat→V)→Heap→Prop}
theorem W_x {ps:List (Nat×Nat×Nat×Nat)} {ops:List SO} {b:SC} (h:Ops P k0 ops T H fun T H=>ddB ps ops T=true∧W P k0 b Q T H):W P k0 (.seq (.xreg ps ops) b) Q T H:=⟨k0,Ops_mono (fun _ _ h=>⟨h.1,.done h.2⟩) h⟩
end
end Go.Proofs.YtilfohjlglefjaaGreat
namespace Go.Proofs.YtilfohjlglefjaaGreat
open Go Go.Proofs
def r6_3:List SO:=[
 qL 17 4 3,
 qM 18 1,
 qM 19 2,
 sO 20 (.call false 11 [.t 17,.t 18,.t 19]),
 qM 16 20,
 qE 21 16 0,
 qE 22 16 1,
 sO 7 (.alloc 29 [.int .i64 0,.int .i64 0,.int .i64 0,.nilsl,.nilsl,.nilsl]),
 sN (.store 6 (.t 7) (.t 21)),
 qM 8 22]
def r6_5:List SO:=[
 qF 25 3 7,
 ql 26 25,
 qN 27 26,
 qC 28 .eql 27 0,
 qM 29 28,
 ⟨some (29,true),some 30,.call false 10 []⟩,
 sO 31 (.pick (.t 29) (.t 30) (.c (.bool false))),
 qM 6 31]
def r6_6:List SO:=[
 qL 33 6 7,
 sO 34 (.call false 21 [.t 33]),
 qM 32 34,
 qE 35 32 0,
 qE 36 32 1,
 sO 9 (.alloc 24 [.int .i64 0,.int .i64 0,.nilsl,.nilsl]),
 sN (.store 4 (.t 9) (.t 35)),
 qM 10 36]
def r6_7:List SO:=[
 qL 38 4 3,
 sO 39 (.call false 22 [.t 38]),
 qM 37 39,
 qE 40 37 0,
 qE 41 37 1,
 sO 11 (.alloc 24 [.int .i64 0,.int .i64 0,.nilsl,.nilsl]),
 sN (.store 4 (.t 11) (.t 40)),
 qM 12 41]
def r6_8:List SO:=[
 qM 42 10,
 qC 43 .eql 42 0,
 qM 44 43,
 ⟨some (44,true),some 45,.mv (.t 12)⟩,
 ⟨some (44,true),some 46,.bin .eql (.t 45) (.c (.int .i64 0))⟩,
 sO 47 (.pick (.t 44) (.t 46) (.c (.bool false))),
 qM 48 47,
 ⟨some (48,true),some 49,.fld 0 (.t 7)⟩,
 ⟨some (48,true),some 50,.load false 1 (.t 49)⟩,
 ⟨some (48,true),some 51,.mv (.t 1)⟩,
 ⟨some (48,true),some 52,.bin .eql (.t 50) (.t 51)⟩,
 sO 53 (.pick (.t 48) (.t 52) (.c (.bool false))),
 qM 54 53,
 ⟨some (54,true),some 55,.fld 1 (.t 7)⟩,
 ⟨some (54,true),some 56,.load false 1 (.t 55)⟩,
 ⟨some (54,true),some 57,.mv (.t 2)⟩,
 ⟨some (54,true),some 58,.bin .eql (.t 56) (.t 57)⟩,
 sO 59 (.pick (.t 54) (.t 58) (.c (.bool false))),
 qM 60 59,
 ⟨some (60,true),some 61,.load true 4 (.t 9)⟩,
 ⟨some (60,true),some 62,.load true 4 (.t 11)⟩,
 ⟨some (60,true),some 63,.call false 23 [.t 61,.t 62]⟩,
 sO 64 (.pick (.t 60) (.t 63) (.c (.bool false))),
 qM 65 64,
 ⟨some (65,true),some 66,.call false 10 []⟩,
 sO 67 (.pick (.t 65) (.t 66) (.c (.bool false))),
 qM 6 67]
def s6:SF:=⟨68,[.tmp 6],.seq (.reg [sO 3 (.box 24 4 (.t 0)),sO 6 (.mv (.c (.bool false)))]) (.seq (.seq (.reg [qL 13 4 3,sO 14 (.call false 9 [.t 13])]) (.cond (.t 14) (.seq (.reg [sO 15 (.call false 10 []),qM 6 15]) (.ret)) (.skip))) (.seq (.reg r6_3) (.seq (.seq (.reg [qM 23 8,qC 24 .neq 23 0]) (.cond (.t 24) (.seq (.reg r6_5) (.ret)) (.skip))) (.seq (.reg r6_6) (.seq (.reg r6_7) (.seq (.reg r6_8) (.ret)))))))⟩
theorem s6_ok:slimF Tryz.prog ⟨[58,129,130,131,149,155,161,182,183,185,191,192,208,209,210,224,228,231,236],[],[],[]⟩ Tryz.f6=some s6:=by kernel_rfl
def r9_1:List SO:=[
 qF 3 2 1,
 ql 4 3,
 qN 5 4,
 qC 6 .gtr 5 30,
 qM 7 6,
 ⟨some (7,false),some 8,.fld 3 (.t 1)⟩,
 ⟨some (7,false),some 9,.load false 1 (.t 8)⟩,
 ⟨some (7,false),some 10,.len (.t 9)⟩,
 ⟨some (7,false),some 11,.bin .gtr (.t 10) (.c (.int .i64 30))⟩,
 sO 12 (.pick (.t 7) (.c (.bool true)) (.t 11)),
 qM 13 12,
 ⟨some (13,false),some 14,.fld 0 (.t 1)⟩,
 ⟨some (13,false),some 15,.load false 1 (.t 14)⟩,
 ⟨some (13,false),some 16,.bin .gtr (.t 15) (.c (.int .i64 8))⟩,
 sO 17 (.pick (.t 13) (.c (.bool true)) (.t 16)),
 qM 2 17]
def s9:SF:=⟨18,[.tmp 2],.seq (.reg [sO 1 (.box 24 4 (.t 0)),sO 2 (.mv (.c (.bool false)))]) (.seq (.reg r9_1) (.ret))⟩
theorem s9_ok:slimF Tryz.prog ⟨[58,129,130,131,149,155,161,182,183,185,191,192,208,209,210,224,228,231,236],[],[],[]⟩ Tryz.f9=some s9:=by kernel_rfl
end Go.Proofs.YtilfohjlglefjaaGreat
namespace Go.Proofs.YtilfohjlglefjaaGreat
open Go
theorem hp_len {a p:List Int} (h:hp a p=true):p.length≤a.length:=by
  simp only [hp,decide_eq_true_eq] at h
  have:=cmn_l a p; omega
def ansL:List Tr→List Int→Option (List Int)
  |[],_=>none
  |t::l,w=>if hp t.ni w then some (t.no.take w.length) else ansL l w
def ans (o:Ob) (w:List Int):Option (List Int):=if w=[] then some [] else ansL o.tr w
theorem OK.mem {o:Ob} (ok:OK o) {t:Tr} (ht:t∈o.tr):Proper t o.i∧0 < t.ni.length:=by
  obtain ⟨k,hk,rfl⟩:=mem_nth ht; exact ok.pr k hk
abbrev fdA (a b:Tr):List Int:=a.no.take (cmn a.ni b.ni)
abbrev fdB (a b:Tr):List Int:=b.no.take (cmn a.ni b.ni)
def fd (a b:Tr):List (List Int):=if cmn (fdA a b) (fdB a b) < min (fdA a b).length (fdB a b).length then [a.ni.take (difn (fdA a b) (fdB a b)+1)] else []
theorem OK.same {o:Ob} (ok:OK o) {s t:Tr} (hs:s∈o.tr) (ht:t∈o.tr) {j:Nat} (hj:j < cmn s.ni t.ni):nth s.no j=nth t.no j:=by
  obtain ⟨a,ha,rfl⟩:=mem_nth hs
  obtain ⟨b,hb,rfl⟩:=mem_nth ht
  have key: ∀ a b,a < b→b < o.tr.length→ ∀ j,j < cmn (nth o.tr a).ni (nth o.tr b).ni→nth (nth o.tr a).no j=nth (nth o.tr b).no j:=by
    intro a b hab hb j hj
    by_cases e:nth (nth o.tr a).no j=nth (nth o.tr b).no j
    · exact e
    · have h1:=ok.cla a b hab hb
      have h2:=df_iff.2 ⟨j,hj,e⟩
      omega
  by_cases e:a=b
  · subst e; rfl
  · by_cases h:a < b
    · exact key a b h hb j hj
    · rw [cmn_comm] at hj
      exact (key b a (by omega) ha j hj).symm
theorem cmn_app {p x y:List Int}:cmn (p++x) (p++y)=p.length+cmn x y:=by
  induction p with
  |nil=>simp
  |cons a p ih=>simp [cmn,ih]; omega
def Ap (o:Ob) (u v x:List Int):Prop:=
  x≠[]∧ ∃ s∈o.tr,∃ t∈o.tr,hp s.ni (u++x)=true∧hp t.ni (v++x)=true∧nth s.no (u.length+x.length - 1)≠nth t.no (v.length+x.length - 1)
theorem Ap.symm {o:Ob} {u v x:List Int} (h:Ap o u v x):Ap o v u x:=by
  obtain ⟨h1,s,hs,t,ht,h2,h3,h4⟩:=h
  exact ⟨h1,t,ht,s,hs,h3,h2,fun e=>h4 e.symm⟩
structure Covers (o:Ob) (u v:List Int) (l:List (List Int)):Prop where
  sound: ∀ x∈l,Ap o u v x
  full: ∀ x,Ap o u v x→ ∃ y∈l,slx y x≤0
theorem slx_take {x y:List Int} (h:hp y x=true):slx x y≤0:=by
  obtain ⟨z,rfl⟩:=hp_iff.1 h
  cases z with
  |nil=>rw [List.append_nil,slx_zero.2 rfl]; omega
  |cons a z=>unfold slx; rw [if_pos (by simp)]; omega
theorem Covers.swap {o:Ob} {u v:List Int} {l:List (List Int)} (h:Covers o u v l):Covers o v u l:=
  ⟨fun x hx=>(h.sound x hx).symm,fun x hx=>h.full x hx.symm⟩
end Go.Proofs.YtilfohjlglefjaaGreat
namespace Go.Proofs.YtilfohjlglefjaaGreat
open Go Go.Sort
theorem sorted_uniq {α : Type} {le : α → α → Prop} : ∀ {l m : List α}, (∀ a ∈ l, ∀ b ∈ l, le a b → le b a → a = b) → l.Perm m → l.Pairwise le → m.Pairwise le → l = m
  |[],m,_,hp,_,_=>(List.perm_nil.1 hp.symm).symm
  |a::l,[],_,hp,_,_=>(List.cons_ne_nil _ _ (List.perm_nil.1 hp)).elim
  | a :: l, b :: m, anti, hp, h1, h2 => by
    have hb:b∈a::l:=hp.mem_iff.2 (List.mem_cons_self ..)
    have ha:a∈b::m:=hp.mem_iff.1 (List.mem_cons_self ..)
    have e:a=b:=by
      rcases List.mem_cons.1 hb with e|hb'
      · exact e.symm
      · rcases List.mem_cons.1 ha with e|ha'
        · exact e
        · exact anti a (List.mem_cons_self ..) b hb ((List.pairwise_cons.1 h1).1 b hb') ((List.pairwise_cons.1 h2).1 a ha')
    subst e
    rw [sorted_uniq (fun x hx y hy=>anti x (List.mem_cons_of_mem _ hx) y (List.mem_cons_of_mem _ hy)) (List.Perm.cons_inv hp) (List.pairwise_cons.1 h1).2 (List.pairwise_cons.1 h2).2]
def insS {α:Type} (cmp:α→α→Int) (a:α):List α→List α
  |[]=>[a]
  |b::l=>if cmp b a < 0 then b::insS cmp a l else a::b::l
def srt {α:Type} (cmp:α→α→Int) (l:List α):List α:=l.foldr (insS cmp) []
theorem insS_perm {α:Type} (cmp:α→α→Int) (a:α): ∀ l:List α,(insS cmp a l).Perm (a::l)
  |[]=>List.Perm.refl _
  | b :: l => by
    rw [insS]
    split
    · exact ((insS_perm cmp a l).cons b).trans (List.Perm.swap a b l)
    · exact List.Perm.refl _
theorem srt_perm {α:Type} (cmp:α→α→Int): ∀ l:List α,(srt cmp l).Perm l
  |[]=>List.Perm.refl _
  |a::l=>(insS_perm cmp a (srt cmp l)).trans ((srt_perm cmp l).cons a)
theorem srt_len {α:Type} (cmp:α→α→Int) (l:List α):(srt cmp l).length=l.length:=(srt_perm cmp l).length_eq
theorem insS_sorted {α : Type} {cmp : α → α → Int} (hO : SWO fun a b => decide (cmp a b < 0)) (a : α) : ∀ {l : List α}, (l.Pairwise fun a b => ¬cmp b a < 0) → (insS cmp a l).Pairwise fun a b => ¬cmp b a < 0
  |[],_=>List.pairwise_singleton _ _
  | b :: l, h => by
    obtain ⟨h1,h2⟩:=List.pairwise_cons.1 h
    rw [insS]
    split
    · rename_i q
      refine List.pairwise_cons.2 ⟨fun x hx=>?_,insS_sorted hO a h2⟩
      rcases List.mem_cons.1 ((insS_perm cmp a l).mem_iff.1 hx) with e|e
      · rw [e]; intro q2
        have:=hO.trans a b a (by simpa using q2) (by simpa using q)
        rw [hO.irrefl a] at this; cases this
      · exact h1 x e
    · rename_i q
      refine List.pairwise_cons.2 ⟨fun x hx=>?_,h⟩
      rcases List.mem_cons.1 hx with e|e
      · rw [e]; exact q
      · have:=hO.ntrans x b a (by simpa using h1 x e) (by simpa using q)
        simpa using this
theorem srt_sorted {α:Type} {cmp:α→α→Int} (hO:SWO fun a b=>decide (cmp a b < 0)): ∀ l:List α,(srt cmp l).Pairwise fun a b=> ¬cmp b a < 0
  |[]=>List.Pairwise.nil
  |a::l=>insS_sorted hO a (srt_sorted hO l)
end Go.Proofs.YtilfohjlglefjaaGreat
namespace Go.Proofs.YtilfohjlglefjaaGreat
open Go Go.Sort
theorem lexI_le {a b:List Int}: ¬lexI a b < 0↔lexI b a≤0:=by
  constructor
  · intro h
    by_cases e:lexI a b=0
    · rw [lexI_zero.2 (lexI_zero.1 e).symm]; omega
    · have:=lexI_pos (a:=a) (b:=b) (by omega); omega
  · intro h g
    have:=lexI_neg g; omega
theorem lexI_tr {a b c:List Int} (h1:lexI a b≤0) (h2:lexI b c≤0):lexI a c≤0:=by
  by_cases e1:lexI a b=0
  · rw [lexI_zero.1 e1]; exact h2
  · by_cases e2:lexI b c=0
    · rw [← lexI_zero.1 e2]; exact h1
    · have:=lexI_trans (a:=a) (b:=b) (c:=c) (by omega) (by omega); omega
theorem OK.lt_of {o:Ob} (h: ∀ k,k+1 < o.tr.length→slx (nth o.tr k).ni (nth o.tr (k+1)).ni < 0): ∀ {i k:Nat},i < k→k < o.tr.length→slx (nth o.tr i).ni (nth o.tr k).ni < 0:=by
  intro i k hik hk
  induction k with
  |zero=>omega
  | succ k ih =>
    by_cases e:i=k
    · subst e; exact h i hk
    · exact slx_trans (ih (by omega) (by omega)) (h k hk)
theorem lex_between {a b c : List Int} (h1 : lexI a b ≤ 0) (h2 : lexI b c ≤ 0) : cmn a c ≤ cmn a b ∧ cmn a c ≤ cmn b c := by
  have s1:=cmn_spec a b
  have s2:=cmn_spec b c
  have s3:=cmn_spec a c
  have m:=cmn_min (a:=a) (b:=c) (c:=b)
  have m2:=cmn_min (a:=b) (b:=a) (c:=c)
  have e1:=cmn_comm c b
  have e2:=cmn_comm b a
  have key:cmn a c≤cmn a b:=by
    by_cases g:cmn a c≤cmn a b
    · exact g
    · exfalso
      have hlt:cmn a b < cmn a c:=by omega
      have hbc:cmn b c=cmn a b:=by
        rw [cmn_comm b c]
        refine cmn_at ?_ ?_
        · have:=cmn_min (a:=c) (b:=a) (c:=b); rw [cmn_comm c a] at this; omega
        · by_cases q:b.length≤cmn a b
          · exact .inr (.inl q)
          · refine .inr (.inr ?_)
            rw [← s3.2.2.1 _ hlt]
            exact s1.2.2.2 (by omega) (by omega)
      unfold lexI at h1 h2
      rw [hbc] at h2
      have hca:=s3.2.2.1 _ hlt
      by_cases q:cmn a b=b.length
      · rw [if_neg (by omega),if_neg (by omega)] at h1; omega
      · have hne:=s1.2.2.2 (by omega) (by omega)
        rw [if_neg (by omega)] at h1
        rw [if_neg (by omega)] at h2
        split at h1
        · rename_i g1
          split at h2
          · rename_i g2
            rw [hca] at g1; omega
          · omega
        · omega
  have m3:=cmn_min (a:=b) (b:=a) (c:=c)
  exact ⟨key,by omega⟩
end Go.Proofs.YtilfohjlglefjaaGreat
namespace Go.Proofs.YtilfohjlglefjaaGreat
open Go
def clA (l:List Tr) (t:Tr):Nat→Nat×Int
  |0=>(t.ni.length,0)
  |n+1=>if 0≤df (nth l n) t∧df (nth l n) t < ((clA l t n).1:Nat) then ((df (nth l n) t).toNat,nth (nth l n).no (df (nth l n) t).toNat) else clA l t n
def clB (o:Ob) (t:Tr):Prop:=prE t o.i=0∧(clA o.tr t o.tr.length).1≠t.ni.length
instance (o:Ob) (t:Tr):Decidable (clB o t):=by unfold clB; infer_instance
end Go.Proofs.YtilfohjlglefjaaGreat
namespace Go.Proofs.YtilfohjlglefjaaGreat
def Srt (l:List Tr):Prop:=l.Pairwise fun a b=>slx a.ni b.ni < 0
def inP (l:List Tr) (t:Tr) (j:Nat):Bool:=hp (nth l j).ni t.ni
def inL (l:List Tr) (t:Tr):Prop:=exB (inP l t) 0 l.length=true∨t.ni.length=0
instance (l:List Tr) (t:Tr):Decidable (inL l t):=inferInstanceAs (Decidable (_∨_))
theorem OK.srt {o:Ob} (h:OK o):Srt o.tr:=by
  rw [Srt,List.pairwise_iff_getElem]
  intro i j hi hj hij
  rw [nth_getElem hi,nth_getElem hj]
  exact OK.lt_of h.ord hij hj
def okR (a b:Tr):Prop:=slx a.ni b.ni < 0∧hp b.ni a.ni=false∧df a b < 0
theorem OK.of {i:Int} {l:List Tr} (hi:1≤i∧i≤64) (hl:l.length≤10000) (hm: ∀ t∈l,Proper t i∧0 < t.ni.length) (h:l.Pairwise okR):OK ⟨i,l⟩:=by
  rw [List.pairwise_iff_getElem] at h
  have h': ∀ a b,a < b→b < l.length→okR (nth l a) (nth l b):=fun a b hab hb=>by
    have:=h a b (by omega) hb hab
    rwa [nth_getElem,nth_getElem] at this
  exact ⟨hi,hl,fun k hk=>hm _ (nth_mem hk),fun k hk=>(h' k (k+1) (by omega) hk).1,fun a b hab hb=>(h' a b hab hb).2.1,fun a b hab hb=>(h' a b hab hb).2.2⟩
section
variable {l:List Tr} {t:Tr} {k:Nat}
end
theorem hp_eq {a b:List Int} (h1:hp a b=true) (h2:a.length≤b.length):a=b:=by
  obtain ⟨x,rfl⟩:=hp_iff.1 h1
  have:x=[]:=by cases x with
    |nil=>rfl
    |cons c x=>simp at h2; omega
  simp [this]
end Go.Proofs.YtilfohjlglefjaaGreat
namespace Go.Proofs.YtilfohjlglefjaaGreat
theorem Tr.eq_iff {a b:Tr}:a=b↔a.ni=b.ni∧a.no=b.no:=by cases a; cases b; simp
theorem Ob.eq_iff {a b:Ob}:a=b↔a.i=b.i∧a.tr=b.tr:=by cases a; cases b; simp
instance:DecidableEq Tr:=fun _ _=>decidable_of_iff _ Tr.eq_iff.symm
instance:DecidableEq Ob:=fun _ _=>decidable_of_iff _ Ob.eq_iff.symm
end Go.Proofs.YtilfohjlglefjaaGreat
namespace Go.Proofs.YtilfohjlglefjaaGreat
theorem OK.anti {o:Ob} (h:OK o) {u v:Tr} (hu:u∈o.tr) (hv:v∈o.tr) (e:hp v.ni u.ni=true):v=u:=by
  obtain ⟨a,ha,rfl⟩:=mem_nth hu
  obtain ⟨b,hb,rfl⟩:=mem_nth hv
  rcases Nat.lt_trichotomy a b with q|q|q
  · rw [h.pre a b q hb] at e; cases e
  · rw [q]
  · have h1:=OK.lt_of h.ord q ha
    have h2:=hp_len e
    unfold slx at h1
    split at h1
    · omega
    · split at h1
      · omega
      · rw [hp_eq e (by omega),lexI_zero.2 rfl] at h1; omega
theorem df_neg {a b:Tr}:df a b < 0↔ ∀ j,j < cmn a.ni b.ni→nth a.no j=nth b.no j:=by
  constructor
  · intro h j hj
    by_cases e:nth a.no j=nth b.no j
    · exact e
    · have:=df_iff.2 ⟨j,hj,e⟩; omega
  · intro h
    by_cases e:df a b < 0
    · exact e
    · obtain ⟨j,hj,q⟩:=df_iff.1 (show 0≤df a b by omega)
      exact (q (h j hj)).elim
theorem OK.cl {o:Ob} (h:OK o) {u v:Tr} (hu:u∈o.tr) (hv:v∈o.tr):df u v < 0:=df_neg.2 fun _ hj=>h.same hu hv hj
end Go.Proofs.YtilfohjlglefjaaGreat
namespace Go.Proofs.YtilfohjlglefjaaGreat
theorem nd_le: ∀ {l m:List Int},l.Nodup→(∀ a∈l,a∈m)→l.length≤m.length
  |[],_,_,_=>Nat.zero_le _
  | a :: l, m, hn, hs => by
    obtain ⟨h1,h2⟩:=List.nodup_cons.1 hn
    have ha:a∈m:=hs a (by simp)
    have:=nd_le (m:=m.erase a) h2 fun b hb=>(List.mem_erase_of_ne (fun e=>h1 (by rw [← e]; exact hb))).2 (hs b (List.mem_cons_of_mem _ hb))
    rw [List.length_erase_of_mem ha] at this
    have:=List.length_pos_of_mem ha
    simp only [List.length_cons]; omega
def cB (b:Bool):List V:=[.bool b]
abbrev RS:=List Int×List Bool
def stpR (P:RS) (a:Int):RS:=if nth P.2 a.toNat=true then P else (P.1++[a],P.2.set a.toNat true)
def rowR (m:M) (P:RS) (k:Nat):RS:=(nth m.nx (nth P.1 k).toNat).foldl stpR P
def bfsR (m:M):Nat→Nat→RS→RS
  |0,_,P=>P
  |n+1,k,P=>if k < P.1.length then bfsR m n (k+1) (rowR m P k) else P
def iniR (m:M):RS:=([m.s],(List.replicate m.nx.length false).set m.s.toNat true)
def rch (m:M):List Int:=if mval m≠0 then [] else (bfsR m m.nx.length 0 (iniR m)).1
theorem stp_yes {P:RS} {a:Int} (h:nth P.2 a.toNat=true):stpR P a=P:=if_pos h
theorem stp_no {P:RS} {a:Int} (h:nth P.2 a.toNat=false):stpR P a=(P.1++[a],P.2.set a.toNat true):=if_neg (by rw [h]; decide)
theorem fold_step {P:RS} {w:List Int} {j:Nat} (h:j < w.length):(w.take (j+1)).foldl stpR P=stpR ((w.take j).foldl stpR P) (nth w j):=by
  rw [take_succ_nth h,List.foldl_append]; rfl
structure RI (n:Nat) (P:RS):Prop where
  blen:P.2.length=n
  rng: ∀ a∈P.1,0≤a∧a < n
  mem: ∀ a:Int,0≤a→a < n→(nth P.2 a.toNat=true↔a∈P.1)
  nd:P.1.Nodup
theorem nth_set {α:Type} [Inhabited α] {l:List α} {i j:Nat} {x:α} (hi:i < l.length):nth (l.set i x) j=if i=j then x else nth l j:=by
  unfold nth
  by_cases e:i=j
  · subst e; simp [hi]
  · rw [if_neg e]
    simp [List.getElem?_set,e]
theorem RI.step {n : Nat} {P : RS} (h : RI n P) {a : Int} (h0 : 0 ≤ a) (h1 : a < n) : RI n (stpR P a) := by
  unfold stpR
  split
  · exact h
  · rename_i g
    have hna:a∉P.1:=fun q=>g ((h.mem a h0 h1).2 q)
    have hlt:a.toNat < P.2.length:=by rw [h.blen]; omega
    refine ⟨by simp [h.blen],fun b hb=>?_,fun b b0 b1=>?_,?_⟩
    · rcases List.mem_append.1 hb with hb|hb
      · exact h.rng b hb
      · rw [List.mem_singleton.1 hb]; exact ⟨h0,h1⟩
    · rw [nth_set hlt,List.mem_append,List.mem_singleton]
      by_cases e:a.toNat=b.toNat
      · rw [if_pos e]; exact ⟨fun _=>.inr (by omega),fun _=>rfl⟩
      · rw [if_neg e,h.mem b b0 b1]
        exact ⟨.inl,fun q=>q.resolve_right fun q=>e (by rw [q])⟩
    · rw [List.nodup_append]
      refine ⟨h.nd,by simp,fun x hx y hy=>?_⟩
      rw [List.mem_singleton.1 hy]; intro e; exact hna (e ▸ hx)
theorem RI.fold {n:Nat}: ∀ {w:List Int} {P:RS},RI n P→(∀ a∈w,0≤a∧a < n)→RI n (w.foldl stpR P)
  |[],_,h,_=>h
  | a :: w, P, h, hw => by
    rw [List.foldl_cons]
    exact RI.fold (h.step (hw a (by simp)).1 (hw a (by simp)).2) fun b hb=>hw b (List.mem_cons_of_mem _ hb)
theorem RI.len {n:Nat} {P:RS} (h:RI n P):P.1.length≤n:=by
  have:=nd_le (m:=(List.range n).map Int.ofNat) h.nd fun a ha=>by
    obtain ⟨h0,h1⟩:=h.rng a ha
    exact List.mem_map.2 ⟨a.toNat,List.mem_range.2 (by omega),by simp; omega⟩
  simpa using this
theorem fold_grow: ∀ (w:List Int) (P:RS),∃ x,(w.foldl stpR P).1=P.1++x
  |[],P=>⟨[],by simp⟩
  | a :: w, P => by
    obtain ⟨x,hx⟩:=fold_grow w (stpR P a)
    have: ∃ y,(stpR P a).1=P.1++y:=by
      unfold stpR; split
      · exact ⟨[],by simp⟩
      · exact ⟨[a],rfl⟩
    obtain ⟨y,hy⟩:=this
    exact ⟨y++x,by rw [List.foldl_cons,hx,hy,List.append_assoc]⟩
theorem fold_has {n:Nat}: ∀ {w:List Int} {P:RS},RI n P→(∀ a∈w,0≤a∧a < n)→ ∀ a∈w,a∈(w.foldl stpR P).1
  | b :: w, P, h, hw, a, ha => by
    have hs:=h.step (hw b (by simp)).1 (hw b (by simp)).2
    rcases List.mem_cons.1 ha with rfl|ha
    · obtain ⟨x,hx⟩:=fold_grow w (stpR P a)
      rw [List.foldl_cons,hx]
      refine List.mem_append_left _ ?_
      unfold stpR
      split
      · rename_i g; exact (h.mem a (hw a (by simp)).1 (hw a (by simp)).2).1 g
      · simp
    · exact fold_has hs (fun c hc=>hw c (List.mem_cons_of_mem _ hc)) a ha
theorem ini_RI {m:M} (h:mval m=0):RI m.nx.length (iniR m):=by
  have hm:=mval_ok h
  refine ⟨by simp [iniR],fun a ha=>?_,fun a h0 h1=>?_,by simp [iniR]⟩
  · simp only [iniR,List.mem_singleton] at ha; subst ha; omega
  · simp only [iniR,List.mem_singleton]
    rw [nth_set (by simp; omega)]
    by_cases e:m.s.toNat=a.toNat
    · rw [if_pos e]; exact ⟨fun _=>by omega,fun _=>rfl⟩
    · rw [if_neg e]
      refine ⟨fun q=>?_,fun q=>(e (by rw [q])).elim⟩
      rw [← nth_getElem (by simp; omega)] at q
      simp at q
theorem row_in {m:M} (h:mval m=0) {s:Int} (h0:0≤s) (h1:s < m.nx.length): ∀ a∈nth m.nx s.toNat,0≤a∧a < m.nx.length:=fun a ha=>by
  obtain ⟨j,hj,rfl⟩:=mem_nth ha
  obtain ⟨g1,_,g3⟩:=(mval_ok h).2.2.2.2.2.2.2 s.toNat (by omega)
  have:=g3 j (by omega)
  exact ⟨this.1,this.2.1⟩
theorem RI.row {m:M} (h:mval m=0) {P:RS} (hP:RI m.nx.length P) {k:Nat} (hk:k < P.1.length):RI m.nx.length (rowR m P k):=by
  obtain ⟨h0,h1⟩:=hP.rng _ (nth_mem hk)
  exact RI.fold hP (row_in h h0 h1)
def Clo (m:M) (P:RS) (k:Nat):Prop:= ∀ j,j < k→ ∀ a∈nth m.nx (nth P.1 j).toNat,a∈P.1
theorem bfs_spec {m:M} (h:mval m=0): ∀ (n k:Nat) (P:RS),RI m.nx.length P→k≤P.1.length→m.nx.length≤k+n→Clo m P k→(m.s∈P.1)→
    RI m.nx.length (bfsR m n k P)∧Clo m (bfsR m n k P) (bfsR m n k P).1.length∧m.s∈(bfsR m n k P).1
  | 0, k, P, hP, hk, hn, hc, hs => by
    have:=hP.len
    rw [bfsR]
    exact ⟨hP,by rw [show P.1.length=k by omega]; exact hc,hs⟩
  | n + 1, k, P, hP, hk, hn, hc, hs => by
    rw [bfsR]
    split
    · rename_i hlt
      obtain ⟨x,hx⟩:=fold_grow (nth m.nx (nth P.1 k).toNat) P
      have hg:(rowR m P k).1=P.1++x:=hx
      obtain ⟨h0,h1⟩:=hP.rng _ (nth_mem hlt)
      refine bfs_spec h n (k+1) _ (hP.row h hlt) (by rw [hg]; simp; omega) (by omega) (fun j hj a ha=>?_) (by rw [hg]; exact List.mem_append_left _ hs)
      have e:nth (rowR m P k).1 j=nth P.1 j:=by rw [hg,nth_app_l (by omega)]
      rw [e] at ha
      by_cases ej:j=k
      · subst ej; exact fold_has hP (row_in h h0 h1) a ha
      · rw [hg]; exact List.mem_append_left _ (hc j (by omega) a ha)
    · rename_i hlt
      exact ⟨hP,by rw [show P.1.length=k by omega]; exact hc,hs⟩
theorem bfs_end {m:M} {n k:Nat} {P:RS} (h:P.1.length≤k):bfsR m n k P=P:=by
  cases n with
  |zero=>rfl
  |succ n=>rw [bfsR,if_neg (by omega)]
theorem bfs_go {m:M} {n k:Nat} {P:RS} (h:k < P.1.length) (hn:k < n):bfsR m (n - k) k P=bfsR m (n - (k+1)) (k+1) (rowR m P k):=by
  rw [show n - k=(n - (k+1))+1 by omega,bfsR,if_pos h]
end Go.Proofs.YtilfohjlglefjaaGreat
namespace Go.Proofs.YtilfohjlglefjaaGreat
open Go.Sort
theorem slx_le {a b:List Int}: ¬slx a b < 0↔slx b a≤0:=by
  constructor
  · intro h
    by_cases e:slx a b=0
    · rw [slx_zero.1 e,slx_zero.2 rfl]; omega
    · have:=slx_pos (a:=a) (b:=b) (by omega); omega
  · intro h q
    have:=slx_neg q; omega
theorem slx_swo:SWO fun a b:List Int=>decide (slx a b < 0) where
  irrefl a:=by rw [slx_zero.2 rfl]; decide
  trans a b c h1 h2:=by simp only [decide_eq_true_eq] at*; exact slx_trans h1 h2
  ntrans a b c h1 h2:=by
    simp only [decide_eq_false_iff_not,slx_le] at*
    exact slx_tr h2 h1
theorem slx_same {a b:List Int} (h1: ¬slx a b < 0) (h2: ¬slx b a < 0):a=b:=slx_anti (slx_le.1 h2) (slx_le.1 h1)
theorem slx_irr (a:List Int): ¬slx a a < 0:=by rw [slx_zero.2 rfl]; omega
def SrtW (l:List (List Int)):Prop:=l.Pairwise fun a b=>slx a b < 0
theorem srtW_ext : ∀ {l m : List (List Int)}, SrtW l → SrtW m → (∀ u, u ∈ l ↔ u ∈ m) → l = m
  |[],[],_,_,_=>rfl
  |[],b::m,_,_,h=>by have:=(h b).2 (by simp); simp at this
  |a::l,[],_,_,h=>by have:=(h a).1 (by simp); simp at this
  | a :: l, b :: m, hl, hm, h => by
    obtain ⟨l1,l2⟩:=List.pairwise_cons.1 hl
    obtain ⟨m1,m2⟩:=List.pairwise_cons.1 hm
    have e:a=b:=by
      rcases List.mem_cons.1 ((h a).1 (by simp)) with e|e
      · exact e
      · rcases List.mem_cons.1 ((h b).2 (by simp)) with g|g
        · exact g.symm
        · exact (slx_irr a (slx_trans (l1 b g) (m1 a e))).elim
    subst e
    rw [srtW_ext l2 m2 fun u=>?_]
    constructor
    · intro hu
      rcases List.mem_cons.1 ((h u).1 (List.mem_cons_of_mem _ hu)) with e|e
      · subst e; exact (slx_irr _ (l1 _ hu)).elim
      · exact e
    · intro hu
      rcases List.mem_cons.1 ((h u).2 (List.mem_cons_of_mem _ hu)) with e|e
      · subst e; exact (slx_irr _ (m1 _ hu)).elim
      · exact e
def plP (w u:List Int):Bool:=decide (slx u w < 0)
def plN (l:List (List Int)) (w:List Int):Nat:=(l.takeWhile (plP w)).length
theorem pl_cons {w a:List Int} {l:List (List Int)}:plN (a::l) w=if plP w a=true then plN l w+1 else 0:=by
  unfold plN; rw [List.takeWhile_cons]; split <;> rfl
theorem pl_le {w:List Int}: ∀ l:List (List Int),plN l w≤l.length
  |[]=>Nat.le_refl _
  |a::l=>by rw [pl_cons]; have:=pl_le (w:=w) l; split <;> simp <;> omega
theorem pl_iff {w : List Int} : ∀ {l : List (List Int)} (_ : SrtW l) {k : Nat}, k < l.length → (slx (nth l k) w < 0 ↔ k < plN l w)
  |[],_,k,hk=>by simp at hk
  | a :: l, h, k, hk => by
    rw [pl_cons]
    obtain ⟨h1,h2⟩:=List.pairwise_cons.1 h
    by_cases e:plP w a=true
    · rw [if_pos e]
      cases k with
      |zero=>rw [nth_zero]; simp only [plP,decide_eq_true_eq] at e; exact ⟨fun _=>by omega,fun _=>e⟩
      |succ k=>rw [nth_succ,pl_iff h2 (by simpa using hk)]; omega
    · rw [if_neg e]
      simp only [plP,decide_eq_true_eq] at e
      refine ⟨fun h3=>?_,fun h3=>by omega⟩
      cases k with
      |zero=>exact (e h3).elim
      | succ k =>
        rw [nth_succ] at h3
        exact (e (slx_trans (h1 _ (nth_mem (by simpa using hk))) h3)).elim
def wiH (l:List (List Int)) (w:List Int):Prop:=plN l w < l.length∧nth l (plN l w)=w
instance (l:List (List Int)) (w:List Int):Decidable (wiH l w):=inferInstanceAs (Decidable (_∧_))
def wiW (l:List (List Int)) (w:List Int):List (List Int):=if wiH l w then l else l.take (plN l w)++w::l.drop (plN l w)
def sdW (l:List (List Int)):List (List Int):=l.foldl wiW []
theorem mem_wiW {l:List (List Int)} {w u:List Int}:u∈wiW l w↔u∈l∨u=w:=by
  unfold wiW
  split
  · rename_i h
    refine ⟨.inl,fun q=>q.elim id fun e=>?_⟩
    rw [e]
    have:=nth_mem h.1
    rwa [h.2] at this
  · have e: ∀ u,u∈l↔u∈l.take (plN l w)∨u∈l.drop (plN l w):=fun u=>by rw [← List.mem_append,List.take_append_drop]
    rw [List.mem_append,List.mem_cons,e]
    exact ⟨fun h=>h.elim (fun h=>.inl (.inl h)) fun h=>h.elim .inr fun h=>.inl (.inr h),fun h=>h.elim (fun h=>h.elim .inl fun h=>.inr (.inr h)) fun h=>.inr (.inl h)⟩
theorem wiW_srt {l : List (List Int)} (h : SrtW l) (w : List Int) : SrtW (wiW l w) := by
  unfold wiW
  split
  · exact h
  · rename_i hn
    have hsp:=h
    unfold SrtW at hsp
    rw [← List.take_append_drop (plN l w) l,List.pairwise_append] at hsp
    obtain ⟨p1,p2,p3⟩:=hsp
    have hle:=pl_le (w:=w) l
    have lo: ∀ a∈l.take (plN l w),slx a w < 0:=fun a ha=>by
      obtain ⟨j,hj,rfl⟩:=mem_nth ha
      rw [List.length_take] at hj
      rw [nth_take (by omega)]
      exact (pl_iff h (by omega)).2 (by omega)
    have hi : ∀ b ∈ l.drop (plN l w), slx w b < 0 := fun b hb => by
      obtain ⟨j,hj,rfl⟩:=mem_nth hb
      rw [List.length_drop] at hj
      rw [nth_dropn]
      have h1: ¬slx (nth l (plN l w+j)) w < 0:=fun q=>by
        have:=(pl_iff h (show plN l w+j < l.length by omega)).1 q; omega
      by_cases e:slx w (nth l (plN l w+j)) < 0
      · exact e
      · exfalso
        have heq:=slx_same h1 e
        have h0:plN l w < l.length:=by omega
        by_cases ej:j=0
        · subst ej; exact hn ⟨h0,by simpa using heq⟩
        · have hlt:slx (nth l (plN l w)) (nth l (plN l w+j)) < 0:=by
            have:=(List.pairwise_iff_getElem.1 h) (plN l w) (plN l w+j) h0 (by omega) (by omega)
            rwa [nth_getElem,nth_getElem] at this
          rw [heq] at hlt
          have:=(pl_iff h h0).1 hlt; omega
    rw [SrtW,List.pairwise_append]
    refine ⟨p1,List.pairwise_cons.2 ⟨hi,p2⟩,fun a ha b hb=>?_⟩
    rcases List.mem_cons.1 hb with rfl|hb
    · exact lo a ha
    · exact p3 a ha b hb
theorem sdW_spec: ∀ (l kept:List (List Int)),SrtW kept→SrtW (l.foldl wiW kept)∧ ∀ u,u∈l.foldl wiW kept↔u∈kept∨u∈l
  |[],kept,h=>⟨h,fun u=>by simp⟩
  | w :: l, kept, h => by
    obtain ⟨h1,h2⟩:=sdW_spec l (wiW kept w) (wiW_srt h w)
    refine ⟨h1,fun u=>?_⟩
    rw [List.foldl_cons,h2,mem_wiW,List.mem_cons]
    exact or_assoc
theorem sdW_srt (l:List (List Int)):SrtW (sdW l):=(sdW_spec l [] List.Pairwise.nil).1
theorem mem_sdW (l:List (List Int)) (u:List Int):u∈sdW l↔u∈l:=by
  unfold sdW; rw [(sdW_spec l [] List.Pairwise.nil).2 u]; simp
def ddK (L:List (List Int)):Nat→List (List Int)
  |0=>[]
  |j+1=>if j=0∨nth L j≠nth L (j - 1) then ddK L j++[nth L j] else ddK L j
def ddL (L:List (List Int)) (j:Nat):List (List Int):=ddK L j++L.drop (ddK L j).length
theorem ddK_le (L:List (List Int)): ∀ j,(ddK L j).length≤j
  |0=>Nat.le_refl _
  | j + 1 => by
    have:=ddK_le L j
    simp only [ddK]; split <;> simp <;> omega
theorem ddL_len {L:List (List Int)} {j:Nat} (h:j≤L.length):(ddL L j).length=L.length:=by
  have:=ddK_le L j
  unfold ddL; rw [List.length_append,List.length_drop]; omega
theorem ddL_nth {L:List (List Int)} {j k:Nat} (h:(ddK L j).length≤k):nth (ddL L j) k=nth L k:=by
  unfold ddL
  have e:nth (ddK L j++L.drop (ddK L j).length) ((ddK L j).length+(k - (ddK L j).length))=nth (L.drop (ddK L j).length) (k - (ddK L j).length):=nth_app_r
  rw [nth_dropn] at e
  rw [show (ddK L j).length+(k - (ddK L j).length)=k by omega] at e
  exact e
theorem ddK_keep {L:List (List Int)} {j:Nat} (h:j=0∨nth L j≠nth L (j - 1)):ddK L (j+1)=ddK L j++[nth L j]:=if_pos h
theorem ddK_skip {L:List (List Int)} {j:Nat} (h: ¬(j=0∨nth L j≠nth L (j - 1))):ddK L (j+1)=ddK L j:=if_neg h
theorem ddL_skip {L:List (List Int)} {j:Nat} (h: ¬(j=0∨nth L j≠nth L (j - 1))):ddL L (j+1)=ddL L j:=by unfold ddL; rw [ddK_skip h]
theorem set_app_drop {α:Type} {a l:List α} {x:α} (h:a.length < l.length):(a++l.drop a.length).set a.length x=a++[x]++l.drop (a.length+1):=by
  rw [List.drop_eq_getElem_cons h]
  rw [List.set_append_right _ _ (Nat.le_refl _),Nat.sub_self,List.set_cons_zero]; simp
theorem ddL_keep {L:List (List Int)} {j:Nat} (hj:j < L.length) (h:j=0∨nth L j≠nth L (j - 1)):(ddL L j).set (ddK L j).length (nth L j)=ddL L (j+1):=by
  have:=ddK_le L j
  unfold ddL
  rw [ddK_keep h,set_app_drop (by omega)]
  simp
theorem ddK_all {L:List (List Int)}: ∀ {j:Nat},j≤L.length→(∀ i,1≤i→i < j→nth L i≠nth L (i - 1))→ddK L j=L.take j
  |0,_,_=>by simp [ddK]
  | j + 1, hj, h => by
    rw [ddK_keep (by by_cases e:j=0; exact .inl e; exact .inr (h j (by omega) (by omega))),ddK_all (by omega) fun i h1 h2=>h i h1 (by omega),take_succ_nth (by omega)]
theorem ddK_mem {L : List (List Int)} : ∀ {j : Nat}, j ≤ L.length → ∀ u, u ∈ ddK L j ↔ u ∈ L.take j
  |0,_,u=>by simp [ddK]
  | j + 1, hj, u => by
    have ih:=ddK_mem (L:=L) (j:=j) (by omega) u
    rw [take_succ_nth (by omega),List.mem_append,List.mem_singleton]
    by_cases h:j=0∨nth L j≠nth L (j - 1)
    · rw [ddK_keep h,List.mem_append,List.mem_singleton,ih]
    · rw [ddK_skip h,ih]
      refine ⟨.inl,fun q=>q.elim id fun e=>?_⟩
      have e2:nth L j=nth L (j - 1):=by
        by_cases e3:nth L j=nth L (j - 1)
        · exact e3
        · exact (h (.inr e3)).elim
      have:nth (L.take j) (j - 1)=u:=by rw [nth_take (by omega),← e2,e]
      rw [← this]
      exact nth_mem (by rw [List.length_take]; omega)
theorem ddK_srt {L : List (List Int)} (hs : L.Pairwise fun a b => ¬slx b a < 0) : ∀ {j : Nat}, j ≤ L.length → SrtW (ddK L j)
  |0,_=>List.Pairwise.nil
  | j + 1, hj => by
    have ih:=ddK_srt hs (j:=j) (by omega)
    by_cases h:j=0∨nth L j≠nth L (j - 1)
    · rw [ddK_keep h, SrtW, List.pairwise_append]
      refine ⟨ih,by simp,fun a ha b hb=>?_⟩
      rw [List.mem_singleton.1 hb]
      have ha':=(ddK_mem (L:=L) (by omega) a).1 ha
      obtain ⟨i,hi,rfl⟩:=mem_nth ha'
      rw [List.length_take] at hi
      rw [nth_take (by omega)]
      have le: ∀ p q,p < q→q < L.length→slx (nth L p) (nth L q)≤0:=fun p q h1 h2=>by
        have:=(List.pairwise_iff_getElem.1 hs) p q (by omega) h2 h1
        rw [nth_getElem,nth_getElem] at this
        exact slx_le.1 this
      have h1:=le i j (by omega) (by omega)
      by_cases e:slx (nth L i) (nth L j) < 0
      · exact e
      · exfalso
        have heq:=slx_zero.1 (show slx (nth L i) (nth L j)=0 by omega)
        have h2:slx (nth L (j - 1)) (nth L j)≤0:=le (j - 1) j (by omega) (by omega)
        have h3:slx (nth L j) (nth L (j - 1))≤0:=by
          rw [← heq]
          by_cases ei:i=j - 1
          · rw [ei,slx_zero.2 rfl]; omega
          · exact le i (j - 1) (by omega) (by omega)
        have:=slx_anti h2 h3
        rcases h with h|h
        · omega
        · exact h this.symm
    · rw [ddK_skip h]; exact ih
def sdP (l:List (List Int)):List (List Int):=ddK (srt slx l) (srt slx l).length
theorem sdP_eq (l:List (List Int)):sdP l=sdW l:=by
  refine srtW_ext (ddK_srt (srt_sorted slx_swo l) (Nat.le_refl _)) (sdW_srt l) fun u=>?_
  unfold sdP
  rw [ddK_mem (Nat.le_refl _),List.take_length,mem_sdW]
  exact (srt_perm slx l).mem_iff
theorem sdW_len (l:List (List Int)):(sdW l).length≤l.length:=by
  rw [← sdP_eq]
  have:=ddK_le (srt slx l) (srt slx l).length
  unfold sdP; rw [srt_len] at this ⊢; exact this
end Go.Proofs.YtilfohjlglefjaaGreat
namespace Go.Proofs.YtilfohjlglefjaaGreat
structure Nd where
  lf:Bool
  ac:List Int
  sf:List Int
  ou:List (List Int)
  kd:List Int
  deriving Inhabited
abbrev cN (x:Nd):List V:=[.bool x.lf,ints x.ac,ints x.sf,intss x.ou,ints x.kd]
structure Dt where
  nd:List Nd
  deriving Inhabited
@[simp] theorem canonLL_nds (l:List Nd):canonLL (l.map cN)=true:=canonLL_map _ _ fun a=>by simp [cN]
theorem Nd.eq_iff {a b:Nd}:a=b↔a.lf=b.lf∧a.ac=b.ac∧a.sf=b.sf∧a.ou=b.ou∧a.kd=b.kd:=by cases a; cases b; simp
theorem Dt.eq_iff {a b:Dt}:a=b↔a.nd=b.nd:=by cases a; cases b; simp
instance:DecidableEq Nd:=fun _ _=>decidable_of_iff _ Nd.eq_iff.symm
instance:DecidableEq Dt:=fun _ _=>decidable_of_iff _ Dt.eq_iff.symm
def ouE (w:List Int) (k:Nat):Int:=if nth w k < 0∨1048576 < nth w k then 2 else 0
def vlE (outs suffix:List Int):Int:=if outs.length≠suffix.length then 1 else fe (ouE outs) 0 outs.length
def lfE (x:Nd):Int:=if 0 < x.sf.length+x.ou.length+x.kd.length then 1 else wchk x.ac 64
def chE (x:Nd) (n:Nat) (k:Nat):Int:=if vlE (nth x.ou k) x.sf≠0 then vlE (nth x.ou k) x.sf else if 0 < k∧0≤lexI (nth x.ou (k - 1)) (nth x.ou k) then 10 else if nth x.kd k < 0∨(n:Int)≤nth x.kd k then 2 else 0
def inE2 (x:Nd) (n:Nat):Int:=
  if 0 < x.ac.length then 1 else if x.sf.length=0 then 19 else if wchk x.sf 64≠0 then wchk x.sf 64 else if x.ou.length≠x.kd.length then 1 else fe (chE x n) 0 x.ou.length
def ndE (x:Nd) (n:Nat):Int:=if x.lf=true then lfE x else inE2 x n
def acL (l:List Nd):List (List Int):=(l.filter (·.lf)).map (·.ac)
def qS (t:Dt) (P:List Int) (i:Nat):List Int:=P++(nth t.nd (nth P i).toNat).kd
structure KI (t:Dt):Prop where
  pos:0 < t.nd.length
  rng: ∀ k,k < t.nd.length→ ∀ a∈(nth t.nd k).kd,0≤a∧a < t.nd.length
def whI:RS→List Int→Option RS
  |P,[]=>some P
  |P,a::w=>if nth P.2 a.toNat=true then none else whI (P.1++[a],P.2.set a.toNat true) w
def whN (t:Dt):Nat→Nat→RS→Option RS
  |0,_,P=>some P
  |n+1,i,P=>if i < P.1.length then (whI P (nth t.nd (nth P.1 i).toNat).kd).bind (whN t n (i+1)) else some P
def wh0 (t:Dt):RS:=([0],(List.replicate t.nd.length false).set 0 true)
def whB (t:Dt):Bool:=match whN t t.nd.length 0 (wh0 t) with
  |some P=>decide (P.1.length=t.nd.length)
  |none=>false
inductive Ln (t:Dt):Nat→List Int→Prop where
  |zero:Ln t 0 [0]
  |step {i:Nat} {P:List Int} (h:Ln t i P) (hi:i < P.length):Ln t (i+1) (qS t P i)
theorem Ln.rng {t:Dt} (hk:KI t): ∀ {i:Nat} {P:List Int},Ln t i P→ ∀ a∈P,0≤a∧a < t.nd.length:=by
  intro i P h
  induction h with
  |zero=>intro a ha; rw [List.mem_singleton.1 ha]; have:=hk.pos; omega
  | step h hi ih =>
    intro a ha
    rcases List.mem_append.1 ha with ha|ha
    · exact ih a ha
    · have:=ih _ (nth_mem hi)
      exact hk.rng _ (by omega) a ha
theorem Ln.le {t:Dt}: ∀ {i:Nat} {P:List Int},Ln t i P→i≤P.length:=by
  intro i P h
  induction h with
  |zero=>simp
  |step h hi ih=>unfold qS; rw [List.length_append]; omega
def Whole (t:Dt):Prop:= ∃ P:List Int,Ln t P.length P∧P.Nodup∧P.length=t.nd.length
theorem Ln.uniq {t:Dt}: ∀ {i:Nat} {P Q:List Int},Ln t i P→Ln t i Q→P=Q:=by
  intro i P Q h
  induction h generalizing Q with
  |zero=>intro h; cases h; rfl
  | step h hi ih =>
    intro h'
    cases h' with
    |step h2 hi2=>rw [ih h2]
theorem Ln.pre {t:Dt}: ∀ {i:Nat} {P:List Int},Ln t i P→ ∀ {j:Nat} {Q:List Int},Ln t j Q→i≤j→ ∃ x,Q=P++x:=by
  intro i P h j Q h2 hij
  induction h2 with
  | zero =>
    have:i=0:=by omega
    subst this; exact ⟨[],by rw [h.uniq .zero]; rfl⟩
  | step h3 hi ih =>
    rename_i j Q
    by_cases e:i=j+1
    · subst e; exact ⟨[],by rw [h.uniq (.step h3 hi)]; simp⟩
    · obtain ⟨x,hx⟩:=ih (by omega)
      exact ⟨x++(nth t.nd (nth Q j).toNat).kd,by unfold qS; rw [hx,List.append_assoc]⟩
theorem nd_bound {t:Dt} {P:List Int} (h: ∀ a∈P,0≤a∧a < t.nd.length) (hn:P.Nodup):P.length≤t.nd.length:=by
  have:=nd_le (m:=(List.range t.nd.length).map Int.ofNat) hn fun a ha=>by
    obtain ⟨h0,h1⟩:=h a ha
    exact List.mem_map.2 ⟨a.toNat,List.mem_range.2 (by omega),by simp; omega⟩
  simpa using this
def Mk (n:Nat) (B:List Bool) (l:List Int):Prop:=B.length=n∧ ∀ a:Int,0≤a→a < n→(nth B a.toNat=true↔a∈l)
theorem Mk.set {n:Nat} {B:List Bool} {l:List Int} (h:Mk n B l) {a:Int} (h0:0≤a) (h1:a < n):Mk n (B.set a.toNat true) (l++[a]):=by
  refine ⟨by simp [h.1],fun b b0 b1=>?_⟩
  rw [nth_set (by rw [h.1]; omega),List.mem_append,List.mem_singleton]
  by_cases e:a.toNat=b.toNat
  · rw [if_pos e]; exact ⟨fun _=>.inr (by omega),fun _=>rfl⟩
  · rw [if_neg e,h.2 b b0 b1]
    exact ⟨.inl,fun q=>q.resolve_right fun q=>e (by rw [q])⟩
theorem Mk.none (n:Nat):Mk n (List.replicate n false) []:=by
  refine ⟨by simp,fun a h0 h1=>?_⟩
  have:nth (List.replicate n false) a.toNat=false:=by
    rw [← nth_getElem (by simp; omega)]; simp
  rw [this]; simp
theorem whI_spec {n : Nat} : ∀ {w : List Int} {P : RS}, Mk n P.2 P.1 → P.1.Nodup → (∀ a ∈ w, 0 ≤ a ∧ a < n) →
    match whI P w with
    |some Q=>Q.1=P.1++w∧Mk n Q.2 Q.1∧Q.1.Nodup
    |none=> ¬(P.1++w).Nodup
  |[],P,h,hn,_=>by simp only [whI]; exact ⟨by simp,h,hn⟩
  | a :: w, P, h, hn, hw => by
    obtain ⟨h0,h1⟩:=hw a (by simp)
    simp only [whI]
    by_cases e:nth P.2 a.toNat=true
    · rw [if_pos e]
      intro q
      have:=(h.2 a h0 h1).1 e
      rw [List.nodup_append] at q
      exact q.2.2 a this a (by simp) rfl
    · rw [if_neg e]
      have hna:a∉P.1:=fun q=>e ((h.2 a h0 h1).2 q)
      have hnd:(P.1++[a]).Nodup:=by
        rw [List.nodup_append]
        exact ⟨hn,by simp,fun x hx y hy=>by rw [List.mem_singleton.1 hy]; intro q; exact hna (q ▸ hx)⟩
      have ih:=whI_spec (w:=w) (P:=(P.1++[a],P.2.set a.toNat true)) (h.set h0 h1) hnd fun b hb=>hw b (List.mem_cons_of_mem _ hb)
      have ea:P.1++[a]++w=P.1++a::w:=by simp
      simp only [ea] at ih
      exact ih
theorem whN_spec {t : Dt} (hk : KI t) : ∀ (n i : Nat) (P : RS), Ln t i P.1 → Mk t.nd.length P.2 P.1 → P.1.Nodup → t.nd.length ≤ i + n →
    match whN t n i P with
    |some Q=>Ln t Q.1.length Q.1∧Q.1.Nodup
    |none=> ∃ j L,Ln t j L∧ ¬L.Nodup
  | 0, i, P, hl, hm, hn, hi => by
    simp only [whN]
    have h1:=hl.le
    have h2:=nd_bound (hl.rng hk) hn
    have:P.1.length=i:=by omega
    exact ⟨by rw [this]; exact hl,hn⟩
  | n + 1, i, P, hl, hm, hn, hi => by
    simp only [whN]
    by_cases h:i < P.1.length
    · rw [if_pos h]
      have hr:=hl.rng hk _ (nth_mem h)
      have hw:=whI_spec (w:=(nth t.nd (nth P.1 i).toNat).kd) hm hn (hk.rng _ (by omega))
      cases hq:whI P (nth t.nd (nth P.1 i).toNat).kd with
      | none =>
        rw [hq] at hw
        simp only [Option.bind_none]
        exact ⟨i+1,_,.step hl h,hw⟩
      | some Q =>
        rw [hq] at hw
        simp only [Option.bind_some]
        obtain ⟨g1,g2,g3⟩:=hw
        exact whN_spec hk n (i+1) Q (by rw [g1]; exact .step hl h) g2 g3 (by omega)
    · rw [if_neg h]
      have:=hl.le
      have:P.1.length=i:=by omega
      exact ⟨by rw [this]; exact hl,hn⟩
theorem whB_iff {t : Dt} (hk : KI t) : whB t = true ↔ Whole t := by
  have h0:Mk t.nd.length (wh0 t).2 (wh0 t).1:=by
    have:=(Mk.none t.nd.length).set (a:=0) (by omega) (by have:=hk.pos; omega)
    exact this
  have h:=whN_spec hk t.nd.length 0 (wh0 t) .zero h0 (by simp [wh0]) (by omega)
  unfold whB
  cases hq:whN t t.nd.length 0 (wh0 t) with
  | none =>
    rw [hq] at h
    obtain ⟨j,L,g1,g2⟩:=h
    simp only [Bool.false_eq_true,false_iff]
    rintro ⟨P,p1,p2,p3⟩
    have hj : j ≤ P.length := by
      have:=g1.le
      by_cases e:j≤P.length
      · exact e
      · exfalso
        obtain ⟨x,hx⟩:=p1.pre g1 (by omega)
        -- the line ends with P:no step leads beyond it
        have key: ∀ {j:Nat} {L:List Int},Ln t j L→P.length < j→False:=by
          intro j L hL
          induction hL with
          |zero=>intro q; omega
          | step h2 hi ih =>
            rename_i a b
            intro q
            by_cases e2:P.length < a
            · exact ih e2
            · have:a=P.length:=by omega
              subst this
              rw [h2.uniq p1] at hi; omega
        exact key g1 (by omega)
    obtain ⟨x,hx⟩:=g1.pre p1 hj
    rw [hx,List.nodup_append] at p2
    exact g2 p2.1
  | some Q =>
    rw [hq] at h
    obtain ⟨g1,g2⟩:=h
    simp only [decide_eq_true_eq]
    constructor
    · intro e; exact ⟨Q.1,g1,g2,e⟩
    · rintro ⟨P,p1,p2,p3⟩
      have key: ∀ {j:Nat} {L:List Int},Ln t j L→ ∀ {P:List Int},Ln t P.length P→j≤P.length:=by
        intro j L hL P p1
        induction hL with
        |zero=>omega
        | step h2 hi ih =>
          rename_i a b
          by_cases e:a=P.length
          · subst e; rw [h2.uniq p1] at hi; omega
          · omega
      have a1:=key g1 p1
      have a2:=key p1 g1
      omega
def dvE (t : Dt) : Int :=
  if t.nd.length=0 then 19 else if 4096 < t.nd.length then 11 else if fe (fun k=>ndE (nth t.nd k) t.nd.length) 0 t.nd.length≠0 then fe (fun k=>ndE (nth t.nd k) t.nd.length) 0 t.nd.length else
    if whB t=false then 1 else if (sdW (acL t.nd)).length≠(acL t.nd).length then 7 else 0
end Go.Proofs.YtilfohjlglefjaaGreat
namespace Go.Proofs.YtilfohjlglefjaaGreat
def SrtL (l:List (List Int)):Prop:=l.Pairwise fun a b=>lexI a b < 0
def lxP (w u:List Int):Bool:=decide (lexI u w < 0)
def lxN (l:List (List Int)) (w:List Int):Nat:=(l.takeWhile (lxP w)).length
def lxH (l:List (List Int)) (w:List Int):Prop:=lxN l w < l.length∧lexI (nth l (lxN l w)) w=0
instance (l:List (List Int)) (w:List Int):Decidable (lxH l w):=inferInstanceAs (Decidable (_∧_))
theorem srtL_lt {l:List (List Int)} (h:SrtL l) {i j:Nat} (hij:i < j) (hj:j < l.length):lexI (nth l i) (nth l j) < 0:=by
  have:=(List.pairwise_iff_getElem.1 h) i j (by omega) hj hij
  rwa [nth_getElem,nth_getElem] at this
end Go.Proofs.YtilfohjlglefjaaGreat
namespace Go.Proofs.YtilfohjlglefjaaGreat
theorem in_nth {α:Type} [Inhabited α] {l:List α} {a:α} (h:a∈l): ∃ k,k < l.length∧nth l k=a:=by
  obtain ⟨k,hk,e⟩:=List.mem_iff_getElem.1 h
  exact ⟨k,hk,by rw [← nth_getElem hk]; exact e⟩
theorem srtL_of {l:List (List Int)} (h: ∀ a b,a < b→b < l.length→lexI (nth l a) (nth l b) < 0):SrtL l:=
  List.pairwise_iff_getElem.2 fun i j hi hj hij=>by rw [nth_getElem,nth_getElem]; exact h i j hij hj
theorem dv_ok {t : Dt} (h : dvE t = 0) : 0 < t.nd.length ∧ t.nd.length ≤ 4096 ∧ (∀ k, k < t.nd.length → ndE (nth t.nd k) t.nd.length = 0) ∧ whB t = true ∧ (sdW (acL t.nd)).length = (acL t.nd).length := by
  unfold dvE at h
  split at h
  · omega
  · split at h
    · omega
    · split at h
      · rename_i q; exact (q h).elim
      · rename_i q
        split at h
        · omega
        · rename_i w
          split at h
          · omega
          · refine ⟨by omega,by omega,fun k hk=>?_,by simpa using w,by omega⟩
            have:=fe_zero_iff.1 (Decidable.not_not.1 q) k (Nat.zero_le _) (by omega)
            exact this
structure InOk (x:Nd) (n:Nat):Prop where
  ac:x.ac=[]
  s0:0 < x.sf.length
  sw:wchk x.sf 64=0
  len:x.ou.length=x.kd.length
  ov: ∀ k,k < x.ou.length→vlE (nth x.ou k) x.sf=0
  srt:SrtL x.ou
  kr: ∀ a∈x.kd,0≤a∧a < n
structure LfOk (x:Nd):Prop where
  sf:x.sf=[]
  ou:x.ou=[]
  kd:x.kd=[]
  aw:wchk x.ac 64=0
theorem ch_ok {x:Nd} {n k:Nat} (h:chE x n k=0):vlE (nth x.ou k) x.sf=0∧(0 < k→lexI (nth x.ou (k - 1)) (nth x.ou k) < 0)∧0≤nth x.kd k∧nth x.kd k < n:=by
  unfold chE at h
  split at h
  · rename_i q; exact (q h).elim
  · split at h
    · omega
    · split at h
      · omega
      · exact ⟨by omega,fun hk=>by omega,by omega,by omega⟩
theorem ch_lt {x:Nd} {n:Nat}: ∀ {i:Nat},(∀ j,j < i→chE x n j=0)→ ∀ a b,a < b→b < i→lexI (nth x.ou a) (nth x.ou b) < 0:=by
  intro i h a b
  induction b with
  |zero=>intro q; omega
  | succ b ih =>
    intro q hb
    have h1:=(ch_ok (h (b+1) hb)).2.1 (by omega)
    rw [Nat.add_sub_cancel] at h1
    rcases Nat.lt_or_ge a b with g|g
    · exact lexI_trans (ih g (by omega)) h1
    · rw [show a=b by omega]; exact h1
theorem in_ok {x : Nd} {n : Nat} (h : inE2 x n = 0) : InOk x n := by
  unfold inE2 at h
  split at h
  · omega
  · split at h
    · omega
    · split at h
      · rename_i q; exact (q h).elim
      · split at h
        · omega
        · rename_i h1 h2 h3 h4
          have hc:=fe_zero_iff.1 h
          have hc': ∀ j,j < x.ou.length→chE x n j=0:=fun j hj=>hc j (Nat.zero_le _) (by omega)
          refine ⟨List.eq_nil_of_length_eq_zero (by omega),by omega,by omega,by omega,fun k hk=>(ch_ok (hc' k hk)).1,srtL_of fun a b hab hb=>ch_lt hc' a b hab hb,fun a ha=>?_⟩
          obtain ⟨k,hk,rfl⟩:=in_nth ha
          exact (ch_ok (hc' k (by omega))).2.2
theorem lf_ok {x:Nd} (h:lfE x=0):LfOk x:=by
  unfold lfE at h
  split at h
  · omega
  · exact ⟨List.eq_nil_of_length_eq_zero (by omega),List.eq_nil_of_length_eq_zero (by omega),List.eq_nil_of_length_eq_zero (by omega),h⟩
theorem nd_in {t:Dt} (h:dvE t=0) {k:Nat} (hk:k < t.nd.length) (hl:(nth t.nd k).lf=false):InOk (nth t.nd k) t.nd.length:=by
  have:=(dv_ok h).2.2.1 k hk
  unfold ndE at this
  rw [hl,if_neg (by simp)] at this
  exact in_ok this
theorem nds_ki {t:Dt} (h0:0 < t.nd.length) (h: ∀ k,k < t.nd.length→ndE (nth t.nd k) t.nd.length=0):KI t:=by
  refine ⟨h0,fun k hk a ha=>?_⟩
  have:=h k hk
  unfold ndE at this
  split at this
  · rw [(lf_ok this).kd] at ha; cases ha
  · exact (in_ok this).kr a ha
theorem dv_ki {t:Dt} (h:dvE t=0):KI t:=nds_ki (dv_ok h).1 (dv_ok h).2.2.1
def Plc (t:Dt) (P:List Int):Prop:=Ln t P.length P∧P.Nodup∧P.length=t.nd.length
theorem dv_line {t:Dt} (h:dvE t=0): ∃ P,Plc t P:=(whB_iff (dv_ki h)).1 (dv_ok h).2.2.2.1
theorem Ln.kid {t:Dt}: ∀ {i:Nat} {P:List Int},Ln t i P→ ∀ {a:Int} {j:Nat},j < i→a∈(nth t.nd (nth P j).toNat).kd→ ∃ s,j < s∧s < P.length∧nth P s=a:=by
  intro i P h
  induction h with
  |zero=>intro a j hj; omega
  | step h hi ih =>
    rename_i i P
    intro a j hj ha
    have hle:=h.le
    have e:nth (qS t P i) j=nth P j:=by unfold qS; exact nth_app_l (by omega)
    rw [e] at ha
    have hl:(qS t P i).length=P.length+(nth t.nd (nth P i).toNat).kd.length:=by unfold qS; rw [List.length_append]
    rcases Nat.lt_or_ge j i with q|q
    · obtain ⟨s,h1,h2,h3⟩:=ih q ha
      exact ⟨s,h1,by omega,by unfold qS; rw [nth_app_l h2]; exact h3⟩
    · have:j=i:=by omega
      subst this
      obtain ⟨c,hc,hv⟩:=in_nth ha
      exact ⟨P.length+c,by omega,by omega,by unfold qS; rw [nth_app_r]; exact hv⟩
theorem Plc.head {t:Dt} {P:List Int} (h:Plc t P):nth P 0=0∧(0 < t.nd.length→0 < P.length):=by
  have: ∀ {i:Nat} {P:List Int},Ln t i P→nth P 0=0:=by
    intro i P h
    induction h with
    |zero=>rfl
    |step h hi ih=>unfold qS; rw [nth_app_l (by omega)]; exact ih
  exact ⟨this h.1,fun q=>by rw [h.2.2]; exact q⟩
theorem Plc.kid {t:Dt} {P:List Int} (h:Plc t P) {s:Nat} (hs:s < P.length) {a:Int} (ha:a∈(nth t.nd (nth P s).toNat).kd): ∃ s',s < s'∧s' < P.length∧nth P s'=a:=h.1.kid hs ha
theorem Plc.all {t:Dt} (hk:KI t) {P:List Int} (h:Plc t P) {a:Int} (h0:0≤a) (h1:a < t.nd.length): ∃ s,s < P.length∧nth P s=a:=by
  by_cases e:a∈P
  · exact in_nth e
  · have:=nd_bound (t:=t) (P:=a::P) (fun b hb=>by
      rcases List.mem_cons.1 hb with rfl|hb
      · exact ⟨h0,h1⟩
      · exact h.1.rng hk b hb) (List.nodup_cons.2 ⟨e,h.2.1⟩)
    have:=h.2.2
    simp at*; omega
theorem Plc.one {t : Dt} (hk : KI t) {P : List Int} (h : Plc t P) : ∀ {m m' a : Int}, 0 ≤ m → m < t.nd.length → 0 ≤ m' → m' < t.nd.length → a ∈ (nth t.nd m.toNat).kd → a ∈ (nth t.nd m'.toNat).kd → m = m' := by
  intro m m' a h0 h1 h2 h3 ha hb
  obtain ⟨i,hi,ei⟩:=h.all hk h0 h1
  obtain ⟨j,hj,ej⟩:=h.all hk h2 h3
  have key: ∀ {n:Nat} {Q:List Int},Ln t n Q→Q.Nodup→ ∀ {i j:Nat},i < j→j < n→a∈(nth t.nd (nth Q i).toNat).kd→a∈(nth t.nd (nth Q j).toNat).kd→False:=by
    intro n Q hq
    induction hq with
    |zero=>intro _ i j _ hj; omega
    | step h hi ih =>
      rename_i n Q
      intro hnd i j hij hj ha hb
      have hle:=h.le
      have e1:nth (qS t Q n) i=nth Q i:=by unfold qS; exact nth_app_l (by omega)
      have e2:nth (qS t Q n) j=nth Q j:=by unfold qS; exact nth_app_l (by omega)
      rw [e1] at ha; rw [e2] at hb
      have hn2:(Q++(nth t.nd (nth Q n).toNat).kd).Nodup:=hnd
      rw [List.nodup_append] at hn2
      rcases Nat.lt_or_ge j n with q|q
      · exact ih hn2.1 hij q ha hb
      · have:j=n:=by omega
        subst this
        obtain ⟨s,_,g2,g3⟩:=h.kid hij ha
        exact hn2.2.2 a (g3 ▸ nth_mem g2) a hb rfl
  rw [← ei] at ha; rw [← ej] at hb
  rcases Nat.lt_trichotomy i j with q|q|q
  · exact (key h.1 h.2.1 q hj ha hb).elim
  · rw [← ei,← ej,q]
  · exact (key h.1 h.2.1 q hi hb ha).elim
def sftN (t:Dt) (o:Ob) (w:List Int):Nat→Nat→Int×List Int×Int
  |0,n=>(n,[],0)
  | f + 1, n => if (nth t.nd n).lf = true then (n, [], 0) else if wchk (cat [w, (nth t.nd n).sf]) o.i ≠ 0 then (0, [], wchk (cat [w, (nth t.nd n).sf]) o.i) else
      if (ans o (cat [w,(nth t.nd n).sf])).isSome=false then (0,cat [w,(nth t.nd n).sf],0) else
      if lxH (nth t.nd n).ou (((ans o (cat [w,(nth t.nd n).sf])).getD []).drop w.length) then sftN t o w f (nth (nth t.nd n).kd (lxN (nth t.nd n).ou (((ans o (cat [w,(nth t.nd n).sf])).getD []).drop w.length))).toNat else (n,[],0)
def sftR (t:Dt) (o:Ob) (w:List Int):Int×List Int×Int:=
  if dvE t≠0 then (0,[],dvE t) else if wchk w o.i≠0 then (0,[],wchk w o.i) else sftN t o w t.nd.length 0
def Rk (t:Dt) (f n:Nat):Prop:= ∃ P s,Plc t P∧s < P.length∧nth P s=(n:Int)∧t.nd.length≤f+s
theorem Rk.pos {t:Dt} {f n:Nat} (h:Rk t f n):0 < f:=by
  obtain ⟨P,s,hP,hs,_,h3⟩:=h
  have:=hP.2.2; omega
theorem Rk.lt {t:Dt} (hv:dvE t=0) {f n:Nat} (h:Rk t f n):n < t.nd.length:=by
  obtain ⟨P,s,hP,hs,h2,_⟩:=h
  have:=hP.1.rng (dv_ki hv) _ (nth_mem hs)
  omega
theorem Rk.step {t:Dt} {f n:Nat} (h:Rk t f n) {a:Int} (ha:a∈(nth t.nd n).kd) (h0:0≤a):Rk t (f - 1) a.toNat:=by
  have hp:=h.pos
  obtain ⟨P,s,hP,hs,h2,h3⟩:=h
  obtain ⟨s',g1,g2,g3⟩:=hP.kid hs (a:=a) (by rw [h2]; simpa using ha)
  exact ⟨P,s',hP,g2,by rw [g3]; omega,by omega⟩
section
variable {t:Dt} {o:Ob} {w:List Int} {f n:Nat}
end
def Up (t:Dt) (f:Nat) (n:Int):Prop:= ∃ P s,Plc t P∧s < P.length∧nth P s=n∧s≤f
theorem Up.of {t:Dt} (h:dvE t=0) {n:Int} (h0:0≤n) (h1:n < t.nd.length):Up t t.nd.length n:=by
  obtain ⟨P,hP⟩:=dv_line h
  obtain ⟨s,hs,e⟩:=hP.all (dv_ki h) h0 h1
  exact ⟨P,s,hP,hs,e,by have:=hP.2.2; omega⟩
theorem Up.pos {t:Dt} {f:Nat} {n:Int} (h:Up t f n) (hn:n≠0):0 < f:=by
  obtain ⟨P,s,hP,hs,h2,h3⟩:=h
  rcases Nat.eq_zero_or_pos s with e|e
  · subst e; rw [hP.head.1] at h2; exact (hn h2.symm).elim
  · omega
theorem Up.rng {t:Dt} (hv:dvE t=0) {f:Nat} {n:Int} (h:Up t f n):0≤n∧n < t.nd.length:=by
  obtain ⟨P,s,hP,hs,h2,_⟩:=h
  rw [← h2]; exact hP.1.rng (dv_ki hv) _ (nth_mem hs)
end Go.Proofs.YtilfohjlglefjaaGreat
namespace Go.Proofs.YtilfohjlglefjaaGreat
set_option linter.unusedSectionVars false
section
variable {α:Type} [Inhabited α]
end
structure Ct where
  lf:Int
  sf:List Int
  ou:List Int
  ac:List Int
  ot:List Int
  deriving Inhabited
end Go.Proofs.YtilfohjlglefjaaGreat
namespace Go.Proofs.YtilfohjlglefjaaGreat
structure Tree (t:Dt):Prop where
  d1: ∀ k,k < t.nd.length→(nth t.nd k).kd.Nodup
  d2: ∀ j k,j < t.nd.length→k < t.nd.length→j≠k→ ∀ a∈(nth t.nd j).kd,a∉(nth t.nd k).kd
  d3: ∀ k,k < t.nd.length→(0:Int)∉(nth t.nd k).kd
  d4: ∀ a:Int,0 < a→a < t.nd.length→ ∃ k,k < t.nd.length∧a∈(nth t.nd k).kd
  rk: ∃ r:Int→Nat,∀ k:Nat,k < t.nd.length→ ∀ a∈(nth t.nd k).kd,r k < r a
end Go.Proofs.YtilfohjlglefjaaGreat
namespace Go.Proofs.YtilfohjlglefjaaGreat
structure Bd (t:Dt):Prop where
  n:t.nd.length≤4096
  ac: ∀ k,k < t.nd.length→(nth t.nd k).ac.length≤1048576
  sf: ∀ k,k < t.nd.length→(nth t.nd k).sf.length≤1048576
  ou: ∀ k,k < t.nd.length→(nth t.nd k).ou.length≤1048576
  kd: ∀ k,k < t.nd.length→(nth t.nd k).kd.length≤1048576
  ol: ∀ k,k < t.nd.length→ ∀ j,j < (nth t.nd k).ou.length→(nth (nth t.nd k).ou j).length≤1048576
structure WI (t:Dt) (P:RS):Prop where
  mr:Mk t.nd.length P.2 P.1
  nd:P.1.Nodup
  rg: ∀ a∈P.1,0≤a∧a < t.nd.length
theorem WI.len {t:Dt} {P:RS} (h:WI t P):P.1.length≤t.nd.length∧P.2.length=t.nd.length:=⟨nd_bound h.rg h.nd,h.mr.1⟩
def wS (P:RS) (a:Int):RS:=(P.1++[a],P.2.set a.toNat true)
theorem WI.step {t:Dt} {P:RS} (h:WI t P) {a:Int} (h0:0≤a) (h1:a < t.nd.length) (hn:nth P.2 a.toNat=false):WI t (wS P a):=by
  refine ⟨h.mr.set h0 h1,?_,fun b hb=>?_⟩
  · show (P.1++[a]).Nodup
    rw [List.nodup_append]
    refine ⟨h.nd,by simp,fun x hx y hy e=>?_⟩
    rw [List.mem_singleton.1 hy] at e
    subst e
    have:=(h.mr.2 x h0 h1).2 hx
    rw [hn] at this; cases this
  · rcases List.mem_append.1 hb with hb|hb
    · exact h.rg b hb
    · rw [List.mem_singleton.1 hb]; exact ⟨h0,h1⟩
structure CI (t:Dt) (P:RS):Prop where
  l2:P.2.length=t.nd.length
  l1:P.1.length≤t.nd.length
  rg: ∀ a∈P.1,0≤a∧a < t.nd.length
def cSt (t:Dt) (P:RS) (i:Nat):RS:=(qS t P.1 i,P.2.set (nth P.1 i).toNat true)
theorem CI.step {t:Dt} (hk:KI t) {P:RS} (h:CI t P) {i:Nat} (hi:i < P.1.length) (hl:(qS t P.1 i).length≤t.nd.length):CI t (cSt t P i):=by
  have hr:=h.rg _ (nth_mem hi)
  refine ⟨by simp [cSt,h.l2],hl,fun a ha=>?_⟩
  rcases List.mem_append.1 ha with ha|ha
  · exact h.rg a ha
  · exact hk.rng _ (by omega) a ha
end Go.Proofs.YtilfohjlglefjaaGreat
namespace Go.Proofs.YtilfohjlglefjaaGreat
@[simp] theorem pureLL_nds (l:List Nd):pureLL (l.map cN)=true:=pureLL_map _ _ fun a=>by simp [cN]
theorem mem_sdP {l:List (List Int)} {w:List Int}:w∈sdP l↔w∈l:=by rw [sdP_eq]; exact mem_sdW l w
theorem sdP_len (l:List (List Int)):(sdP l).length≤l.length:=by rw [sdP_eq]; exact sdW_len l
theorem set_nth {α:Type} [Inhabited α] {l:List α} {k:Nat} (h:k < l.length):l.set k (nth l k)=l:=by
  refine nth_ext (by simp) fun m hm=>?_
  rw [List.length_set] at hm
  rw [nth_set h]
  split
  · rename_i e; rw [e]
  · rfl
theorem dd_all {l:List (List Int)} (h: ∀ i,1≤i→i < l.length→nth l i≠nth l (i - 1)):ddK l l.length=l:=by
  rw [ddK_all (Nat.le_refl _) h,List.take_length]
theorem dd_start {l:List (List Int)} {k:Nat} (h1:1≤k) (hk:k < l.length) (h: ∀ i,1≤i→i < k→nth l i≠nth l (i - 1)) (he:nth l k=nth l (k - 1)):(ddK l (k+1)).length=k∧ddL l (k+1)=l:=by
  have e1:ddK l (k+1)=l.take k:=by
    rw [ddK_skip (by rintro (q|q); omega; exact q he),ddK_all (by omega) h]
  have e2:(l.take k).length=k:=by simp; omega
  refine ⟨by rw [e1,e2],?_⟩
  unfold ddL; rw [e1,e2,List.take_append_drop]
theorem dd_pos {l:List (List Int)}: ∀ {j:Nat},0 < j→0 < (ddK l j).length
  |1,_=>by rw [show (1:Nat)=0+1 from rfl,ddK_keep (.inl rfl)]; simp
  | j + 2, _ => by
    have:=dd_pos (l:=l) (j:=j+1) (by omega)
    simp only [ddK] at this ⊢
    split
    · rw [List.length_append]; omega
    · exact this
theorem dd_at {l:List (List Int)} {k j:Nat} (h:(ddK l (k+j)).length < k+j) (hj:1≤j):
    nth (ddL l (k+j)) (0+k+j)=nth l (k+j)∧nth (ddL l (k+j)) (0+k+(((j:Nat):Int) - (1:Int)).toNat)=nth l (k+j - 1):=by
  refine ⟨(ddL_nth (by omega)).trans (by congr 1; omega),(ddL_nth (by omega)).trans (by congr 1; omega)⟩
theorem dd_take {l:List (List Int)} {j:Nat} (h:l.length≤j) (hj:j≤l.length):(ddL l j).take (ddK l j).length=ddK l l.length:=by
  have:j=l.length:=by omega
  subst this
  unfold ddL; rw [List.take_left]
end Go.Proofs.YtilfohjlglefjaaGreat
namespace Go.Proofs.YtilfohjlglefjaaGreat
structure Sp (t:Dt) (o:Ob) (w:List Int) (m a:Int):Prop where
  lf:(nth t.nd m.toNat).lf=false
  kn:(ans o (cat [w,(nth t.nd m.toNat).sf])).isSome=true
  ex:lxH (nth t.nd m.toNat).ou (((ans o (cat [w,(nth t.nd m.toNat).sf])).getD []).drop w.length)
  to:a=nth (nth t.nd m.toNat).kd (lxN (nth t.nd m.toNat).ou (((ans o (cat [w,(nth t.nd m.toNat).sf])).getD []).drop w.length))
inductive Bw (t:Dt) (o:Ob) (w:List Int):List Int→Prop where
  |root:Bw t o w [0]
  |step {a m:Int} {l:List Int} (h:Bw t o w (m::l)) (hs:Sp t o w m a):Bw t o w (a::m::l)
section
variable {t:Dt} {o:Ob} {w:List Int}
theorem Sp.kid (hv:dvE t=0) {m a:Int} (h0:0≤m) (h1:m < t.nd.length) (h:Sp t o w m a):a∈(nth t.nd m.toNat).kd:=by
  rw [h.to]
  exact nth_mem (by have:=(nd_in hv (show m.toNat < t.nd.length by omega) h.lf).len; have:=h.ex.1; omega)
theorem Bw.rng (hv:dvE t=0): ∀ {l:List Int},Bw t o w l→ ∀ a∈l,0≤a∧a < t.nd.length:=by
  intro l h
  induction h with
  |root=>intro a ha; rw [List.mem_singleton.1 ha]; have:=(dv_ok hv).1; omega
  | step h hs ih =>
    rename_i a m l
    intro b hb
    rcases List.mem_cons.1 hb with rfl|hb
    · have hm:=ih m (by simp)
      exact (dv_ki hv).rng m.toNat (by omega) _ (hs.kid hv hm.1 hm.2)
    · exact ih b hb
end
end Go.Proofs.YtilfohjlglefjaaGreat
namespace Go.Proofs.YtilfohjlglefjaaGreat
open Go
abbrev cLL (l:List (List Int)):List V:=[intss l]
@[simp] theorem canonLL_ll (l:List (List (List Int))):canonLL (l.map cLL)=true:=canonLL_map _ _ fun a=>by simp [cLL]
@[simp] theorem pureLL_ll (l:List (List (List Int))):pureLL (l.map cLL)=true:=pureLL_map _ _ fun a=>by simp [cLL]
structure Sm (x:Nd):Prop where
  ac:x.ac.length≤1048576
  sf:x.sf.length≤1048576
  ou:x.ou.length≤1048576
  kd:x.kd.length≤1048576
  ol: ∀ w∈x.ou,w.length≤1048576
end Go.Proofs.YtilfohjlglefjaaGreat
namespace Go.Proofs.YtilfohjlglefjaaGreat
open Go Go.Sort
theorem lexI_swo:SWO fun a b:List Int=>decide (lexI a b < 0) where
  irrefl a:=decide_eq_false (by rw [lexI_zero.2 rfl]; omega)
  trans a b c h1 h2:=decide_eq_true (lexI_trans (of_decide_eq_true h1) (of_decide_eq_true h2))
  ntrans a b c h1 h2:=decide_eq_false (lexI_le.2 (lexI_tr (lexI_le.1 (of_decide_eq_false h2)) (lexI_le.1 (of_decide_eq_false h1))))
theorem lexI_same {a b:List Int} (h1: ¬lexI a b < 0) (h2: ¬lexI b a < 0):a=b:=by
  have q2:lexI a b≤0:=lexI_le.1 h2
  exact lexI_zero.1 (by omega)
def sdX (l:List (List Int)):List (List Int):=ddK (srt lexI l) (srt lexI l).length
theorem mem_sdX {l:List (List Int)} {w:List Int}:w∈sdX l↔w∈l:=by
  unfold sdX
  rw [ddK_mem (Nat.le_refl _),List.take_length]
  exact (srt_perm lexI l).mem_iff
theorem sdX_len (l:List (List Int)):(sdX l).length≤l.length:=by
  have:=ddK_le (srt lexI l) (srt lexI l).length
  unfold sdX; rw [srt_len] at this ⊢; exact this
theorem ddK_lex {L : List (List Int)} (hs : L.Pairwise fun a b => ¬lexI b a < 0) : ∀ {j : Nat}, j ≤ L.length → SrtL (ddK L j)
  |0,_=>List.Pairwise.nil
  | j + 1, hj => by
    have ih:=ddK_lex hs (j:=j) (by omega)
    by_cases h:j=0∨nth L j≠nth L (j - 1)
    · rw [ddK_keep h, SrtL, List.pairwise_append]
      refine ⟨ih,by simp,fun a ha b hb=>?_⟩
      rw [List.mem_singleton.1 hb]
      have ha':=(ddK_mem (L:=L) (by omega) a).1 ha
      obtain ⟨i,hi,rfl⟩:=mem_nth ha'
      rw [List.length_take] at hi
      rw [nth_take (by omega)]
      have le: ∀ p q,p < q→q < L.length→lexI (nth L p) (nth L q)≤0:=fun p q h1 h2=>by
        have:=(List.pairwise_iff_getElem.1 hs) p q (by omega) h2 h1
        rw [nth_getElem,nth_getElem] at this
        exact lexI_le.1 this
      have h1:=le i j (by omega) (by omega)
      by_cases e:lexI (nth L i) (nth L j) < 0
      · exact e
      · exfalso
        have heq:=lexI_zero.1 (show lexI (nth L i) (nth L j)=0 by omega)
        have h2:lexI (nth L (j - 1)) (nth L j)≤0:=le (j - 1) j (by omega) (by omega)
        have h3:lexI (nth L j) (nth L (j - 1))≤0:=by
          rw [← heq]
          by_cases ei:i=j - 1
          · rw [ei,lexI_zero.2 rfl]; omega
          · exact le i (j - 1) (by omega) (by omega)
        have:=lexI_same (lexI_le.2 h3) (lexI_le.2 h2)
        rcases h with h|h
        · omega
        · exact h this.symm
    · rw [ddK_skip h]; exact ih
theorem sdX_srt (l:List (List Int)):SrtL (sdX l):=ddK_lex (srt_sorted lexI_swo l) (Nat.le_refl _)
def mxC (L:List (List Int)) (k:Nat):Bool:=decide (((k+1:Nat):Int)=((L.length:Nat):Int))|| !hp (nth L (k+1)) (nth L k)
def mxO (L:List (List Int)):Nat→List (List Int)
  |0=>[]
  |k+1=>if mxC L k=true then mxO L k++[nth L k] else mxO L k
theorem mxO_yes {L:List (List Int)} {k:Nat} (h:mxC L k=true):mxO L (k+1)=mxO L k++[nth L k]:=if_pos h
theorem mxO_no {L:List (List Int)} {k:Nat} (h:mxC L k=false):mxO L (k+1)=mxO L k:=if_neg (by rw [h]; decide)
theorem mxO_len (L:List (List Int)): ∀ k,(mxO L k).length≤k
  |0=>Nat.le_refl _
  |k+1=>by have:=mxO_len L k; simp only [mxO]; split <;> simp <;> omega
theorem mem_mxO {L : List (List Int)} {w : List Int} : ∀ {k : Nat}, w ∈ mxO L k ↔ ∃ i, i < k ∧ mxC L i = true ∧ nth L i = w
  |0=>by simp [mxO]
  | k + 1 => by
    have ih:=mem_mxO (L:=L) (w:=w) (k:=k)
    by_cases h:mxC L k=true
    · rw [mxO_yes h,List.mem_append,List.mem_singleton,ih]
      constructor
      · rintro (⟨i,i1,i2,i3⟩|e)
        · exact ⟨i,by omega,i2,i3⟩
        · exact ⟨k,by omega,h,e.symm⟩
      · rintro ⟨i,i1,i2,i3⟩
        by_cases e:i=k
        · subst e; exact .inr i3.symm
        · exact .inl ⟨i,by omega,i2,i3⟩
    · rw [mxO_no (by simpa using h),ih]
      constructor
      · rintro ⟨i,i1,i2,i3⟩; exact ⟨i,by omega,i2,i3⟩
      · rintro ⟨i,i1,i2,i3⟩
        by_cases e:i=k
        · subst e; exact (h i2).elim
        · exact ⟨i,by omega,i2,i3⟩
def tpB (L:List (List Int)) (k:Nat):Nat→Bool
  |0=>true
  |j+1=>if k < j then tpB L k j&&(decide (((nth L j).length:Int)=((nth L k).length:Int))|| !hp (nth L j) (nth L k)) else true
theorem tp_start {L:List (List Int)} {k j:Nat} (h:j≤k+1):tpB L k j=true:=by
  cases j with
  |zero=>rfl
  |succ j=>exact if_neg (by omega)
theorem tp_step {L:List (List Int)} {k j:Nat} (h:k < j):tpB L k (j+1)=(tpB L k j&&(decide (((nth L j).length:Int)=((nth L k).length:Int))|| !hp (nth L j) (nth L k))):=if_pos h
theorem tp_iff {L : List (List Int)} {k : Nat} : ∀ {j : Nat}, tpB L k j = true ↔ ∀ i, k < i → i < j → (nth L i).length = (nth L k).length ∨ hp (nth L i) (nth L k) = false
  |0=>by simp [tpB]
  | j + 1 => by
    by_cases h:k < j
    · rw [tp_step h,Bool.and_eq_true,tp_iff (j:=j),Bool.or_eq_true,decide_eq_true_eq,Int.ofNat_inj,Bool.not_eq_true']
      constructor
      · rintro ⟨a,b⟩ i h1 h2
        by_cases e:i=j
        · subst e; exact b
        · exact a i h1 (by omega)
      · intro a; exact ⟨fun i h1 h2=>a i h1 (by omega),a j h (by omega)⟩
    · rw [tp_start (by omega)]
      exact ⟨fun _ i h1 h2=>by omega,fun _=>rfl⟩
def mxT (l:List (List Int)):Nat→List (List Int)
  |0=>[]
  |k+1=>if tpB (sdW l) k (sdW l).length=true then mxT l k++[nth (sdW l) k] else mxT l k
def mxW (l:List (List Int)):List (List Int):=mxT l (sdW l).length
theorem mem_mxT {l : List (List Int)} {w : List Int} : ∀ {k : Nat}, w ∈ mxT l k ↔ ∃ i, i < k ∧ tpB (sdW l) i (sdW l).length = true ∧ nth (sdW l) i = w
  |0=>by simp [mxT]
  | k + 1 => by
    have ih:=mem_mxT (l:=l) (w:=w) (k:=k)
    simp only [mxT]
    split
    · rename_i h
      rw [List.mem_append,List.mem_singleton,ih]
      constructor
      · rintro (⟨i,i1,i2,i3⟩|e)
        · exact ⟨i,by omega,i2,i3⟩
        · exact ⟨k,by omega,h,e.symm⟩
      · rintro ⟨i,i1,i2,i3⟩
        by_cases e:i=k
        · subst e; exact .inr i3.symm
        · exact .inl ⟨i,by omega,i2,i3⟩
    · rename_i h
      rw [ih]
      constructor
      · rintro ⟨i,i1,i2,i3⟩; exact ⟨i,by omega,i2,i3⟩
      · rintro ⟨i,i1,i2,i3⟩
        by_cases e:i=k
        · subst e; exact (h i2).elim
        · exact ⟨i,by omega,i2,i3⟩
theorem mxT_srt {l:List (List Int)}: ∀ {k:Nat},k≤(sdW l).length→SrtW (mxT l k)
  |0,_=>List.Pairwise.nil
  | k + 1, hk => by
    have ih:=mxT_srt (l:=l) (k:=k) (by omega)
    simp only [mxT]
    split
    · rw [SrtW,List.pairwise_append]
      refine ⟨ih,by simp,fun a ha b hb=>?_⟩
      rw [List.mem_singleton.1 hb]
      obtain ⟨i,i1,_,rfl⟩:=mem_mxT.1 ha
      have:=(List.pairwise_iff_getElem.1 (sdW_srt l)) i k (by omega) (by omega) i1
      rw [nth_getElem,nth_getElem] at this
      exact this
    · exact ih
def MxP (l:List (List Int)) (w:List Int):Prop:=w∈l∧ ∀ u∈l,hp u w=true→u=w
theorem mem_mxW {l:List (List Int)} {w:List Int}:w∈mxW l↔MxP l w:=by
  unfold mxW
  rw [mem_mxT]
  constructor
  · rintro ⟨i,i1,i2,rfl⟩
    refine ⟨(mem_sdW _ _).1 (nth_mem i1),fun u hu hh=>?_⟩
    obtain ⟨j,hj,rfl⟩:=mem_nth ((mem_sdW l u).2 hu)
    have hlen:=hp_len hh
    rcases Nat.lt_trichotomy i j with q|q|q
    · rcases tp_iff.1 i2 j q hj with e|e
      · exact hp_eq hh (by omega)
      · rw [hh] at e; cases e
    · subst q; rfl
    · have:=(List.pairwise_iff_getElem.1 (sdW_srt l)) j i hj i1 q
      rw [nth_getElem,nth_getElem] at this
      have h2:=slx_take hh
      have:=slx_neg this
      omega
  · rintro ⟨h1,h2⟩
    obtain ⟨i,hi,rfl⟩:=mem_nth ((mem_sdW l w).2 h1)
    refine ⟨i,hi,tp_iff.2 fun j hij hj=>?_,rfl⟩
    by_cases e:hp (nth (sdW l) j) (nth (sdW l) i)=true
    · have:=h2 _ ((mem_sdW _ _).1 (nth_mem hj)) e
      exact .inl (by rw [this])
    · exact .inr (by simpa using e)
theorem lex_pre {a b:List Int} (h:hp b a=true):lexI a b≤0:=by
  obtain ⟨x,rfl⟩:=hp_iff.1 h
  have e:cmn a (a++x)=a.length:=by
    have:=cmn_app (p:=a) (x:=[]) (y:=x)
    rw [List.append_nil] at this
    rw [this]; simp [cmn]
  unfold lexI
  rw [e]
  simp
  try split <;> omega
theorem mx_eq (l : List (List Int)) : sdW (mxO (sdX l) (sdX l).length) = mxW l := by
  refine srtW_ext (sdW_srt _) (mxT_srt (Nat.le_refl _)) fun w=>?_
  rw [mem_sdW,mem_mxO]
  show _↔w∈mxW l
  rw [mem_mxW]
  have lt: ∀ {i j:Nat},i < j→j < (sdX l).length→lexI (nth (sdX l) i) (nth (sdX l) j) < 0:=fun h1 h2=>srtL_lt (sdX_srt l) h1 h2
  constructor
  · rintro ⟨i,i1,i2,rfl⟩
    refine ⟨mem_sdX.1 (nth_mem i1),fun u hu hh=>?_⟩
    obtain ⟨j,hj,rfl⟩:=mem_nth (mem_sdX.2 hu)
    rcases Nat.lt_trichotomy i j with q|q|q
    · exfalso
      unfold mxC at i2
      rw [Bool.or_eq_true,decide_eq_true_eq,Bool.not_eq_true'] at i2
      rcases i2 with e|e
      · omega
      · have h1:=lt (show i < i+1 by omega) (by omega)
        have hle:lexI (nth (sdX l) (i+1)) (nth (sdX l) j)≤0:=by
          by_cases ej:i+1=j
          · rw [ej,lexI_zero.2 rfl]; omega
          · have:=lt (show i+1 < j by omega) hj; omega
        have hb:=lex_between (Int.le_of_lt h1) hle
        have hc:cmn (nth (sdX l) i) (nth (sdX l) j)=(nth (sdX l) i).length:=by
          have:cmn (nth (sdX l) j) (nth (sdX l) i)=(nth (sdX l) i).length:=by simpa [hp] using hh
          rw [cmn_comm]; exact this
        have h3:=cmn_l (nth (sdX l) i) (nth (sdX l) (i+1))
        have:hp (nth (sdX l) (i+1)) (nth (sdX l) i)=true:=by
          unfold hp; rw [cmn_comm]; exact decide_eq_true (by omega)
        rw [this] at e; cases e
    · subst q; rfl
    · have h1:=lt q i1
      have h2:=lex_pre hh
      have:=lexI_neg h1
      omega
  · rintro ⟨h1,h2⟩
    obtain ⟨i,hi,rfl⟩:=mem_nth (mem_sdX.2 h1)
    refine ⟨i,hi,?_,rfl⟩
    unfold mxC
    rw [Bool.or_eq_true,decide_eq_true_eq,Bool.not_eq_true']
    by_cases e:i+1=(sdX l).length
    · exact .inl (by omega)
    · refine .inr ?_
      by_cases hh:hp (nth (sdX l) (i+1)) (nth (sdX l) i)=true
      · exfalso
        have hq:=h2 _ (mem_sdX.1 (nth_mem (show i+1 < (sdX l).length by omega))) hh
        have:=lt (show i < i+1 by omega) (by omega)
        rw [hq,lexI_zero.2 rfl] at this
        omega
      · simpa using hh
end Go.Proofs.YtilfohjlglefjaaGreat
namespace Go.Proofs.YtilfohjlglefjaaGreat
open Go
structure Ts where
  i:Int
  t:Dt
  deriving Inhabited
structure Xt where
  w:List Int
  n:Int
  deriving Inhabited
structure Spl where
  p:List Int
  a:Int
  x:List Int
  deriving Inhabited
abbrev cXt (e:Xt):List V:=[ints e.w,iV e.n]
theorem Ts.eq_iff {a b:Ts}:a=b↔a.i=b.i∧a.t=b.t:=by cases a; cases b; simp
instance:DecidableEq Ts:=fun _ _=>decidable_of_iff _ Ts.eq_iff.symm
@[simp] theorem pureLL_xts (l:List Xt):pureLL (l.map cXt)=true:=pureLL_map _ _ fun a=>by simp [cXt]
def lvs (t:Dt):List (List Int):=if dvE t=0 then sdW (acL t.nd) else []
def ex1 (i:Int) (p:List Int):List (List Int):=(List.range i.toNat).map fun (a:Nat)=>cat [p,[(a:Int)]]
def exs (l:Ts):List (List Int):=(lvs l.t).flatMap (ex1 l.i)
def bho (o:Ob) (w x:List Int):List Int:=((ans o (cat [w,x])).getD []).drop w.length
section
variable {l:Ts} {o:Ob}
variable {k:Nat}
end
end Go.Proofs.YtilfohjlglefjaaGreat
namespace Go.Proofs.YtilfohjlglefjaaGreat
open Go
def tbl {α:Type} (f:Nat→α) (n:Nat):List α:=(List.range n).map f
theorem tbl_len {α:Type} (f:Nat→α) (n:Nat):(tbl f n).length=n:=by simp [tbl]
theorem tbl_succ {α:Type} (f:Nat→α) (n:Nat):tbl f (n+1)=tbl f n++[f n]:=by simp [tbl,List.range_succ]
theorem tbl_nth {α:Type} [Inhabited α] {f:Nat→α} {n k:Nat} (h:k < n):nth (tbl f n) k=f k:=by
  unfold tbl
  rw [nth_map (by simpa using h)]
  congr 1
  rw [← nth_getElem (by simpa using h)]; simp
def plI (L:List (List Int)) (w:List Int):Int:=fi (fun j=>decide (nth L j=w)) 0 L.length
def hyA (l:Ts) (o:Ob) (k:Nat):List Int:=(nth l.t.nd (sftR l.t o (nth (exs l) k)).1.toNat).ac
def hyN (l:Ts) (o:Ob) (k:Nat):Int:=plI (lvs l.t) (hyA l o k)
def exI (l:Ts) (m:Nat):List Int:=(nth (exs l) m).take ((nth (exs l) m).length - 1)
def exL (l:Ts) (m:Nat):List Int:=(nth (exs l) m).drop ((nth (exs l) m).length - 1)
def hyO (l:Ts) (o:Ob) (m:Nat):Int:=nth (bho o (exI l m) (exL l m)) 0
def hyRow (f:Nat→Int) (i k:Nat):List Int:=tbl (fun a=>f (k*i+a)) i
def hyM (l:Ts) (o:Ob):M:=⟨l.i,0,tbl (hyRow (hyN l o) l.i.toNat) (lvs l.t).length,tbl (hyRow (hyO l o) l.i.toNat) (lvs l.t).length⟩
def hyH (l:Ts) (o:Ob):Hy:=⟨hyM l o,lvs l.t⟩
def zM:M:=⟨0,0,[],[]⟩
section
variable {l:Ts} {o:Ob}
end
theorem Hy.eq_iff {a b:Hy}:a=b↔a.m.i=b.m.i∧a.m.s=b.m.s∧a.m.nx=b.m.nx∧a.m.ot=b.m.ot∧a.acc=b.acc:=by
  rcases a with ⟨⟨a1,a2,a3,a4⟩,a5⟩; rcases b with ⟨⟨b1,b2,b3,b4⟩,b5⟩; simp [and_assoc]
theorem M.eq_iff {a b:M}:a=b↔a.i=b.i∧a.s=b.s∧a.nx=b.nx∧a.ot=b.ot:=by
  rcases a with ⟨a1,a2,a3,a4⟩; rcases b with ⟨b1,b2,b3,b4⟩; simp
instance:DecidableEq M:=fun _ _=>decidable_of_iff _ M.eq_iff.symm
instance:DecidableEq Hy:=fun _ _=>decidable_of_iff _ Hy.eq_iff.symm
end Go.Proofs.YtilfohjlglefjaaGreat
namespace Go.Proofs.YtilfohjlglefjaaGreat
open Go
abbrev Sg:=Int×Int
structure TM where
  i:Int
  tm:Int
  s:Int
  nx:List (List Int)
  ot:List (List Int)
  st:List (List Sg)
theorem TM.eq_iff {a b:TM}:a=b↔a.i=b.i∧a.tm=b.tm∧a.s=b.s∧a.nx=b.nx∧a.ot=b.ot∧a.st=b.st:=by
  cases a; cases b; simp
instance:DecidableEq TM:=fun _ _=>decidable_of_iff _ TM.eq_iff.symm
abbrev cSg (p:Sg):List V:=[iV p.1,iV p.2]
abbrev cSr (l:List Sg):List V:=[.sl (l.map cSg)]
@[simp] theorem canonLL_cSg {l:List Sg}:canonLL (l.map cSg)=true:=canonLL_map _ _ fun a=>by simp [cSg]
@[simp] theorem canonLL_cSr {l:List (List Sg)}:canonLL (l.map cSr)=true:=canonLL_map _ _ fun a=>by simp [cSr]
abbrev zTM:TM:=⟨0,0,0,[],[],[]⟩
@[simp] theorem pureLL_cB {l:List Bool}:pureLL (l.map cB)=true:=pureLL_map _ _ fun a=>by simp [cB]
@[simp] theorem canonLL_cB {l:List Bool}:canonLL (l.map cB)=true:=canonLL_map _ _ fun a=>by simp [cB]
attribute [simp] cB
@[simp] theorem pureLL_setB {l : List Bool} {i : Nat} {b : Bool} : pureLL ((l.map cB).set i [V.bool b]) = true := by
  have e:(l.map cB).set i [V.bool b]=(l.set i b).map cB:=by rw [List.map_set]; rfl
  rw [e]; exact pureLL_cB
def idL (l:List Int) (n:Int):Int:=fi (fun j=>decide (nth l j=n)) 0 l.length
def trm (m:M):M:=⟨m.i,0,(rch m).map fun s=>(nth m.nx s.toNat).map (idL (rch m)),(rch m).map fun s=>nth m.ot s.toNat⟩
theorem fi_spec {p:Nat→Bool}: ∀ {n k:Nat},0≤fi p k n→ ∃ j:Nat,fi p k n=j∧k≤j∧j < k+n∧p j=true∧ ∀ i,k≤i→i < j→p i=false
  |0,k,h=>by simp [fi] at h
  | n + 1, k, h => by
    unfold fi at h ⊢
    split
    · rename_i hp; exact ⟨k,rfl,Nat.le_refl _,by omega,hp,fun i h1 h2=>by omega⟩
    · rename_i hp
      rw [if_neg hp] at h
      obtain ⟨j,h1,h2,h3,h4,h5⟩:=fi_spec h
      refine ⟨j,h1,by omega,by omega,h4,fun i h6 h7=>?_⟩
      by_cases e:i=k
      · subst e; simpa using hp
      · exact h5 i (by omega) h7
theorem fi_some {p:Nat→Bool}: ∀ {n k j:Nat},k≤j→j < k+n→p j=true→0≤fi p k n
  |0,k,j,h1,h2,_=>by omega
  | n + 1, k, j, h1, h2, h3 => by
    unfold fi
    split
    · omega
    · rename_i hp
      by_cases e:j=k
      · subst e; exact (hp h3).elim
      · exact fi_some (show k+1≤j by omega) (by omega) h3
theorem idL_in {l:List Int} {n:Int} (h:n∈l):0≤idL l n∧idL l n < l.length∧nth l (idL l n).toNat=n:=by
  obtain ⟨j,hj,e⟩:=mem_nth h
  have h0:0≤idL l n:=fi_some (j:=j) (Nat.zero_le _) (by omega) (decide_eq_true e)
  obtain ⟨i,h1,_,h3,h4,_⟩:=fi_spec h0
  have h1':idL l n=i:=h1
  rw [h1']
  exact ⟨by omega,by omega,by simpa using h4⟩
theorem idL_nth {l:List Int} (hn:l.Nodup) {k:Nat} (hk:k < l.length):idL l (nth l k)=k:=by
  obtain ⟨h1,h2,h3⟩:=idL_in (nth_mem hk)
  have key: ∀ i:Nat,i < l.length→nth l i=nth l k→i=k:=fun i hi e=>by
    rw [← nth_getElem hi,← nth_getElem hk] at e
    rcases Nat.lt_trichotomy i k with q|q|q
    · exact absurd e (List.pairwise_iff_getElem.1 hn i k hi hk q)
    · exact q
    · exact absurd e.symm (List.pairwise_iff_getElem.1 hn k i hk hi q)
  have:=key _ (by omega) h3
  omega
theorem bfs_pre (m:M): ∀ (n k:Nat) (P:RS),∃ x,(bfsR m n k P).1=P.1++x
  |0,_,P=>⟨[],by rw [bfsR,List.append_nil]⟩
  | n + 1, k, P => by
    rw [bfsR]
    split
    · obtain ⟨x,hx⟩:=fold_grow (nth m.nx (nth P.1 k).toNat) P
      obtain ⟨y,hy⟩:=bfs_pre m n (k+1) (rowR m P k)
      exact ⟨x++y,by rw [hy,show (rowR m P k).1=P.1++x from hx,List.append_assoc]⟩
    · exact ⟨[],by rw [List.append_nil]⟩
theorem stp_keep {P Q:RS} {k:Nat} {a:Int} (h:nth Q.1 k=nth P.1 k∧P.1.length≤Q.1.length) (hk:k < P.1.length):nth (stpR Q a).1 k=nth P.1 k∧P.1.length≤(stpR Q a).1.length:=by
  unfold stpR
  split
  · exact h
  · exact ⟨by rw [nth_app_l (by omega)]; exact h.1,by simp only [List.length_append]; omega⟩
structure RcM (m:M):Prop where
  rng: ∀ k,k < (rch m).length→0≤nth (rch m) k∧nth (rch m) k < m.nx.length
  nd:(rch m).Nodup
  first:nth (rch m) 0=m.s
  pos:0 < (rch m).length
  len:(rch m).length≤m.nx.length
  clo: ∀ k,k < (rch m).length→ ∀ a∈nth m.nx (nth (rch m) k).toNat,a∈rch m
theorem rch_RC {m:M} (h:mval m=0):RcM m:=by
  obtain ⟨h1,h2,h3⟩:=bfs_spec h m.nx.length 0 (iniR m) (ini_RI h) (Nat.zero_le _) (by omega) (fun j hj=>by omega) (by simp [iniR])
  have e:rch m=(bfsR m m.nx.length 0 (iniR m)).1:=if_neg (by omega)
  obtain ⟨x,hx⟩:=bfs_pre m m.nx.length 0 (iniR m)
  have hx2:rch m=m.s::x:=by rw [e,hx]; rfl
  refine ⟨fun k hk=>?_,by rw [e]; exact h1.nd,by rw [hx2]; rfl,by rw [hx2]; simp,by rw [e]; exact h1.len,fun k hk=>?_⟩
  · exact h1.rng _ (e ▸ nth_mem hk)
  · rw [e] at hk ⊢; exact h2 k hk
def tNxA (m:M) (k a:Nat):Int:=idL (rch m) (nth (nth m.nx (nth (rch m) k).toNat) a)
def tOtA (m:M) (k a:Nat):Int:=nth (nth m.ot (nth (rch m) k).toNat) a
def tNx (m:M) (k:Nat):List Int:=tbl (tNxA m k) m.i.toNat
def tOt (m:M) (k:Nat):List Int:=tbl (tOtA m k) m.i.toNat
theorem trm_tbl {m:M} (h:mval m=0):trm m=⟨m.i,0,tbl (tNx m) (rch m).length,tbl (tOt m) (rch m).length⟩:=by
  have hc:=rch_RC h
  have mo:=mval_ok h
  unfold trm
  congr 1
  · refine nth_ext (by rw [tbl_len,List.length_map]) fun k hk=>?_
    rw [List.length_map] at hk
    have hr:=hc.rng k hk
    have g:=mo.2.2.2.2.2.2.2 (nth (rch m) k).toNat (by omega)
    rw [nth_map hk,tbl_nth hk]
    refine nth_ext (by rw [List.length_map,tNx,tbl_len]; omega) fun j hj=>?_
    rw [List.length_map] at hj
    rw [nth_map hj,tNx,tbl_nth (by omega)]; rfl
  · refine nth_ext (by rw [tbl_len,List.length_map]) fun k hk=>?_
    rw [List.length_map] at hk
    have hr:=hc.rng k hk
    have g:=mo.2.2.2.2.2.2.2 (nth (rch m) k).toNat (by omega)
    rw [nth_map hk,tbl_nth hk]
    refine nth_ext (by rw [tOt,tbl_len]; omega) fun j hj=>?_
    rw [tOt,tbl_nth (by omega)]; rfl
def tblP {α:Type} (f:Nat→α) (z:α) (n j:Nat):List α:=(List.range n).map fun a=>if a < j then f a else z
section
variable {α:Type} {f:Nat→α} {z:α} {n j:Nat}
theorem tblP_len:(tblP f z n j).length=n:=by simp [tblP]
theorem tblP_0:List.replicate n z=tblP f z n 0:=by
  refine List.ext_getElem (by simp [tblP]) fun k h1 h2=>?_
  simp [tblP]
theorem tblP_go (hj:j < n):(tblP f z n j).set j (f j)=tblP f z n (j+1):=by
  refine List.ext_getElem (by simp [tblP]) fun k h1 h2=>?_
  rw [List.getElem_set]
  simp only [tblP,List.getElem_map,List.getElem_range]
  by_cases e:j=k
  · subst e; rw [if_pos rfl,if_pos (by omega)]
  · rw [if_neg e]
    by_cases c:k < j
    · rw [if_pos c,if_pos (by omega)]
    · rw [if_neg c,if_neg (by omega)]
theorem tblP_end (hj:n≤j):tblP f z n j=tbl f n:=by
  unfold tblP tbl
  refine List.map_congr_left fun x hx=>?_
  rw [if_pos (by have:=List.mem_range.1 hx; omega)]
end
theorem RcM.inj {m:M} (h:RcM m) {i j:Nat} (hi:i < (rch m).length) (hj:j < (rch m).length) (e:nth (rch m) i=nth (rch m) j):i=j:=by
  have h1:=idL_nth h.nd hi
  have h2:=idL_nth h.nd hj
  rw [e] at h1
  omega
theorem num_next {m:M} (h:RcM m) {k:Nat} {N:List Int} (hk:k < (rch m).length) (hN:N.length=m.nx.length) (hP: ∀ j,j < k→nth N (nth (rch m) j).toNat=(j:Int)): ∀ j,j < k+1→nth (N.set (nth (rch m) k).toNat ((k:Nat):Int)) (nth (rch m) j).toNat=(j:Int):=fun j hj=>by
  have r1:=h.rng k hk
  have r2:=h.rng j (by omega)
  rw [nth_set (by omega)]
  by_cases e:j=k
  · subst e; rw [if_pos rfl]
  · rw [if_neg fun q=>e (h.inj (by omega) hk (by omega)),hP j (by omega)]
theorem num_all {m:M} (h:RcM m) {N:List Int} (hP: ∀ j,j < (rch m).length→nth N (nth (rch m) j).toNat=(j:Int)): ∀ a∈rch m,nth N a.toNat=idL (rch m) a:=fun a ha=>by
  obtain ⟨j,hj,rfl⟩:=mem_nth ha
  rw [hP j hj,idL_nth h.nd hj]
theorem tOt_row {m:M} (h:mval m=0) {k:Nat} (hk:k < (rch m).length):tOt m k=nth m.ot (nth (rch m) k).toNat:=by
  have hr:=(rch_RC h).rng k hk
  have g:=(mval_ok h).2.2.2.2.2.2.2 (nth (rch m) k).toNat (by omega)
  refine nth_ext (by rw [tOt,tbl_len]; omega) fun j hj=>?_
  rw [tOt,tbl_len] at hj
  rw [tOt,tbl_nth hj]; rfl
def MOK (m:M):Prop:=1≤m.i∧m.i≤64∧0 < m.nx.length∧m.nx.length≤128∧m.ot.length=m.nx.length∧
  (∀ s,s < m.nx.length→((nth m.nx s).length:Int)=m.i∧((nth m.ot s).length:Int)=m.i∧ ∀ a:Nat,a < m.i→0≤nth (nth m.nx s) a∧nth (nth m.nx s) a < m.nx.length∧0≤nth (nth m.ot s) a∧nth (nth m.ot s) a≤1048576)
theorem trm_ok {m:M} (h:mval m=0):MOK (trm m):=by
  have hc:=rch_RC h
  have mo:=mval_ok h
  have e:=trm_tbl h
  have en:(trm m).nx.length=(rch m).length:=List.length_map ..
  have eo:(trm m).ot.length=(rch m).length:=List.length_map ..
  refine ⟨mo.1,mo.2.1,by rw [en]; exact hc.pos,by rw [en]; have:=hc.len; omega,by rw [en,eo],fun s hs=>?_⟩
  rw [en] at hs ⊢
  have hr:=hc.rng s hs
  obtain ⟨g1,g2,g3⟩:=mo.2.2.2.2.2.2.2 (nth (rch m) s).toNat (by omega)
  have h1:nth (trm m).nx s=(nth m.nx (nth (rch m) s).toNat).map (idL (rch m)):=nth_map hs
  have h2:nth (trm m).ot s=nth m.ot (nth (rch m) s).toNat:=nth_map hs
  refine ⟨by rw [h1,List.length_map]; exact g1,by rw [h2]; exact g2,fun a ha=>?_⟩
  have ha':(a:Int) < m.i:=ha
  have hin:=hc.clo s hs _ (nth_mem (show a < (nth m.nx (nth (rch m) s).toNat).length by omega))
  obtain ⟨q1,q2,q3⟩:=idL_in hin
  rw [h1,h2,nth_map (by omega)]
  have:=g3 a ha'
  exact ⟨q1,q2,this.2.2.1,this.2.2.2⟩
def trR (m:M):M:=if mval m=0 then trm m else zM
theorem emod_rng {a k:Int} (h:0≤a∧a < 1048576) (hk:0 < k):0≤a % k∧a % k≤1048576:=by
  have h1:=Int.emod_nonneg a (show k≠0 by omega)
  have h2:=Int.ediv_nonneg h.1 (show 0≤k by omega)
  have h3:=Int.mul_nonneg (show 0≤k by omega) h2
  have h4:=Int.mul_ediv_add_emod a k
  omega
def sgK (tm:Int):Int:=1+tm*1001
def sgC (c:Int):Sg:=if c=0 then (-1,0) else ((c - 1) / 1001,(c - 1) % 1001)
def oVl (tm o:Int):Int:=if 0 < o then (o - 1) / sgK tm else 0
def oCd (tm o:Int):Int:=if 0 < o then (o - 1) % sgK tm else 0
def oSg (tm o:Int):Sg:=sgC (oCd tm o)
def runB (m:M) (inp:Int) (s x:Nat):Bool:=decide (nth (nth m.ot s) (inp+(x:Int)).toNat≠0)
def run0 (m:M) (inp:Int) (s i x:Nat):Bool:=runB m inp s x&&decide ((i:Int)≠inp+x)
def prpX (m:M) (inp:Int) (y:Sg) (s t i x:Nat):Bool:=
  if y.1=x then !(decide (y.2=0)&& !(run0 m inp s i x))&&decide (runB m inp t x=decide (0 < y.2)) else decide (runB m inp t x=run0 m inp s i x)
def prp (m:M) (inp tm:Int) (s i:Nat):Bool:=
  if nth (nth m.ot s) i=0 then decide (inp≤i)&&decide (nth (nth m.nx s) i=s)
  else (List.range tm.toNat).all (prpX m inp (oSg tm (nth (nth m.ot s) i)) s (nth (nth m.nx s) i).toNat i)
def stpB (m:M) (inp tm:Int) (s:Nat):Bool:=(List.range tm.toNat).all fun x=> !(runB m inp s x)
def rowB (m:M) (inp tm:Int) (s:Nat):Bool:=(List.range m.i.toNat).all (prp m inp tm s)
def vldP (n:M) (inp tm:Int):Bool:=stpB n inp tm 0&&(List.range n.nx.length).all (rowB n inp tm)
def vldR (m:M) (inp tm:Int):Bool:=stpB m inp tm m.s.toNat&&(List.range (rch m).length).all fun k=>rowB m inp tm (nth (rch m) k).toNat
theorem all_rng {n:Nat} {p:Nat→Bool}:(List.range n).all p=true↔ ∀ k,k < n→p k=true:=by simp
theorem all_rngF {n:Nat} {p:Nat→Bool} {k:Nat} (hk:k < n) (h:p k=false):(List.range n).all p=false:=by
  cases e:(List.range n).all p with
  |false=>rfl
  |true=>rw [all_rng] at e; rw [e k hk] at h; cases h
theorem all_congr {n:Nat} {p q:Nat→Bool} (h: ∀ k,k < n→p k=q k):(List.range n).all p=(List.range n).all q:=by
  rw [Bool.eq_iff_iff,all_rng,all_rng]
  exact ⟨fun g k hk=>by rw [← h k hk]; exact g k hk,fun g k hk=>by rw [h k hk]; exact g k hk⟩
theorem trm_ot {m:M} {k:Nat} (hk:k < (rch m).length):nth (trm m).ot k=nth m.ot (nth (rch m) k).toNat:=nth_map hk
theorem trm_nx {m:M} {k i:Nat} (hk:k < (rch m).length) (hi:i < (nth m.nx (nth (rch m) k).toNat).length):nth (nth (trm m).nx k) i=idL (rch m) (nth (nth m.nx (nth (rch m) k).toNat) i):=by
  rw [show nth (trm m).nx k=(nth m.nx (nth (rch m) k).toNat).map (idL (rch m)) from nth_map hk,nth_map hi]
theorem run_trm {m:M} {inp:Int} {k:Nat} (hk:k < (rch m).length) (x:Nat):runB (trm m) inp k x=runB m inp (nth (rch m) k).toNat x:=by
  unfold runB; rw [trm_ot hk]
theorem prp_trm {m:M} (h:mval m=0) {inp tm:Int} {k i:Nat} (hk:k < (rch m).length) (hi:i < m.i.toNat):prp (trm m) inp tm k i=prp m inp tm (nth (rch m) k).toNat i:=by
  have hc:=rch_RC h
  have hr:=hc.rng k hk
  obtain ⟨g1,_,g3⟩:=(mval_ok h).2.2.2.2.2.2.2 (nth (rch m) k).toNat (by omega)
  have hi2:i < (nth m.nx (nth (rch m) k).toNat).length:=by omega
  have hin:=hc.clo k hk _ (nth_mem hi2)
  obtain ⟨q1,q2,q3⟩:=idL_in hin
  have g4:=(g3 i (by omega)).1
  unfold prp
  rw [trm_ot hk,trm_nx hk hi2]
  split
  · congr 1
    refine decide_eq_decide.2 ⟨fun e=>?_,fun e=>?_⟩
    · rw [← q3,e]; simp only [Int.toNat_natCast]; omega
    · have:nth (nth m.nx (nth (rch m) k).toNat) i=nth (rch m) k:=by omega
      rw [this]; exact idL_nth hc.nd hk
  · refine all_congr fun x _=>?_
    unfold prpX run0
    rw [run_trm hk,run_trm (by omega),q3]
theorem vld_eq {m:M} (h:mval m=0) (inp tm:Int):vldP (trm m) inp tm=vldR m inp tm:=by
  have hc:=rch_RC h
  unfold vldP vldR
  congr 1
  · refine all_congr fun x _=>?_
    rw [run_trm hc.pos,hc.first]
  · rw [show (trm m).nx.length=(rch m).length from List.length_map ..]
    exact all_congr fun k hk=>all_congr fun i hi=>prp_trm h hk hi
theorem bne_t {a b:Bool} (h:(a != b)=true):a≠b:=by simpa using h
theorem bne_f {a b:Bool} (h:(a != b)=false):a=b:=by simpa using h
section
variable {m:M} {inp tm:Int} {y:Sg} {s t i x:Nat}
end
section
variable {m:M} {inp tm:Int}
theorem vldP_f1 {x:Nat} (hx:x < tm.toNat) (h:runB m inp 0 x=true):vldP m inp tm=false:=by
  unfold vldP stpB
  rw [all_rngF hx (by rw [h]; rfl),Bool.false_and]
theorem vldP_f2 {k i:Nat} (hk:k < m.nx.length) (hi:i < m.i.toNat) (h:prp m inp tm k i=false):vldP m inp tm=false:=by
  unfold vldP
  rw [all_rngF hk (all_rngF hi h),Bool.and_false]
theorem vldP_t (h:stpB m inp tm 0=true) (h2: ∀ j,j < m.nx.length→rowB m inp tm j=true):vldP m inp tm=true:=by
  unfold vldP
  rw [h,all_rng.2 h2]; rfl
end
def rnL (m:M) (inp tm:Int) (s:Nat):List Bool:=(List.range tm.toNat).map (runB m inp s)
def rnP (m:M) (inp tm:Int) (s k:Nat):List Bool:=(List.range tm.toNat).map fun x=>if x < k then runB m inp s x else false
def rn1 (m:M) (inp tm:Int) (s i:Nat):List Bool:=(List.range tm.toNat).map (run0 m inp s i)
section
variable {m:M} {inp tm:Int} {s i k:Nat}
theorem rnP_len:(rnP m inp tm s k).length=tm.toNat:=by simp [rnP]
theorem rnL_len:(rnL m inp tm s).length=tm.toNat:=by simp [rnL]
theorem rn1_len:(rn1 m inp tm s i).length=tm.toNat:=by simp [rn1]
theorem rnP_0:List.replicate tm.toNat false=rnP m inp tm s 0:=by
  refine List.ext_getElem (by simp [rnP]) fun k h1 h2=>?_
  simp [rnP]
theorem rnP_go (hk:k < tm.toNat):(rnP m inp tm s k).set k (runB m inp s k)=rnP m inp tm s (k+1):=by
  refine List.ext_getElem (by simp [rnP]) fun j h1 h2=>?_
  rw [List.getElem_set]
  simp only [rnP,List.getElem_map,List.getElem_range]
  by_cases e:k=j
  · subst e; rw [if_pos rfl,if_pos (by omega)]
  · rw [if_neg e]
    by_cases c:j < k
    · rw [if_pos c,if_pos (by omega)]
    · rw [if_neg c,if_neg (by omega)]
theorem rnP_end (hk:tm.toNat≤k):rnP m inp tm s k=rnL m inp tm s:=by
  unfold rnP rnL
  refine List.map_congr_left fun x hx=>?_
  rw [if_pos (by have:=List.mem_range.1 hx; omega)]
theorem rnL_nth (hk:k < tm.toNat):nth (rnL m inp tm s) k=runB m inp s k:=by
  unfold rnL
  rw [nth_map (by simpa using hk),← nth_getElem (by simpa using hk),List.getElem_range]
theorem rn1_nth (hk:k < tm.toNat):nth (rn1 m inp tm s i) k=run0 m inp s i k:=by
  unfold rn1
  rw [nth_map (by simpa using hk),← nth_getElem (by simpa using hk),List.getElem_range]
theorem rn1_lo (h:(i:Int) < inp):rnL m inp tm s=rn1 m inp tm s i:=by
  unfold rnL rn1
  refine List.map_congr_left fun x _=>?_
  unfold run0
  rw [decide_eq_true (by omega),Bool.and_true]
theorem rn1_hi (h0:inp≤i) (h:(i:Int) < inp+tm):(rnL m inp tm s).set ((i:Int) - inp).toNat false=rn1 m inp tm s i:=by
  refine nth_ext (by simp [rnL,rn1]) fun j hj=>?_
  have hj':j < tm.toNat:=by simpa [rnL] using hj
  rw [nth_set (by rw [rnL_len]; omega),rn1_nth hj',rnL_nth hj']
  unfold run0
  by_cases e:((i:Int) - inp).toNat=j
  · rw [if_pos e,decide_eq_false (by omega),Bool.and_false]
  · rw [if_neg e,decide_eq_true (by omega),Bool.and_true]
theorem rn_eq {l:List Bool} {t:Nat} (hl:l.length=tm.toNat):decide (l=rnL m inp tm t)=(List.range tm.toNat).all fun x=>decide (runB m inp t x=nth l x):=by
  rw [Bool.eq_iff_iff,decide_eq_true_eq,all_rng]
  constructor
  · intro e x hx
    rw [e,rnL_nth hx]; exact decide_eq_true rfl
  · intro h
    refine nth_ext (by rw [hl,rnL_len]) fun j hj=>?_
    rw [rnL_nth (by omega)]
    exact (of_decide_eq_true (h j (by omega))).symm
theorem stp_of (h: ¬0≤fi (fun j=>true==nth (rnL m inp tm 0) j) 0 (rnL m inp tm 0).length):stpB m inp tm 0=true:=all_rng.2 fun x hx=>by
  cases e:runB m inp 0 x with
  |false=>rfl
  |true=>exact absurd (fi_some (p:=fun j=>true==nth (rnL m inp tm 0) j) (Nat.zero_le x) (by rw [rnL_len]; omega) (by rw [rnL_nth hx,e]; rfl)) h
theorem vldP_st (h:0≤fi (fun j=>true==nth (rnL m inp tm 0) j) 0 (rnL m inp tm 0).length):vldP m inp tm=false:=by
  obtain ⟨j,_,_,h3,h4,_⟩:=fi_spec h
  rw [rnL_len] at h3
  refine vldP_f1 (x:=j) (by omega) ?_
  rw [rnL_nth (by omega)] at h4
  exact (eq_of_beq h4).symm
theorem oSg_rng (ht:0≤tm) {o:Int} (h:0 < oCd tm o):0≤(oSg tm o).1∧(oSg tm o).1 < tm∧0≤(oSg tm o).2∧(oSg tm o).2 < 1001:=by
  unfold oSg sgC
  rw [if_neg (by omega)]
  have h2:oCd tm o < sgK tm:=by
    unfold oCd at h ⊢
    split
    · exact Int.emod_lt_of_pos _ (by unfold sgK; omega)
    · unfold sgK; omega
  unfold sgK at h2
  simp only
  omega
theorem prp_c0 (ho:nth (nth m.ot s) i≠0) (hc:oCd tm (nth (nth m.ot s) i)=0):prp m inp tm s i=decide (rn1 m inp tm s i=rnL m inp tm (nth (nth m.nx s) i).toNat):=by
  unfold prp
  rw [if_neg ho,rn_eq rn1_len]
  refine all_congr fun x hx=>?_
  unfold prpX
  rw [if_neg (by unfold oSg sgC; rw [if_pos hc]; simp only; omega),rn1_nth hx]
theorem prp_no (ht:0≤tm) (ho:nth (nth m.ot s) i≠0) (hc:0 < oCd tm (nth (nth m.ot s) i)) (h1:(oSg tm (nth (nth m.ot s) i)).2=0) (h2:nth (rn1 m inp tm s i) (oSg tm (nth (nth m.ot s) i)).1.toNat=false):prp m inp tm s i=false:=by
  obtain ⟨r1,r2,r3,r4⟩:=oSg_rng ht hc
  unfold prp
  rw [if_neg ho]
  refine all_rngF (k:=(oSg tm (nth (nth m.ot s) i)).1.toNat) (by omega) ?_
  rw [rn1_nth (by omega)] at h2
  unfold prpX
  rw [if_pos (by omega),h1,h2]
  simp
theorem prp_c (ht : 0 ≤ tm) (ho : nth (nth m.ot s) i ≠ 0) (hc : 0 < oCd tm (nth (nth m.ot s) i)) (h : ¬((oSg tm (nth (nth m.ot s) i)).2 = 0 ∧ nth (rn1 m inp tm s i) (oSg tm (nth (nth m.ot s) i)).1.toNat = false)) :
    prp m inp tm s i=decide ((rn1 m inp tm s i).set (oSg tm (nth (nth m.ot s) i)).1.toNat (decide (0 < (oSg tm (nth (nth m.ot s) i)).2))=rnL m inp tm (nth (nth m.nx s) i).toNat):=by
  obtain ⟨r1,r2,r3,r4⟩:=oSg_rng ht hc
  unfold prp
  rw [if_neg ho,rn_eq (by rw [List.length_set,rn1_len])]
  refine all_congr fun x hx=>?_
  rw [nth_set (by rw [rn1_len]; omega),rn1_nth hx]
  unfold prpX
  by_cases e:(oSg tm (nth (nth m.ot s) i)).1=x
  · rw [if_pos e, if_pos (by omega)]
    have hx2:nth (rn1 m inp tm s i) (oSg tm (nth (nth m.ot s) i)).1.toNat=run0 m inp s i x:=by rw [show (oSg tm (nth (nth m.ot s) i)).1.toNat=x by omega,rn1_nth hx]
    rw [hx2] at h
    have:(!(decide ((oSg tm (nth (nth m.ot s) i)).2=0)&& !(run0 m inp s i x)))=true:=by
      rw [Bool.not_eq_true',Bool.and_eq_false_iff]
      by_cases e2:(oSg tm (nth (nth m.ot s) i)).2=0
      · right
        cases hr:run0 m inp s i x with
        |true=>rfl
        |false=>exact absurd ⟨e2,hr⟩ h
      · left; exact decide_eq_false e2
    rw [this,Bool.true_and]
  · rw [if_neg e,if_neg (by omega)]
end
def rbE (m:M) (inp tm:Int):Int:=
  if mval m≠0 then mval m else if inp < 1∨64 < inp∨tm < 0∨4 < tm then 2 else if m.i≠inp+tm then 15 else if vldR m inp tm=false then 1 else 0
def rbM (n:M) (inp tm:Int):TM:=⟨inp,tm,0,n.nx,n.ot.map fun l=>l.map (oVl tm),n.ot.map fun l=>l.map (oSg tm)⟩
def rbT (m:M) (inp tm:Int):TM:=if rbE m inp tm=0 then rbM (trm m) inp tm else zTM
def tgr (m:M):Bool:=decide (30 < m.nx.length∨30 < m.ot.length∨8 < m.i)
def rbVA (n:M) (tm:Int) (k a:Nat):Int:=oVl tm (nth (nth n.ot k) a)
def rbSA (n:M) (tm:Int) (k a:Nat):Sg:=oSg tm (nth (nth n.ot k) a)
def rbV (n:M) (tm:Int) (k:Nat):List Int:=tbl (rbVA n tm k) (nth n.ot k).length
def rbS (n:M) (tm:Int) (k:Nat):List Sg:=tbl (rbSA n tm k) (nth n.ot k).length
theorem rbM_tbl (n:M) (inp tm:Int):rbM n inp tm=⟨inp,tm,0,n.nx,tbl (rbV n tm) n.ot.length,tbl (rbS n tm) n.ot.length⟩:=by
  unfold rbM
  congr 1
  · refine nth_ext (by rw [tbl_len,List.length_map]) fun k hk=>?_
    rw [List.length_map] at hk
    rw [nth_map hk,tbl_nth hk]
    refine nth_ext (by rw [List.length_map,rbV,tbl_len]) fun j hj=>?_
    rw [List.length_map] at hj
    rw [nth_map hj,rbV,tbl_nth hj]; rfl
  · refine nth_ext (by rw [tbl_len,List.length_map]) fun k hk=>?_
    rw [List.length_map] at hk
    rw [nth_map hk,tbl_nth hk]
    refine nth_ext (by rw [List.length_map,rbS,tbl_len]) fun j hj=>?_
    rw [List.length_map] at hj
    rw [nth_map hj,rbS,tbl_nth hj]; rfl
section
variable {m:M} {inp tm:Int}
theorem trR_ok (h:mval m=0):trR m=trm m:=if_pos h
theorem rbE_1 (h:mval m≠0):rbE m inp tm=mval m:=if_pos h
theorem rbE_2 (h: ¬mval m≠0) (h2:inp < 1∨64 < inp∨tm < 0∨4 < tm):rbE m inp tm=2:=by unfold rbE; rw [if_neg h,if_pos h2]
theorem rbE_3 (h: ¬mval m≠0) (h2: ¬(inp < 1∨64 < inp∨tm < 0∨4 < tm)) (h3:m.i≠inp+tm):rbE m inp tm=15:=by unfold rbE; rw [if_neg h,if_neg h2,if_pos h3]
theorem rbE_4 (h: ¬mval m≠0) (h2: ¬(inp < 1∨64 < inp∨tm < 0∨4 < tm)) (h3: ¬m.i≠inp+tm) (h4:vldR m inp tm=false):rbE m inp tm=1:=by unfold rbE; rw [if_neg h,if_neg h2,if_neg h3,if_pos h4]
theorem rbE_5 (h: ¬mval m≠0) (h2: ¬(inp < 1∨64 < inp∨tm < 0∨4 < tm)) (h3: ¬m.i≠inp+tm) (h4:vldR m inp tm=true):rbE m inp tm=0:=by unfold rbE; rw [if_neg h,if_neg h2,if_neg h3,if_neg (by rw [h4]; decide)]
theorem rbT_no (h:rbE m inp tm≠0):rbT m inp tm=zTM:=if_neg h
theorem rbT_yes (hm:mval m=0) (h:rbE m inp tm=0):rbT m inp tm=rbM (trR m) inp tm:=by rw [trR_ok hm]; exact if_pos h
theorem oCd_rng {o:Int} (ht:0≤tm) (h:0≤o∧o≤1048576):0≤oCd tm o∧oCd tm o≤1048576:=by
  unfold oCd
  split
  · exact emod_rng (by omega) (by unfold sgK; omega)
  · omega
theorem oVl_yes {o:Int} (h:0 < o):(o - 1) / (1+tm*1001)=oVl tm o∧(o - 1) % (1+tm*1001)=oCd tm o:=⟨(if_pos h).symm,(if_pos h).symm⟩
theorem oVl_no {o:Int} (h: ¬0 < o):(0:Int)=oVl tm o∧(0:Int)=oCd tm o:=⟨(if_neg h).symm,(if_neg h).symm⟩
end
end Go.Proofs.YtilfohjlglefjaaGreat
namespace Go.Proofs.YtilfohjlglefjaaGreat
open Go Go.Proofs
theorem great42_pure (m:M):PureC Tryz.prog 9 [(V.agg [(iV (m.i)),(iV (m.s)),(intss m.nx),(intss m.ot)])] (V.bool (tgr m)):=by
 refine pW Tryz.func9 s9_ok fun hB=>?_
 unfold s9
 dsimp only
 refine W_r (R_box (i:=1) (n:=0) (m:=4) (cs:=[(iV (m.i)),(iV (m.s)),(intss m.nx),(intss m.ot)]) rfl (congrArg Blk.ver rfl) rfl rfl rfl (R_mv rfl (R_e (W_r (R_fk rfl rfl (R_lk rfl rfl rfl rfl (R_len rfl ?_)))))))
 refine R_gtr rfl rfl (R_mv rfl ?_)
 refine Ops_seg 5 (fun T H=>T 1=(V.mp 1 1 0 0)∧T 12=(V.bool (decide (((30:Int) < ((m.nx.length:Nat):Int))∨((30:Int) < ((m.ot.length:Nat):Int)))))∧H 1=(bk 1 24 4 [[(iV (m.i)),(iV (m.s)),(intss m.nx),(intss m.ot)]])∧True) ?_ ?_
 ·
  by_cases g1:(30:Int) < ((m.nx.length:Nat):Int)
  ·
   refine G_n (edT g1 rfl) (G_n (edT g1 rfl) (G_n (edT g1 rfl) (G_n (edT g1 rfl) (R_pickT (edT g1 rfl) rfl ?_))))
   exact ⟨rfl,(dec_orT g1),rfl,trivial⟩
  ·
   refine G_yes (edF g1 rfl) (R_fk rfl rfl (G_yes (edF g1 rfl) (R_lk rfl rfl rfl rfl (G_yes (edF g1 rfl) (R_len rfl (G_yes (edF g1 rfl) (R_gtr rfl rfl ?_)))))))
   refine R_pickF (edF g1 rfl) rfl ?_
   exact ⟨rfl,(dec_orF g1),rfl,trivial⟩
 intro T H ⟨t1,t12,h1,_⟩
 refine R_mv t12 ?_
 refine Ops_seg 4 (fun T H=>T 17=(V.bool (decide ((((30:Int) < ((m.nx.length:Nat):Int))∨((30:Int) < ((m.ot.length:Nat):Int)))∨((8:Int) < (m.i)))))∧H 1=(bk 1 24 4 [[(iV (m.i)),(iV (m.s)),(intss m.nx),(intss m.ot)]])∧True) ?_ ?_
 ·
  by_cases g2:((30:Int) < ((m.nx.length:Nat):Int))∨((30:Int) < ((m.ot.length:Nat):Int))
  ·
   refine G_n (edT g2 rfl) (G_n (edT g2 rfl) (G_n (edT g2 rfl) (R_pickT (edT g2 rfl) rfl ?_)))
   exact ⟨(dec_orT g2),h1,trivial⟩
  ·
   refine G_yes (edF g2 rfl) (R_fk t1 h1 (G_yes (edF g2 rfl) (R_lk rfl h1 rfl rfl (G_yes (edF g2 rfl) (R_gtr rfl rfl (R_pickF (edF g2 rfl) rfl ?_))))))
   exact ⟨(dec_orF g2),h1,trivial⟩
 intro T H ⟨t17,h1,_⟩
 refine R_mv t17 (R_e (W_ret ?_))
 refine Ret_1 (@rfl V (V.bool (decide ((((30:Int) < ((m.nx.length:Nat):Int))∨((30:Int) < ((m.ot.length:Nat):Int)))∨((8:Int) < (m.i)))))) (fz_bool ?_)
 · unfold tgr; exact decide_eq_decide.2 (by omega)
end Go.Proofs.YtilfohjlglefjaaGreat
namespace Go.Proofs.YtilfohjlglefjaaGreat
open Go
inductive TT where
  |lf (v:V)
  |nd (l r:TT)
noncomputable def TT.get (t:TT):Nat→V:=TT.rec (motive:=fun _=>Nat→V) (fun v _=>v) (fun _ _ gl gr i=>cond (Nat.beq (i % 2) 0) (gl (i / 2)) (gr (i / 2))) t
theorem TT.get_nd (l r:TT) (i:Nat):(TT.nd l r).get i=cond (Nat.beq (i % 2) 0) (l.get (i / 2)) (r.get (i / 2)):=rfl
noncomputable def TT.put (t:TT):Nat→V→TT:=TT.rec (motive:=fun _=>Nat→V→TT) (fun _ _ v=>.lf v) (fun l r gl gr i v=>cond (Nat.beq (i % 2) 0) (.nd (gl (i / 2) v) r) (.nd l (gr (i / 2) v))) t
theorem TT.put_nd (l r:TT) (i:Nat) (v:V):(TT.nd l r).put i v=cond (Nat.beq (i % 2) 0) (.nd (l.put (i / 2) v) r) (.nd l (r.put (i / 2) v)):=rfl
noncomputable def TT.map (f:V→V) (t:TT):TT:=TT.rec (motive:=fun _=>TT) (fun v=>.lf (f v)) (fun _ _ gl gr=>.nd gl gr) t
theorem TT.map_nd (f:V→V) (l r:TT):(TT.nd l r).map f=.nd (l.map f) (r.map f):=rfl
def TT.full (v:V):Nat→TT
  |0=>.lf v
  |n+1=>.nd (full v n) (full v n)
def TT.Dp:Nat→TT→Prop
  |0,.lf _=>True
  |n+1,.nd l r=>l.Dp n∧r.Dp n
  |_,_=>False
noncomputable def getT (t:TT):Nat→V:=fun i=>cond (Nat.ble 512 i) undefV (t.get i)
theorem TT.get_put : ∀ {d : Nat} {t : TT} {i j : Nat} {v : V}, t.Dp d → i < 2 ^ d → j < 2 ^ d → (t.put i v).get j = if j = i then v else t.get j
  | 0, .lf _, i, j, v, _, hi, hj => by
    rw [if_pos (by simp at hi hj; omega)]; rfl
  | d + 1, .nd l r, i, j, v, h, hi, hj => by
    rw [Nat.pow_succ] at hi hj
    simp only [TT.put_nd]
    cases hb:Nat.beq (i % 2) 0 with
    | true =>
      have e1:=Nat.eq_of_beq_eq_true hb
      simp only [cond_true,TT.get_nd]
      cases hc:Nat.beq (j % 2) 0 with
      | true =>
        have e2:=Nat.eq_of_beq_eq_true hc
        simp only [cond_true]
        rw [TT.get_put h.1 (by omega) (by omega)]
        by_cases e:j=i
        · rw [if_pos (by omega),if_pos e]
        · rw [if_neg (by omega),if_neg e]
      | false =>
        have e2:=Nat.ne_of_beq_eq_false hc
        simp only [cond_false]
        rw [if_neg (by intro e; rw [e] at e2; omega)]
    | false =>
      have e1:=Nat.ne_of_beq_eq_false hb
      simp only [cond_false,TT.get_nd]
      cases hc:Nat.beq (j % 2) 0 with
      | false =>
        have e2:=Nat.ne_of_beq_eq_false hc
        simp only [cond_false]
        rw [TT.get_put h.2 (by omega) (by omega)]
        by_cases e:j=i
        · rw [if_pos (by omega),if_pos e]
        · rw [if_neg (by omega),if_neg e]
      | true =>
        have e2:=Nat.eq_of_beq_eq_true hc
        simp only [cond_true]
        rw [if_neg (by intro e; rw [e] at e2; omega)]
theorem TT.put_dp: ∀ {d:Nat} {t:TT} {i:Nat} {v:V},t.Dp d→(t.put i v).Dp d
  |0,.lf _,_,_,_=>trivial
  | d + 1, .nd l r, i, v, h => by
    simp only [TT.put_nd]
    cases Nat.beq (i % 2) 0
    · exact ⟨h.1,TT.put_dp h.2⟩
    · exact ⟨TT.put_dp h.1,h.2⟩
theorem TT.map_dp {f:V→V}: ∀ {d:Nat} {t:TT},t.Dp d→(t.map f).Dp d
  |0,.lf _,_=>trivial
  |d+1,.nd l r,h=>⟨TT.map_dp h.1,TT.map_dp h.2⟩
theorem TT.full_dp {v:V}: ∀ {d:Nat},(TT.full v d).Dp d
  |0=>trivial
  |d+1=>⟨TT.full_dp,TT.full_dp⟩
theorem TT.full_get {v:V}: ∀ {d i:Nat},(TT.full v d).get i=v
  |0,_=>rfl
  | d + 1, i => by
    simp only [TT.full,TT.get_nd]
    cases Nat.beq (i % 2) 0 <;> exact TT.full_get
theorem TT.map_get {f:V→V}: ∀ {t:TT} {i:Nat},(t.map f).get i=f (t.get i)
  | .lf _,_=>rfl
  | .nd l r, i => by
    simp only [TT.map_nd,TT.get_nd]
    cases Nat.beq (i % 2) 0 <;> exact TT.map_get
theorem ble_iff {n i:Nat}:Nat.ble n i=false↔i < n:=by
  rw [← Bool.not_eq_true,Nat.ble_eq]; omega
theorem getT_put {t:TT} (h:t.Dp 9) {i:Nat} (hi:Nat.ble 512 i=false) (v:V):getT (t.put i v)=upd (getT t) i v:=by
  have hi':=ble_iff.1 hi
  funext j
  unfold getT
  rw [upd_apply]
  cases hj:Nat.ble 512 j with
  | true =>
    rw [Nat.ble_eq] at hj
    rw [if_neg (by omega)]; rfl
  | false =>
    have hj':=ble_iff.1 hj
    simp only [cond_false]
    exact TT.get_put h hi' hj'
def fzS1 (id:Nat) (H:Heap) (v:V):V:=match v with
  | .ms j ver off len=>if j=id∧(H id).live=true∧(H id).ver=ver then .sl (((H id).rows.drop off).take len) else v
  |_=>v
theorem getT_map (id:Nat) (H:Heap) (t:TT):getT (t.map (fzS1 id H))=fzT id H (getT t):=by
  funext i
  have e:fzT id H (getT t) i=fzS1 id H (getT t i):=by unfold fzT fzS1; rfl
  rw [e]
  unfold getT
  cases hi:Nat.ble 512 i with
  |true=>rfl
  |false=>simp only [cond_false]; exact TT.map_get
noncomputable def put1:List V→Nat→TT→TT
  |[],_,t=>t
  |v::l,i,t=>put1 l (i+1) (t.put i v)
noncomputable def tt0 (args:List V):TT:=put1 args 0 (TT.full undefV 9)
theorem put1_spec: ∀ (l:List V) (i:Nat) (t:TT),t.Dp 9→i+l.length≤512→(put1 l i t).Dp 9∧ ∀ j,getT (put1 l i t) j=if i≤j∧j < i+l.length then l.getD (j - i) undefV else getT t j
  |[],i,t,h,_=>⟨h,fun j=>by rw [if_neg (by simp only [List.length_nil]; omega)]; rfl⟩
  | v :: l, i, t, h, hl => by
    simp only [List.length_cons] at hl
    obtain ⟨h1,h2⟩:=put1_spec l (i+1) (t.put i v) (TT.put_dp h) (by omega)
    refine ⟨h1,fun j=>?_⟩
    simp only [put1]
    rw [h2,getT_put h (ble_iff.2 (by omega))]
    simp only [List.length_cons]
    by_cases c:i+1≤j∧j < i+1+l.length
    · rw [if_pos c,if_pos (by omega)]
      obtain ⟨k,hk⟩: ∃ k,j - i=k+1:=⟨j - i - 1,by omega⟩
      rw [hk,List.getD_cons_succ,show j - (i+1)=k by omega]
    · rw [if_neg c,upd_apply]
      by_cases e:j=i
      · rw [if_pos e,if_pos (by omega),e,Nat.sub_self]; rfl
      · rw [if_neg e,if_neg (by omega)]
theorem tt0_spec {args:List V} (h:args.length≤512):(tt0 args).Dp 9∧getT (tt0 args)=T0 args:=by
  obtain ⟨h1,h2⟩:=put1_spec args 0 (TT.full undefV 9) TT.full_dp (by omega)
  refine ⟨h1,funext fun j=>?_⟩
  show getT (put1 args 0 (TT.full undefV 9)) j=_
  rw [h2]
  unfold T0
  split
  · rw [Nat.sub_zero]
  · rename_i hn
    have hd:args.getD j undefV=undefV:=by
      rw [List.getD_eq_getElem?_getD,List.getElem?_eq_none (by omega)]; rfl
    rw [hd]
    unfold getT
    rw [TT.full_get]
    cases Nat.ble 512 j <;> rfl
abbrev Run2:=Nat→Nat→List (Nat×Nat)→SC→TT→Heap→Option (Ex×TT×Heap)
noncomputable def putO (T:TT) (d:Option Nat) (v:V):Option TT:=match d with
  |none=>some T
  | some i => match Nat.ble 512 i with
    |true=>none
    |false=>some (T.put i v)
theorem putO_spec {T T':TT} {d:Option Nat} {v:V} (hd:T.Dp 9) (h:putO T d v=some T'):T'.Dp 9∧getT T'=putT (getT T) d v:=by
  unfold putO at h
  split at h
  · cases h; exact ⟨hd,rfl⟩
  · split at h
    · cases h
    · rename_i hi
      cases h; exact ⟨TT.put_dp hd,getT_put hd hi v⟩
def exY (x : X) : CallF → PrimA → Nat → (Nat → V) → Heap → Option (V × Heap) := match x with
  | .mv a=>fun call qa id T H=>some (ev T a,H)
  | .lazy ty sz=>fun call qa id T H=>some (.ms id ((H id).ver+1) 0 0,upd H id ⟨(H id).ver+1,true,true,ty,sz,[]⟩)
  | .pick c a b => fun call qa id T H => match asB (ev T c) with
    |some bb=>some (if bb then ev T a else ev T b,H)
    |none=>none
  | .alloc ty z=>fun call qa id T H=>some (.mp id ((H id).ver+1) 0 0,upd H id ⟨(H id).ver+1,true,false,ty,z.length,[z]⟩)
  | .box ty _ a=>fun call qa id T H=>some (.mp id ((H id).ver+1) 0 0,upd H id ⟨(H id).ver+1,true,false,ty,(ev T a).cells.length,[(ev T a).cells]⟩)
  | .build z ps=>fun call qa id T H=>(bld z (ps.map fun p=>(p.1,p.2.1,ev T p.2.2))).map fun cs=>(.agg cs,H)
  | .bslice ty esz own z len ps=>fun call qa id T H=>(brows esz (List.replicate len z) (ps.map fun p=>(p.1,ev T p.2))).map fun rows=>
      if own then (.ms id ((H id).ver+1) 0 rows.length,upd H id ⟨(H id).ver+1,true,false,ty,esz,rows⟩) else (.sl rows,H)
  | .load agg n a=>fun call qa id T H=>((ptr H (ev T a)).bind (ldV agg n)).map fun v=>(v,H)
  | .ldp agg n a=>fun call qa id T H=>((ptrP (ev T a)).bind (ldV agg n)).map fun v=>(v,H)
  | .store n a b=>fun call qa id T H=>(stP H n (ev T b).cells (ev T a)).map fun H'=>(.raw undef,H')
  | .bin op a b=>fun call qa id T H=>(intBin op (ev T a) (ev T b)).map fun v=>(v,H)
  | .sbin op a b=>fun call qa id T H=>(strBin op (ev T a) (ev T b)).map fun v=>(v,H)
  | .bbin op a b=>fun call qa id T H=>(boolBin op (ev T a) (ev T b)).map fun v=>(v,H)
  | .abin neg q a b=>fun call qa id T H=>(aggBin neg q (ev T a) (ev T b)).map fun v=>(v,H)
  | .un op a=>fun call qa id T H=>(unV op (ev T a)).map fun v=>(v,H)
  | .conv kd a=>fun call qa id T H=>(convV kd (ev T a)).map fun v=>(v,H)
  | .fld off a=>fun call qa id T H=>(fldV off (ev T a)).map fun v=>(v,H)
  | .part agg off n a=>fun call qa id T H=>(partV agg off n (ev T a)).map fun v=>(v,H)
  | .idx esz a i=>fun call qa id T H=>(idxV H esz (ev T a) (ev T i)).map fun v=>(v,H)
  | .sidx a i=>fun call qa id T H=>(sidxV (ev T a) (ev T i)).map fun v=>(v,H)
  | .aidx agg n len a i=>fun call qa id T H=>(aidxV agg n len (ev T a) (ev T i)).map fun v=>(v,H)
  | .apos n len a i=>fun call qa id T H=>(aposV n len (ev T a) (ev T i)).map fun v=>(v,H)
  | .slice esz a lo hi=>fun call qa id T H=>(sliceV H esz (lo.map (ev T)) (hi.map (ev T)) (ev T a)).map fun v=>(v,H)
  | .sslice a lo hi=>fun call qa id T H=>(ssliceV (lo.map (ev T)) (hi.map (ev T)) (ev T a)).map fun v=>(v,H)
  | .mks ty esz bytes z l c=>fun call qa id T H=>(mksV bytes (ev T l) (ev T c)).map fun n=>
      (.ms id ((H id).ver+1) 0 n.1,upd H id ⟨(H id).ver+1,true,false,ty,esz,List.replicate n.1 z⟩)
  | .ext a i=>fun call qa id T H=>(extV i (ev T a)).map fun v=>(v,H)
  | .mkf f caps=>fun call qa id T H=>some (.fn f [] (evs T caps),H)
  | .bstr a=>fun call qa id T H=>(bstrV (ev T a)).map fun v=>(v,H)
  | .mkm f a b=>fun call qa id T H=>some (.fn f (evs T a) (evs T b),H)
  | .mki ty a=>fun call qa id T H=>(rawC (ev T a)).map fun c=>(.raw (.iface ty c),H)
  | .tas ty a=>fun call qa id T H=>(tasV ty (ev T a)).map fun v=>(v,H)
  | .nilck a=>fun call qa id T H=>(nilckV (ev T a)).map fun v=>(v,H)
  | .len a=>fun call qa id T H=>(lenV H (ev T a)).map fun v=>(v,H)
  | .clr z a=>fun call qa id T H=>(clrV H z (ev T a)).map fun H'=>(.tup [],H')
  | .cpy n a b=>fun call qa id T H=>(cpyV H n (ev T b) (ev T a)).map fun p=>(.int .i64 p.1,p.2)
  | .slen a=>fun call qa id T H=>(slenV (ev T a)).map fun v=>(v,H)
  | .mn a b=>fun call qa id T H=>(mnV (ev T a) (ev T b)).map fun v=>(v,H)
  | .mn3 a b c=>fun call qa id T H=>((mnV (ev T a) (ev T b)).bind fun u=>mnV u (ev T c)).map fun v=>(v,H)
  | .mx a b=>fun call qa id T H=>(mxV (ev T a) (ev T b)).map fun v=>(v,H)
  | .append ty esz bytes s a => fun call qa id T H => match ev T s with
    | .ms i ver off len => if (H i).live && decide ((H i).ver = ver) then if off = 0 then if len = (H i).rows.length then if (H i).ty = ty then if (H i).sz = esz then
        match rowsA H (ev T a) with
        | some new => if fitRows esz new = true then if (len + new.length) * bytes ≤ 140737488355328 then if len + new.length ≤ 9223372036854775807 then
            some (.ms i (ver+1) 0 (len+new.length),upd H i {H i with ver:=ver+1,rows:=(H i).rows++new})
          else none else none else none
        |none=>none
        else none else none else none else none else none
    |_=>none
  | .call true f args=>fun call qa id T H=>call true f (evs T args) H
  | .call false f args => fun call qa id T H => match qa.p f (evs T args) with
    |some v=>some (v,H)
    |none=>call false f (evs T args) H
  | .callA f args=>fun call qa id T H=>(qa.a id f (evs T args) H).map fun p=>(p.1,upd H id p.2)
  | .callv e g args => fun call qa id T H => match ev T g with
    | .fn f first caps=>call e f (first++evs T args++caps) H
    |_=>none
  | .isnil neg a => fun call qa id T H => match ev T a with
    | .nilsl=>some (.bool (!neg),H)
    | .sl (_::_)=>some (.bool neg,H)
    |_=>none
  | .mkmap=>fun call qa id T H=>some (.mm id ((H id).ver+1),upd H id ⟨(H id).ver+1,true,true,mapH,2,[[.nilp,.nilp]]⟩)
  | .mlook kd ok z m x=>fun call qa id T H=>(mlookV H kd z (ev T m) (ev T x)).map fun p=>(if ok then .tup [p.1,.bool p.2] else p.1,H)
  | .mset kd m x v=>fun call qa id T H=>(msetV H kd (ev T m) (ev T x) (ev T v)).map fun H'=>(.raw undef,H')
  | .bad=>fun call qa id T H=>none
theorem exY_eq (call:CallF) (qa:PrimA) (id:Nat) (x:X) (T:Nat→V) (H:Heap):exY x call qa id T H=exX call qa id x T H:=by
  cases x <;> try rfl
  rename_i e f args; cases e <;> rfl
noncomputable def stepO (call:CallF) (qa:PrimA) (k0:Nat) (o:SO) (ih:TT→Heap→Option (TT×Heap)) (T:TT) (H:Heap):Option (TT×Heap):=match exY o.x call qa (k0+o.d.getD 0) (getT T) H with
  | some (v, H') => match putO T o.d v with
    |some T'=>ih T' H'
    |none=>none
  |none=>none
noncomputable def stepN (o:SO) (ih:TT→Heap→Option (TT×Heap)) (T:TT) (H:Heap):Option (TT×Heap):=match putO T o.d (.raw undef) with
  |some T'=>ih T' H
  |none=>none
noncomputable def stepG (call:CallF) (qa:PrimA) (k0:Nat) (o:SO) (ih:TT→Heap→Option (TT×Heap)) (T:TT) (H:Heap):Option (TT×Heap):=match o.g with
  |none=>stepO call qa k0 o ih T H
  | some (t, want) => match gd want (getT T t) with
    |true=>stepO call qa k0 o ih T H
    |false=>stepN o ih T H
noncomputable def exOps2 (call:CallF) (qa:PrimA) (k0:Nat) (ops:List SO):TT→Heap→Option (TT×Heap):=
  List.rec (motive:=fun _=>TT→Heap→Option (TT×Heap)) (fun T H=>some (T,H)) (fun o _ ih T H=>stepG call qa k0 o ih T H) ops
def CallLe (a b:CallF):Prop:= ∀ e f args H r,a e f args H=some r→b e f args H=some r
theorem exX_le {c2 c1:CallF} (hc:CallLe c2 c1) {qa:PrimA} {id:Nat} {x:X} {T:Nat→V} {H:Heap} {r:V×Heap} (h:exX c2 qa id x T H=some r):exX c1 qa id x T H=some r:=by
  cases x <;> simp only [exX] at h ⊢ <;> try exact h
  case call e f args=>
    cases e with
    |true=>exact hc _ _ _ _ _ h
    | false =>
      simp only at h ⊢
      split
      · rename_i v hv; rw [hv] at h; exact h
      · rename_i hv; rw [hv] at h; exact hc _ _ _ _ _ h
  case callv e g args=>
    split
    · rename_i f first caps he; rw [he] at h; exact hc _ _ _ _ _ h
    · rename_i hn
      split at h
      · rename_i f first caps he; exact absurd he (hn f first caps)
      · exact h
theorem exOps2_sim {c2 c1 : CallF} (hc : CallLe c2 c1) {qa : PrimA} {k0 : Nat} : ∀ (ops : List SO) (T : TT) (H : Heap) (T' : TT) (H' : Heap), T.Dp 9 → exOps2 c2 qa k0 ops T H = some (T', H') → T'.Dp 9 ∧ exOps c1 qa k0 ops (getT T) H = some (getT T', H')
  |[],T,H,T',H',hd,h=>by cases h; exact ⟨hd,rfl⟩
  | o :: r, T, H, T', H', hd, h => by
    have h:stepG c2 qa k0 o (exOps2 c2 qa k0 r) T H=some (T',H'):=h
    have one:stepO c2 qa k0 o (exOps2 c2 qa k0 r) T H=some (T',H')→T'.Dp 9∧ ∃ v H1,exX c1 qa (k0+o.d.getD 0) o.x (getT T) H=some (v,H1)∧exOps c1 qa k0 r (putT (getT T) o.d v) H1=some (getT T',H'):=fun h=>by
      unfold stepO at h
      rw [exY_eq] at h
      split at h
      · rename_i v H1 h1
        split at h
        · rename_i T1 hp
          obtain ⟨d1,e1⟩:=putO_spec hd hp
          obtain ⟨d2,e2⟩:=exOps2_sim hc r T1 H1 T' H' d1 h
          exact ⟨d2,v,H1,exX_le hc h1,by rw [← e1]; exact e2⟩
        · cases h
      · cases h
    unfold stepG at h
    simp only [exOps]
    split at h
    · rename_i hg
      obtain ⟨d2,v,H1,e1,e2⟩:=one h
      refine ⟨d2,?_⟩
      rw [hg]; simp only
      rw [e1]; exact e2
    · rename_i t want hg
      split at h
      · rename_i hb
        obtain ⟨d2,v,H1,e1,e2⟩:=one h
        refine ⟨d2,?_⟩
        rw [hg]; simp only
        rw [hb]; simp only
        rw [e1]; exact e2
      · rename_i hb
        unfold stepN at h
        split at h
        · rename_i T1 hp
          obtain ⟨d1,e1⟩:=putO_spec hd hp
          obtain ⟨d2,e2⟩:=exOps2_sim hc r T1 H T' H' d1 h
          refine ⟨d2,?_⟩
          rw [hg]; simp only
          rw [hb]; simp only
          rw [← e1]; exact e2
        · cases h
noncomputable def frz2:List (Nat ⊕ LzA)→TT→Heap→TT×Heap
  |[],T,H=>(T,H)
  | .inl id::l,T,H=>frz2 l (T.map (fzS1 id H)) (kill id H)
  | .inr a :: l, T, H => match (H a.id).rows with
    | r :: _ => match r[a.off]? with
      |some .nilsl=>if a.id'≠a.id∧(H a.id).own=true∧a.ty < 4294967296 then
          frz2 l T (upd (upd H a.id' ⟨(H a.id').ver+1,true,true,a.ty,a.sz,[]⟩) a.id {H a.id with rows:=(H a.id).rows.set 0 (r.set a.off (.ms a.id' ((H a.id').ver+1) 0 0))}) else frz2 l T H
      |_=>frz2 l T H
    |[]=>frz2 l T H
theorem frz2_sim : ∀ (l : List (Nat ⊕ LzA)) (T : TT) (H : Heap), T.Dp 9 → (frz2 l T H).1.Dp 9 ∧ frz l (getT T) H = (getT (frz2 l T H).1, (frz2 l T H).2)
  |[],_,_,h=>⟨h,rfl⟩
  | .inl id :: l, T, H, h => by
    simp only [frz2,frz]
    rw [← getT_map]
    exact frz2_sim l _ _ (TT.map_dp h)
  | .inr a :: l, T, H, h => by
    simp only [frz2,frz]
    cases hr:(H a.id).rows with
    |nil=>exact frz2_sim l _ _ h
    | cons r rs =>
      simp only
      cases hc:r[a.off]? with
      |none=>exact frz2_sim l _ _ h
      | some u =>
        cases u <;> simp only <;> try exact frz2_sim l _ _ h
        split <;> exact frz2_sim l _ _ h
noncomputable def callG0 (F:Nat→Option XF) (run:Run2) (k1:Nat):CallF:=fun e f args H=>match F f with
  |none=>none
  | some g => if args.length ≤ g.s.n ∧ args.length ≤ 512 then match e with
    | true => match run k1 g.s.n g.fz g.s.body (tt0 args) H with
      |some (.exit _,_,_)=>none
      |some (.pan _,_,_)=>none
      |some (_,T',H')=>(resT g.s.res (getT T') H').map fun v=>(v,H')
      |none=>none
    | false => if pureL (args.map (fzv false H 4)) then match run 0 g.s.n g.fz g.s.body (tt0 (args.map (fzv false H 4))) H0 with
        |some (.exit _,_,_)=>none
        |some (.pan _,_,_)=>none
        | some (_, T', H') => match resT g.s.res (getT T') H' with
          |some u=>if (fzv false H' 6 u).pure then if pureL args||(fzv false H' 6 u).scalar then some (fzv false H' 6 u,H) else none else none
          |none=>none
        |none=>none
      else none
    else none
noncomputable def callG (q:Prim) (F:Nat→Option XF) (run:Run2) (k1:Nat):CallF:=fun e f args H=>match e with
  | true => match q f args H with
    |some r=>some r
    |none=>callG0 F run k1 true f args H
  |false=>callG0 F run k1 false f args H
noncomputable def runSC (c:SC):Prim→PrimA→(Nat→Option XF)→Run2→Nat→Nat→List (Nat×Nat)→TT→Heap→Option (Ex×TT×Heap):=match c with
  | .skip=>fun q qa F run k0 n fz T H=>some (.norm,T,H)
  | .ret=>fun q qa F run k0 n fz T H=>some (.ret,T,H)
  | .exit j=>fun q qa F run k0 n fz T H=>some (.exit j,T,H)
  | .pop _ _=>fun q qa F run k0 n fz T H=>none
  | .reg ops => fun q qa F run k0 n fz T H => match exOps2 (callG q F run (kOf k0 fz H ops + n)) qa (kOf k0 fz H ops) ops T H with
    |some (T',H')=>some (.norm,T',H')
    |none=>none
  | .dreg late ops => fun q qa F run k0 n fz T H => if late.all (fun d => !(H (kOf k0 fz H ops + d)).live) then match exOps2 (callG q F run (kOf k0 fz H ops + n)) qa (kOf k0 fz H ops) ops T H with
    |some (T',H')=>some (.norm,T',H')
    |none=>none
    else none
  | .xreg ps ops => fun q qa F run k0 n fz T H => match exOps2 (callG q F run (kOf k0 fz H ops + n)) qa (kOf k0 fz H ops) ops T H with
    |some (T',H')=>if ddB ps ops (getT T')=true then some (.norm,T',H') else none
    |none=>none
  | .seq a b => fun q qa F run k0 n fz T H => match run k0 n fz a T H with
    | some (.norm, T', H') => match frz2 (heads k0 fz b) T' H' with
      |(T2,H2)=>run k0 n fz b T2 H2
    |r=>r
  | .cond c a b => fun q qa F run k0 n fz T H => match asB (ev (getT T) c) with
    |some true=>run k0 n fz a T H
    |some false=>run k0 n fz b T H
    |none=>none
  | .block id a => fun q qa F run k0 n fz T H => match run k0 n fz a T H with
    |some (.exit j,T',H')=>if j=id then some (.norm,T',H') else some (.exit j,T',H')
    |r=>r
  | .loop a => fun q qa F run k0 n fz T H => match run k0 n fz a T H with
    |some (.norm,T',H')=>run k0 n fz (.loop a) T' H'
    |r=>r
noncomputable def runG (q:Prim) (qa:PrimA) (F:Nat→Option XF) (run:Run2):Run2:=fun k0 n fz c T H=>runSC c q qa F run k0 n fz T H
noncomputable def run2 (q:Prim) (qa:PrimA) (F:Nat→Option XF) (m:Nat):Run2:=Nat.rec (fun _ _ _ _ _ _=>none) (fun _ ih=>runG q qa F ih) m
theorem run2_succ (q:Prim) (qa:PrimA) (F:Nat→Option XF) (m:Nat):run2 q qa F (m+1)=runG q qa F (run2 q qa F m):=rfl
section
variable {q:Prim} {qa:PrimA} {F:Nat→Option XF}
def Sim (r2:Run2) (r:RunF):Prop:= ∀ k0 n fz c T H e T' H',TT.Dp 9 T→r2 k0 n fz c T H=some (e,T',H')→TT.Dp 9 T'∧r k0 n fz c (getT T) H=some (e,getT T',H')
theorem callG_le {r2 : Run2} {r : RunF} (h : Sim r2 r) {k1 : Nat} : CallLe (callG q F r2 k1) (callF q F r k1) := by
  have h0 : CallLe (callG0 F r2 k1) (callF0 F r k1) := by
    intro e f args H o ho
    unfold callG0 at ho
    unfold callF0
    split at ho
    · cases ho
    · rename_i g hg
      rw [hg]; simp only
      split at ho
      · rename_i hl
        rw [if_pos hl.1]
        cases e with
        | true =>
          simp only at ho ⊢
          obtain ⟨d0,e0⟩:=tt0_spec hl.2
          cases hr:r2 k1 g.s.n g.fz g.s.body (tt0 args) H with
          |none=>rw [hr] at ho; cases ho
          | some p =>
            obtain ⟨x,T',H'⟩:=p
            obtain ⟨_,e1⟩:=h _ _ _ _ _ _ _ _ _ d0 hr
            rw [hr] at ho
            rw [← e0,e1]
            cases x <;> exact ho
        | false =>
          simp only at ho ⊢
          split at ho
          · rename_i hp
            rw [if_pos hp]
            obtain ⟨d0,e0⟩:=tt0_spec (args:=args.map (fzv false H 4)) (by rw [List.length_map]; exact hl.2)
            cases hr:r2 0 g.s.n g.fz g.s.body (tt0 (args.map (fzv false H 4))) H0 with
            |none=>rw [hr] at ho; cases ho
            | some p =>
              obtain ⟨x,T',H'⟩:=p
              obtain ⟨_,e1⟩:=h _ _ _ _ _ _ _ _ _ d0 hr
              rw [hr] at ho
              rw [← e0,e1]
              cases x <;> exact ho
          · cases ho
      · cases ho
  intro e f args H o ho
  cases e with
  |false=>exact h0 false f args H o ho
  | true =>
    simp only [callG] at ho
    simp only [callF]
    split
    · rename_i r1 hq; rw [hq] at ho; exact ho
    · rename_i hq; rw [hq] at ho; exact h0 _ _ _ _ _ ho
theorem run2_sim : ∀ m, Sim (run2 q qa F m) (run q qa F m) := by
  intro m
  induction m with
  |zero=>intro k0 n fz c T H e T' H' _ h; cases h
  | succ m ih =>
    intro k0 n fz c T H e T' H' hd h
    rw [run2_succ] at h
    rw [run_succ]
    have ops: ∀ {os:List SO} {k:Nat} {T1:TT} {H1:Heap},exOps2 (callG q F (run2 q qa F m) (k+n)) qa k os T H=some (T1,H1)→TT.Dp 9 T1∧exOps (callF q F (run q qa F m) (k+n)) qa k os (getT T) H=some (getT T1,H1):=
      fun h=>exOps2_sim (callG_le ih) _ _ _ _ _ hd h
    cases c <;> simp only [runG,runSC] at h <;> simp only [runS]
    case skip=>cases h; exact ⟨hd,rfl⟩
    case ret=>cases h; exact ⟨hd,rfl⟩
    case exit=>cases h; exact ⟨hd,rfl⟩
    case pop=>cases h
    case reg os=>
      split at h
      · rename_i T1 H1 h1
        cases h
        obtain ⟨a,b⟩:=ops h1
        exact ⟨a,by rw [b]; rfl⟩
      · cases h
    case dreg late os=>
      split at h
      · rename_i hl
        rw [if_pos hl]
        split at h
        · rename_i T1 H1 h1
          cases h
          obtain ⟨a,b⟩:=ops h1
          exact ⟨a,by rw [b]; rfl⟩
        · cases h
      · cases h
    case xreg ps os=>
      split at h
      · rename_i T1 H1 h1
        obtain ⟨a,b⟩:=ops h1
        split at h
        · rename_i hdd
          cases h
          exact ⟨a,by rw [b]; simp only; rw [if_pos hdd]⟩
        · cases h
      · cases h
    case seq a b=>
      cases hr:run2 q qa F m k0 n fz a T H with
      |none=>rw [hr] at h; cases h
      | some p =>
        obtain ⟨x,T1,H1⟩:=p
        rw [hr] at h
        obtain ⟨d1,e1⟩:=ih _ _ _ _ _ _ _ _ _ hd hr
        rw [e1]
        cases x with
        | norm =>
          simp only at h ⊢
          obtain ⟨d2,e2⟩:=frz2_sim (heads k0 fz b) T1 H1 d1
          rw [e2]
          exact ih _ _ _ _ _ _ _ _ _ d2 h
        |ret=>cases h; exact ⟨d1,rfl⟩
        |exit j=>cases h; exact ⟨d1,rfl⟩
        |pan c=>cases h; exact ⟨d1,rfl⟩
    case cond c a b=>
      split at h
      · rename_i hb; rw [hb]; exact ih _ _ _ _ _ _ _ _ _ hd h
      · rename_i hb; rw [hb]; exact ih _ _ _ _ _ _ _ _ _ hd h
      · cases h
    case block id a=>
      cases hr:run2 q qa F m k0 n fz a T H with
      |none=>rw [hr] at h; cases h
      | some p =>
        obtain ⟨x,T1,H1⟩:=p
        rw [hr] at h
        obtain ⟨d1,e1⟩:=ih _ _ _ _ _ _ _ _ _ hd hr
        rw [e1]
        cases x with
        | exit j =>
          simp only at h ⊢
          split at h
          · rename_i hj; cases h; exact ⟨d1,by rw [if_pos hj]⟩
          · rename_i hj; cases h; exact ⟨d1,by rw [if_neg hj]⟩
        |norm=>cases h; exact ⟨d1,rfl⟩
        |ret=>cases h; exact ⟨d1,rfl⟩
        |pan c=>cases h; exact ⟨d1,rfl⟩
    case loop a=>
      cases hr:run2 q qa F m k0 n fz a T H with
      |none=>rw [hr] at h; cases h
      | some p =>
        obtain ⟨x,T1,H1⟩:=p
        rw [hr] at h
        obtain ⟨d1,e1⟩:=ih _ _ _ _ _ _ _ _ _ hd hr
        rw [e1]
        cases x with
        |norm=>exact ih _ _ _ _ _ _ _ _ _ d1 h
        |ret=>cases h; exact ⟨d1,rfl⟩
        |exit j=>cases h; exact ⟨d1,rfl⟩
        |pan c=>cases h; exact ⟨d1,rfl⟩
theorem pure_of_run2 {P:Program} (hq:PrimOK P q) (hqa:PrimAOK P qa) (hF:Good P F) (m:Nat) {f:Nat} {args:List V} {v:V} (hp:pureL args=true) (h:(callG q F (run2 q qa F m) 0 false f args H0).map (·.1)=some v):PureC P f args v:=by
  rw [Option.map_eq_some_iff] at h
  obtain ⟨p,h1,h2⟩:=h
  exact pure_of_runQ hq hqa hF m hp (by rw [callG_le (run2_sim m) _ _ _ _ _ h1]; exact congrArg some h2)
inductive FT where
  |lf
  |nd (k:Nat) (x:XF) (l r:FT)
def FT.find:FT→Nat→Option XF
  | .lf,_=>none
  | .nd k x l r,f=>cond (Nat.beq f k) (some x) (cond (Nat.blt f k) (l.find f) (r.find f))
def FT.list:FT→List (Nat×XF)
  | .lf=>[]
  | .nd k x l r=>(k,x)::(l.list++r.list)
theorem FT.mem: ∀ {t:FT} {f:Nat} {g:XF},t.find f=some g→(f,g)∈t.list
  | .nd k x l r, f, g, h => by
    simp only [FT.find] at h
    cases hb:Nat.beq f k with
    | true =>
      rw [hb] at h
      simp only [cond_true,Option.some.injEq] at h
      rw [Nat.eq_of_beq_eq_true hb,h]
      exact List.mem_cons_self ..
    | false =>
      rw [hb] at h
      simp only [cond_false] at h
      refine List.mem_cons_of_mem _ (List.mem_append.2 ?_)
      cases hc:Nat.blt f k with
      |true=>rw [hc] at h; exact .inl (FT.mem h)
      |false=>rw [hc] at h; exact .inr (FT.mem h)
theorem FT.good {P:Program} {t:FT} (h: ∀ p∈t.list,Good1 P p):Good P t.find:=fun f g hg=>h _ (FT.mem hg)
end
def eqL (f:V→V→Bool):List V→List V→Bool
  |[],[]=>true
  |a::l,b::m=>f a b&&eqL f l m
  |_,_=>false
def eqLL (f:V→V→Bool):List (List V)→List (List V)→Bool
  |[],[]=>true
  |a::l,b::m=>eqL f a b&&eqLL f l m
  |_,_=>false
def eqV : Nat → V → V → Bool
  |0,_,_=>false
  | n + 1, u, v => match u, v with
    | .int .i64 a,.int .i64 b=>decide (a=b)
    | .bool a,.bool b=>a==b
    | .sl a,.sl b=>eqLL (eqV n) a b
    | .agg a,.agg b=>eqL (eqV n) a b
    | .nilsl,.nilsl=>true
    |_,_=>false
theorem eqL_sound {f:V→V→Bool} (hf: ∀ a b,f a b=true→a=b): ∀ {l m:List V},eqL f l m=true→l=m
  |[],[],_=>rfl
  | a :: l, b :: m, h => by
    simp only [eqL,Bool.and_eq_true] at h
    rw [hf _ _ h.1,eqL_sound hf h.2]
  |[],_::_,h=>by cases h
  |_::_,[],h=>by cases h
theorem eqLL_sound {f:V→V→Bool} (hf: ∀ a b,f a b=true→a=b): ∀ {l m:List (List V)},eqLL f l m=true→l=m
  |[],[],_=>rfl
  | a :: l, b :: m, h => by
    simp only [eqLL,Bool.and_eq_true] at h
    rw [eqL_sound hf h.1,eqLL_sound hf h.2]
  |[],_::_,h=>by cases h
  |_::_,[],h=>by cases h
theorem eqV_sound: ∀ (n:Nat) (u v:V),eqV n u v=true→u=v
  |0,_,_,h=>by cases h
  | n + 1, u, v, h => by
    unfold eqV at h
    split at h
    · rw [of_decide_eq_true h]
    · rw [eq_of_beq h]
    · rw [eqLL_sound (eqV_sound n) h]
    · rw [eqL_sound (eqV_sound n) h]
    · rfl
    · cases h
abbrev Fact:=Nat×List V×V
def memA (l:List Fact):PrimA:=⟨fun _ _ _ _=>none,fun f args=>(l.find? fun p=>Nat.beq p.1 f&&eqL (eqV 12) p.2.1 args).map (·.2.2)⟩
theorem memA_ok {P:Program} {l:List Fact} (h: ∀ p∈l,PureC P p.1 p.2.1 p.2.2):PrimAOK P (memA l):=
  ⟨fun _ _ _ _ _ _ h=>(by cases h),fun f args v hv=>by
    obtain ⟨p,hp,rfl⟩:=Option.map_eq_some_iff.1 hv
    have h1:=List.find?_some hp
    rw [Bool.and_eq_true] at h1
    have h2:=h p (List.mem_of_find?_eq_some hp)
    rw [Nat.eq_of_beq_eq_true h1.1,eqL_sound (eqV_sound 12) h1.2] at h2
    exact h2⟩
def orB (a b:PrimA):PrimA:=⟨fun id f args H=>match a.a id f args H with
  |some r=>some r
  |none=>b.a id f args H,fun f args=>match a.p f args with
  |some r=>some r
  |none=>b.p f args⟩
theorem orB_ok {P:Program} {a b:PrimA} (ha:PrimAOK P a) (hb:PrimAOK P b):PrimAOK P (orB a b):=
  ⟨fun id f args H v bb h=>by
    simp only [orB] at h
    split at h
    · rename_i r hr; cases h; exact ha.1 _ _ _ _ _ _ hr
    · exact hb.1 _ _ _ _ _ _ h,fun f args v h=>by
    simp only [orB] at h
    split at h
    · rename_i r hr; cases h; exact ha.2 _ _ _ hr
    · exact hb.2 _ _ _ h⟩
end Go.Proofs.YtilfohjlglefjaaGreat
namespace Go.Proofs.YtilfohjlglefjaaGreat
open Go Go.Proofs
def s56:SF:=⟨8,[.tmp 2],.seq (.reg [sO 2 (.lazy 3 1)]) (.seq (.seq (.reg [qM 3 0,sO 4 (.isnil false (.t 3))]) (.cond (.t 4) (.seq (.reg [sO 2 (.lazy 3 1)]) (.ret)) (.skip))) (.seq (.reg [sO 5 (.lazy 3 1),qM 6 0,sO 7 (.append 3 1 8 (.t 5) (.t 6)),qM 2 7]) (.ret)))⟩
theorem s56_ok:slimF Tryz.prog ⟨[58,129,130,131,149,155,161,182,183,185,191,192,208,209,210,224,228,231,236],[2,5],[],[]⟩ Tryz.f56=some s56:=by kernel_rfl
theorem clone_pure (l:List Int) (hl:l.length≤4294967296):PureC Tryz.prog 56 [(ints l)] (ints l):=by
 refine pW Tryz.func56 s56_ok fun hB=>?_
 unfold s56
 dsimp only
 refine W_r (R_lazy (i:=2) (n:=0) rfl (congrArg Blk.ver rfl) (R_e (W_seq_seq (W_seq_reg fun K hK=>(R_mv rfl ?_)))))
 refine R_isnil_sl (@rfl V (ints l)) (fun e1=>?_) ?_
 ·
  replace e1:=List.map_eq_nil_iff.1 e1
  refine R_nil (hK _ _ ?_); clear hK K
  refine fork_ (R:=fun T H=>T 0=(ints l)∧T 4=(V.bool true)∧H 2=(bz 1 3 1 [])∧H 5=(⟨0,false,false,0,0,[]⟩:Blk)∧True) ⟨rfl,rfl,rfl,rfl,trivial⟩ ?_
  intro T H ⟨t0,t4,h2,h5,_⟩
  refine W_seq_ifb t4 (fun c4=>?_) (fun c4=>?_)
  ·
   refine W_seq_seq (W_r (R_lazy (i:=2) (n:=1) rfl (congrArg Blk.ver h2) (R_e (W_seq_ret ?_))))
   refine Ret_1 (@rfl V (V.ms 2 2 0 (0))) (fz_ms (@rfl Blk (bz 2 3 1 [])) (by first|rfl|simp) (l:=[]) rfl (by first|rfl|simp) (fun _=>by simp) ?_)
   · exact e1.symm
  · cases c4
 ·
  refine R_nil (hK _ _ ?_); clear hK K
  refine fork_ (R:=fun T H=>T 0=(ints l)∧T 4=(V.bool false)∧H 2=(bz 1 3 1 [])∧H 5=(⟨0,false,false,0,0,[]⟩:Blk)∧True) ⟨rfl,rfl,rfl,rfl,trivial⟩ ?_
  intro T H ⟨t0,t4,h2,h5,_⟩
  refine W_seq_ifb t4 (fun c7=>?_) (fun c7=>?_)
  · cases c7
  refine W_seq_skip (W_r (R_lazy (i:=5) (n:=0) rfl (congrArg Blk.ver h5) (R_mv t0 (R_appendS (l:=([])) (m:=l) (f:=cI) (@rfl V (V.ms 5 1 0 (0))) (show _=(bz 1 3 1 (List.map cI ([]))) from (@rfl Blk (bz 1 3 1 []))) (by first|rfl|simp) (@rfl V (ints l)) (fun _=>rfl) (fun _=>rfl) (by omega) (by omega) (R_mv rfl (R_e (W_ret ?_)))))))
  refine Ret_1 (@rfl V (V.ms 5 2 0 (0+(l).length))) (fz_ms (@rfl Blk (bz 2 3 1 (List.map cI ([]++l)))) (by first|rfl|simp) (l:=([]++l)) rfl (by first|rfl|simp) (fun _=>by simp) ?_)
  · rfl
theorem cloneA (i:Nat) (h5:5≤i) (l:List Int) (u:Nat) (Hi:Heap) (hq:(Hi i).ver=u) (hl:l.length≤4294967296):CallOK Tryz.prog 56 [(ints l)] Hi (V.ms i (u+3) 0 (l.length)) (upd Hi i (bz (u+3) 3 1 (List.map cI (l)))):=by
 refine eW (k0:=i - 2) Tryz.func56 s56_ok fun hB=>?_
 unfold s56
 dsimp only
 refine W_r (R_lazy (i:=i) (n:=u) (by omega) hq (R_e (W_seq_seq (W_seq_reg fun K hK=>(R_mv rfl ?_)))))
 refine R_isnil_sl (@rfl V (ints l)) (fun e1=>?_) ?_
 ·
  replace e1:=List.map_eq_nil_iff.1 e1
  refine R_nil (hK _ _ ?_); clear hK K
  refine fork_ (R:=fun T H=>T 0=(ints l)∧T 4=(V.bool true)∧(∀ j,j∉[i]→H j=Hi j)∧H i=(bz (u+1) 3 1 [])∧True) ⟨rfl,rfl,(upd_out (fun _ _=>rfl) (by simp)),(upd_same _ _ _),trivial⟩ ?_
  intro T H ⟨t0,t4,hF,hi,_⟩
  refine W_seq_ifb t4 (fun c4=>?_) (fun c4=>?_)
  ·
   refine W_seq_seq (W_r (R_lazy (i:=i) (n:=(u+1)) (by omega) (congrArg Blk.ver hi) (R_e (W_seq_ret (fork_ (R:=fun T H=>T 2=(V.ms i (u+2) 0 (0))∧(∀ j,j∉[i]→H j=Hi j)∧H i=(bz (u+2) 3 1 [])∧True) ⟨(@rfl V (V.ms i (u+2) 0 (0))),(upd_out hF (by simp)),(upd_same _ _ _),trivial⟩ ?_)))))
   intro T H ⟨t2,hF,hi,_⟩
   skip
   have fh:=FinX.fin (FinX.put (B:=(bz (u+3) 3 1 (List.map cI (l)))) (FinX.start hF) hi (FinB.up (by omega) (by first|rfl|(rw [e1]; rfl)|simp)))
   exact RetF_1 t2 fh (FinV.trans_eq (FinV.ms (n:=(u+3)) fh (by simp [hi]) (by simp [hi]) (by simp) (by simp)) (by first|rfl|(rw [e1]; rfl)|simp))
  · cases c4
 ·
  refine R_nil (hK _ _ ?_); clear hK K
  refine fork_ (R:=fun T H=>T 0=(ints l)∧T 4=(V.bool false)∧(∀ j,j∉[i]→H j=Hi j)∧H i=(bz (u+1) 3 1 [])∧True) ⟨rfl,rfl,(upd_out (fun _ _=>rfl) (by simp)),(upd_same _ _ _),trivial⟩ ?_
  intro T H ⟨t0,t4,hF,hi,_⟩
  refine W_seq_ifb t4 (fun c7=>?_) (fun c7=>?_)
  · cases c7
  refine W_seq_skip (W_rk (i - 5) (R_lazy (i:=i) (n:=(u+1)) (by omega) (congrArg Blk.ver hi) (R_mv t0 (R_appendS (l:=([])) (m:=l) (f:=cI) (@rfl V (V.ms i (u+2) 0 (0))) (show _=(bz (u+2) 3 1 (List.map cI ([]))) from (upd_same _ _ _)) (by first|rfl|simp) (@rfl V (ints l)) (fun _=>rfl) (fun _=>rfl) (by omega) (by omega) (R_mv rfl (R_e (W_ret ?_)))))))
  refine fork_ (R:=fun T H=>T 2=(V.ms i (u+3) 0 (0+(l).length))∧(∀ j,j∉[i]→H j=Hi j)∧H i=(bz (u+3) 3 1 (List.map cI ([]++l)))∧True) ⟨(@rfl V (V.ms i (u+3) 0 (0+(l).length))),(upd_out (upd_out hF (by simp)) (by simp)),(upd_same _ _ _),trivial⟩ ?_
  intro T H ⟨t2,hF,hi,_⟩
  skip
  have fh:=FinX.fin (FinX.put (B:=(bz (u+3) 3 1 (List.map cI (l)))) (FinX.start hF) hi (FinB.eq (by first|rfl|(rw [e1]; rfl)|simp)))
  exact RetF_1 t2 fh (FinV.trans_eq (FinV.same fh _) (by first|rfl|(rw [e1]; rfl)|simp))
def toInts:List (List V)→Option (List Int)
  |[]=>some []
  |[.int .i64 n]::l=>(toInts l).map (n:: ·)
  |_=>none
theorem toInts_eq: ∀ {rows:List (List V)} {l:List Int},toInts rows=some l→rows=l.map cI
  |[],l,h=>by cases h; rfl
  | [.int .i64 n] :: r, l, h => by
    simp only [toInts,Option.map_eq_some_iff] at h
    obtain ⟨m,h1,rfl⟩:=h
    rw [toInts_eq h1]; rfl
def clonePA56 : PrimA := ⟨fun id g args H => if g = 56 ∧ 5 ≤ id then match args with
    | [.sl rows] => match toInts rows with
      |some l=>if l.length≤4294967296 then some (.ms id ((H id).ver+3) 0 l.length,⟨(H id).ver+3,true,true,3,1,l.map cI⟩) else none
      |none=>none
    |[.nilsl]=>some (.ms id ((H id).ver+3) 0 0,⟨(H id).ver+3,true,true,3,1,[]⟩)
    |_=>none
  else none,fun g args=>if g=56 then match args with
    | [.sl rows] => match toInts rows with
      |some l=>if l.length≤4294967296 then some (.sl (l.map cI)) else none
      |none=>none
    |_=>none
  else none⟩
theorem CallOK_nilarg {P:Program} {f:Nat} {H H':Heap} {v:V} (h:CallOK P f [.sl []] H v H'):CallOK P f [.nilsl] H v H':=
  ⟨h.1,fun x cs hxH hx hr=>h.2 x cs hxH hx ⟨hr.1,fun j u hj=>by
    match j,hj with
    | 0, hj =>
      cases hj
      have q:=hr.2 0 _ rfl
      generalize hv:V.nilsl=w at q
      generalize cs.getD 0 undef=c at q ⊢
      cases q <;> cases hv
      exact .slnil
    |n+1,hj=>simp at hj⟩⟩
theorem clonePA56_ok : PrimAOK Tryz.prog clonePA56 := by
  constructor
  · intro id g args H v b h
    unfold clonePA56 at h
    dsimp only at h
    split at h
    · rename_i hg
      obtain ⟨rfl,h5⟩:=hg
      split at h
      · rename_i rows
        split at h
        · rename_i l hl
          split at h
          · rename_i hn
            cases h
            refine ⟨rfl,fun H2 h2=>?_⟩
            rw [toInts_eq hl]
            exact cloneA id h5 l _ H2 (by rw [h2]) hn
          · cases h
        · cases h
      · cases h
        refine ⟨rfl,fun H2 h2=>CallOK_nilarg ?_⟩
        exact cloneA id h5 [] _ H2 (by rw [h2]) (by decide)
      · cases h
    · cases h
  · intro g args v h
    unfold clonePA56 at h
    dsimp only at h
    split at h
    · rename_i hg
      subst hg
      split at h
      · rename_i rows
        split at h
        · rename_i l hl
          split at h
          · rename_i hn
            cases h
            rw [toInts_eq hl]
            exact clone_pure l hn
          · cases h
        · cases h
      · cases h
    · cases h
def r122_6:List SO:=[
 qM 16 5,
 qC 17 .add 16 1,
 qM 18 3,
 qN 19 18,
 qP 20 .eql 17 19,
 qM 21 20,
 ⟨some (21,false),some 22,.mv (.t 3)⟩,
 ⟨some (21,false),some 23,.mv (.t 5)⟩,
 ⟨some (21,false),some 24,.bin .add (.t 23) (.c (.int .i64 1))⟩,
 ⟨some (21,false),some 25,.idx 1 (.t 22) (.t 24)⟩,
 ⟨some (21,false),some 26,.load false 1 (.t 25)⟩,
 ⟨some (21,false),some 27,.mv (.t 6)⟩,
 ⟨some (21,false),some 28,.call false 170 [.t 26,.t 27]⟩,
 ⟨some (21,false),some 29,.un .not (.t 28)⟩,
 sO 30 (.pick (.t 21) (.c (.bool true)) (.t 29))]
def b122_0:SC:=.seq (.reg [qP 12 .lss 11 10]) (.seq (.cond (.t 12) (.skip) (.exit 0)) (.seq (.block 1 (.seq (.reg [qM 13 11,qA 14 1 9 11,ql 15 14,qM 5 13,qM 6 15]) (.seq (.reg r122_6) (.cond (.t 30) (.reg [qM 31 4,qM 32 6,sO 33 (.bslice 38 1 false [.nilsl] 1 [(0,.t 32)]),sO 34 (.append 38 1 24 (.t 31) (.t 33)),qM 4 34]) (.skip))))) (.reg [qC 35 .add 11 1,qM 11 35])))
def s122:SF:=⟨38,[.tmp 2],.seq (.reg [sO 2 (.mv (.c (.nilsl)))]) (.seq (.reg [qM 7 0,sO 8 (.call false 168 [.t 7,.c (.fn 169 [] [])]),qM 3 8]) (.seq (.reg [sO 4 (.lazy 38 1)]) (.seq (.seq (.reg [qM 9 3,qN 10 9,qI 11 0]) (.block 0 (.loop b122_0))) (.seq (.reg [qM 36 4,sO 37 (.call false 123 [.t 36]),qM 2 37]) (.ret)))))⟩
theorem s122_ok:slimF Tryz.prog ⟨[58,129,130,131,149,155,161,182,183,185,191,192,208,209,210,224,228,231,236],[4],[],[]⟩ Tryz.f122=some s122:=by kernel_rfl
def s123:SF:=⟨5,[.tmp 2],.seq (.reg [sO 2 (.mv (.c (.nilsl)))]) (.seq (.reg [qM 3 0,sO 4 (.call false 168 [.t 3,.c (.fn 171 [] [])]),qM 2 4]) (.ret))⟩
theorem s123_ok:slimF Tryz.prog ⟨[58,129,130,131,149,155,161,182,183,185,191,192,208,209,210,224,228,231,236],[],[],[]⟩ Tryz.f123=some s123:=by kernel_rfl
def b168_0:SC:=.seq (.reg [qP 19 .lss 18 17]) (.seq (.cond (.t 19) (.skip) (.exit 0)) (.seq (.block 1 (.seq (.reg [qM 20 18,qA 21 1 16 18,ql 22 21,qM 6 20,qM 7 22]) (.reg [qM 23 5,qM 24 6,qM 25 7,sO 26 (.call false 56 [.t 25]),qA 27 1 23 24,sN (.store 1 (.t 27) (.t 26))]))) (.reg [qC 28 .add 18 1,qM 18 28])))
def s168:SF:=⟨30,[.tmp 4],.seq (.reg [sO 3 (.box 255 1 (.t 1)),sO 4 (.mv (.c (.nilsl)))]) (.seq (.reg [qM 8 0,sO 9 (.call true 208 [.t 8]),qM 5 9]) (.seq (.reg [qM 10 5,ql 11 3,sO 12 (.call true 209 [.t 10,.t 11])]) (.seq (.reg [qM 13 5,sO 14 (.mkf 211 [.t 3]),sO 15 (.call true 210 [.t 13,.t 14]),qM 5 15]) (.seq (.seq (.reg [qM 16 5,qN 17 16,qI 18 0]) (.block 0 (.loop b168_0))) (.seq (.reg [qM 29 5,qM 4 29]) (.ret))))))⟩
theorem s168_ok:slimF Tryz.prog ⟨[58,129,130,131,149,155,161,182,183,185,191,192,208,209,210,224,228,231,236],[],[],[]⟩ Tryz.f168=some s168:=by kernel_rfl
def s169:SF:=⟨8,[.tmp 4],.seq (.reg [qI 4 0]) (.seq (.reg [qM 5 0,qM 6 1,sO 7 (.call false 212 [.t 5,.t 6]),qM 4 7]) (.ret))⟩
theorem s169_ok:slimF Tryz.prog ⟨[58,129,130,131,149,155,161,182,183,185,191,192,208,209,210,224,228,231,236],[],[],[]⟩ Tryz.f169=some s169:=by kernel_rfl
def b212_0:SC:=.seq (.reg [qP 12 .lss 11 10]) (.seq (.cond (.t 12) (.skip) (.exit 0)) (.seq (.block 1 (.seq (.reg [qM 13 11,qA 14 1 9 11,ql 15 14,qM 5 13,qM 6 15]) (.seq (.seq (.reg [qM 16 5,qM 17 1,qN 18 17,qP 19 .geq 16 18]) (.cond (.t 19) (.seq (.reg [qI 4 1]) (.ret)) (.skip))) (.seq (.reg [qM 20 1,qM 21 5,qA 22 1 20 21,ql 23 22,qM 7 23]) (.seq (.reg [qM 24 6,qM 25 7,sO 26 (.call false 215 [.t 24,.t 25]),qM 8 26]) (.seq (.reg [qM 27 8,qC 28 .neq 27 0]) (.cond (.t 28) (.seq (.reg [qM 29 8,qM 4 29]) (.ret)) (.skip)))))))) (.reg [qC 30 .add 11 1,qM 11 30])))
def s212:SF:=⟨36,[.tmp 4],.seq (.reg [qI 4 0]) (.seq (.seq (.reg [qM 9 0,qN 10 9,qI 11 0]) (.block 0 (.loop b212_0))) (.seq (.seq (.reg [qM 31 0,qN 32 31,qM 33 1,qN 34 33,qP 35 .lss 32 34]) (.cond (.t 35) (.seq (.reg [sO 4 (.mv (.c (.int .i64 (-1))))]) (.ret)) (.skip))) (.seq (.reg [qI 4 0]) (.ret))))⟩
theorem s212_ok:slimF Tryz.prog ⟨[58,129,130,131,149,155,161,182,183,185,191,192,208,209,210,224,228,231,236],[],[],[]⟩ Tryz.f212=some s212:=by kernel_rfl
def s215:SF:=⟨20,[.tmp 4],.seq (.reg [qI 4 0]) (.seq (.reg [qM 7 0,sO 8 (.call false 233 [.t 7]),qM 5 8]) (.seq (.reg [qM 9 1,sO 10 (.call false 233 [.t 9]),qM 6 10]) (.seq (.seq (.reg [qM 11 5]) (.cond (.t 11) (.seq (.seq (.reg [qM 12 6]) (.cond (.t 12) (.seq (.reg [qI 4 0]) (.ret)) (.skip))) (.seq (.reg [sO 4 (.mv (.c (.int .i64 (-1))))]) (.ret))) (.skip))) (.seq (.seq (.reg [qM 13 6]) (.cond (.t 13) (.seq (.reg [qI 4 1]) (.ret)) (.skip))) (.seq (.seq (.reg [qM 14 0,qM 15 1,qP 16 .lss 14 15]) (.cond (.t 16) (.seq (.reg [sO 4 (.mv (.c (.int .i64 (-1))))]) (.ret)) (.skip))) (.seq (.seq (.reg [qM 17 0,qM 18 1,qP 19 .gtr 17 18]) (.cond (.t 19) (.seq (.reg [qI 4 1]) (.ret)) (.skip))) (.seq (.reg [qI 4 0]) (.ret))))))))⟩
theorem s215_ok:slimF Tryz.prog ⟨[58,129,130,131,149,155,161,182,183,185,191,192,208,209,210,224,228,231,236],[],[],[]⟩ Tryz.f215=some s215:=by kernel_rfl
def s233:SF:=⟨6,[.tmp 2],.seq (.reg [sO 2 (.mv (.c (.bool false)))]) (.seq (.reg [qM 3 0,qM 4 0,qP 5 .neq 3 4,qM 2 5]) (.ret))⟩
theorem s233_ok:slimF Tryz.prog ⟨[58,129,130,131,149,155,161,182,183,185,191,192,208,209,210,224,228,231,236],[],[],[]⟩ Tryz.f233=some s233:=by kernel_rfl
theorem isnan_pure (n:Int):PureC Tryz.prog 233 [(iV (n))] (V.bool false):=by
 refine pW Tryz.func233 s233_ok fun hB=>?_
 unfold s233
 dsimp only
 refine W_r (R_mv rfl (R_e (W_r (R_mv rfl (R_mv rfl (R_neq rfl rfl (R_mv rfl ?_)))))))
 refine R_e (W_ret ?_)
 refine Ret_1 (@rfl V (V.bool (decide ((n)≠(n))))) (fz_bool ?_)
 · simp
theorem cmpint_pure (x y:Int):PureC Tryz.prog 215 [(iV (x)),(iV (y))] (iV (cmpI x y)):=by
 refine pW Tryz.func215 s215_ok fun hB=>?_
 unfold s215
 dsimp only
 refine W_r (R_mv rfl (R_e (W_r (R_mv rfl (R_callk (isnan_pure ((x))) rfl (R_mv rfl (R_e ?_)))))))
 refine W_r (R_mv rfl (R_callk (isnan_pure ((y))) rfl (R_mv rfl (R_e (W_seq_seq (W_r (R_mv rfl ?_)))))))
 refine R_e ?_
 refine W_seq_ifb rfl (fun c1=>?_) (fun c1=>?_)
 · cases c1
 refine W_seq_skip (W_seq_seq (W_r (R_mv rfl (R_e ?_))))
 refine W_seq_ifb rfl (fun c2=>?_) (fun c2=>?_)
 · cases c2
 refine W_seq_skip (W_seq_seq (W_r (R_mv rfl (R_mv rfl (R_lss rfl rfl (R_e ?_))))))
 refine W_seq_if rfl (fun c3=>?_) fun c3=>?_
 ·
  refine W_seq_seq (W_r (R_mv rfl (R_e (W_seq_ret ?_))))
  refine Ret_1 (@rfl V (iV (-1:Int))) (fz_int ?_)
  · unfold cmpI; repeat (split <;> first|rfl|omega|skip)
 refine W_seq_skip (W_seq_seq (W_r (R_mv rfl (R_mv rfl (R_gtr rfl rfl (R_e ?_))))))
 refine W_seq_if rfl (fun c4=>?_) fun c4=>?_
 ·
  refine W_seq_seq (W_r (R_mv rfl (R_e (W_seq_ret ?_))))
  refine Ret_1 (@rfl V (iV (1:Int))) (fz_int ?_)
  · unfold cmpI; repeat (split <;> first|rfl|omega|skip)
 refine W_seq_skip (W_r (R_mv rfl (R_e (W_ret ?_))))
 refine Ret_1 (@rfl V (iV (0:Int))) (fz_int ?_)
 · unfold cmpI; repeat (split <;> first|rfl|omega|skip)
theorem scompare_pure (a b:List Int):PureC Tryz.prog 212 [(ints a),(ints b)] (iV (lexI a b)):=by
 refine pW Tryz.func212 s212_ok fun hB=>?_
 unfold s212
 dsimp only
 refine W_r (R_mv rfl (R_e (W_seq_seq (W_r (R_mv rfl (R_len rfl (R_mv rfl ?_)))))))
 refine R_e (W_seq_blockg fun Q1 n1 x1 y1 z1=>?_)
 refine W_loop (fun mm T H=> ∃ (k:Nat),mm=a.length - k∧T 0=(ints a)∧T 1=(ints b)∧T 9=(ints a)∧T 10=(iV ((a.length:Nat):Int))∧T 11=(iV ((k:Nat):Int))∧(k≤a.length)∧(k≤cmn a b)) ?_ ?_
 ·
  refine ⟨_,0,rfl,rfl,rfl,rfl,rfl,(Eq.trans (@rfl V (iV (0:Int))) rfl),?_,?_⟩
  · omega
  · exact Nat.zero_le _
 intro mm T H ⟨k,hmm,t0,t1,t9,t10,t11,hk,hc⟩ Q2 p12 p22 p32
 unfold b212_0
 refine W_r (R_lss t11 t10 (R_e ?_))
 refine W_seq_if rfl (fun c3=>?_) fun c3=>?_
 ·
  refine W_seq_skip (W_seq_blockg fun Q4 n4 x4 y4 z4=>(W_r (R_mv t11 (R_idx (i:=k) t9 t11 (by omega) rfl (R_load_pp rfl rfl (R_mv rfl (R_mv rfl ?_)))))))
  refine R_e (W_seq_seq (W_r (R_mv rfl (R_mv t1 (R_len rfl (R_geq rfl rfl (R_e ?_)))))))
  refine W_seq_if rfl (fun c5=>?_) fun c5=>?_
  ·
   refine W_seq_seq (W_r (R_mv rfl (R_e (W_seq_ret (y4 _ _ (p22 _ _ (y1 _ _ ?_)))))))
   refine Ret_1 (@rfl V (iV (1:Int))) (fz_int ?_)
   · have g1:=cmn_l a b
     have g2:=cmn_r a b
     have g3:=cmn_at hc (by omega)
     simp only [lexI,cmpI,g3] at*; repeat (split <;> first|rfl|omega|skip)
  refine W_seq_skip (W_r (R_mv t1 (R_mv rfl (R_idx (i:=k) (@rfl V (ints b)) (@rfl V (iV ((k:Nat):Int))) (by omega) rfl (R_load_pp rfl rfl (R_mv rfl (R_e ?_)))))))
  refine W_r (R_mv rfl (R_mv rfl (R_callk (cmpint_pure (((nth (a) (k)))) (((nth (b) (k))))) rfl (R_mv rfl (R_e (W_r (R_mv rfl ?_)))))))
  refine R_neq rfl rfl (R_e ?_)
  refine W_if rfl (fun c6=>?_) fun c6=>?_
  ·
   have c9:nth a k≠nth b k:=fun e=>c6 (cmpI_zero.2 e)
   refine W_r (R_mv rfl (R_mv rfl (R_e (W_ret (y4 _ _ (p22 _ _ (y1 _ _ ?_)))))))
   refine Ret_1 (@rfl V (iV (cmpI (((nth (a) (k)))) (((nth (b) (k))))))) (fz_int ?_)
   · have g1:=cmn_l a b
     have g2:=cmn_r a b
     have g3:=cmn_at hc (by omega)
     simp only [lexI,cmpI,g3] at*; repeat (split <;> first|rfl|omega|skip)
  refine W_skip (n4 _ _ (.done (W_t (R_addN t11 (@rfl V (iV ((1:Nat):Int))) (by omega) (R_mv rfl (R_e ?_))))))
  refine p12 _ _ _ ?_ ⟨(k+1),rfl,t0,t1,t9,t10,(Eq.trans (@rfl V (iV ((k+1:Nat):Int))) (by first|rfl|simp)),?_,?_⟩
  · omega
  · omega
  · exact cmn_next hc (by omega) (by omega) (cmpI_zero.1 (by omega))
 refine W_seq_exit (p32 _ _ _ (x1 _ _ (.done (W_seq_seq (W_r (R_mv t0 (R_len rfl ?_)))))))
 refine R_mv t1 (R_len rfl (R_lss rfl rfl (R_e ?_)))
 refine W_seq_if rfl (fun c7=>?_) fun c7=>?_
 ·
  refine W_seq_seq (W_r (R_mv rfl (R_e (W_seq_ret ?_))))
  refine Ret_1 (@rfl V (iV (-1:Int))) (fz_int ?_)
  · have g1:=cmn_l a b
    have g2:=cmn_r a b
    have g3:=cmn_at hc (by omega)
    simp only [lexI,cmpI,g3] at*; repeat (split <;> first|rfl|omega|skip)
 refine W_seq_skip (W_r (R_mv rfl (R_e (W_ret ?_))))
 refine Ret_1 (@rfl V (iV (0:Int))) (fz_int ?_)
 · have g1:=cmn_l a b
   have g2:=cmn_r a b
   have g3:=cmn_at hc (by omega)
   simp only [lexI,cmpI,g3] at*; repeat (split <;> first|rfl|omega|skip)
theorem lex_pure (a b:List Int):PureC Tryz.prog 169 [(ints a),(ints b)] (iV (lexI a b)):=by
 refine pW Tryz.func169 s169_ok fun hB=>?_
 unfold s169
 dsimp only
 refine W_r (R_mv rfl (R_e (W_r (R_mv rfl (R_mv rfl (R_callk (scompare_pure a b) rfl (R_mv rfl ?_)))))))
 refine R_e (W_ret ?_)
 refine Ret_1 (@rfl V (iV (lexI a b))) (fz_canon (by simp) rfl)
def r171_1:List SO:=[
 qM 5 0,
 qN 6 5,
 qM 7 1,
 qN 8 7,
 sO 9 (.call false 215 [.t 6,.t 8]),
 qM 10 0,
 qM 11 1,
 sO 12 (.call false 212 [.t 10,.t 11]),
 sO 13 (.bslice 3 1 false [.int .i64 0] 2 [(0,.t 9),(1,.t 12)]),
 sO 14 (.call false 214 [.t 13]),
 qM 4 14]
def s171:SF:=⟨15,[.tmp 4],.seq (.reg [qI 4 0]) (.seq (.reg r171_1) (.ret))⟩
theorem s171_ok:slimF Tryz.prog ⟨[58,129,130,131,149,155,161,182,183,185,191,192,208,209,210,224,228,231,236],[],[],[]⟩ Tryz.f171=some s171:=by kernel_rfl
def b214_0:SC:=.seq (.reg [qP 9 .lss 8 7]) (.seq (.cond (.t 9) (.skip) (.exit 0)) (.seq (.block 1 (.seq (.reg [qA 10 1 6 8,ql 11 10,qM 5 11]) (.seq (.reg [qM 12 5,qM 13 3,qP 14 .neq 12 13]) (.cond (.t 14) (.seq (.reg [qM 15 5,qM 2 15]) (.ret)) (.skip))))) (.reg [qC 16 .add 8 1,qM 8 16])))
def s214:SF:=⟨18,[.tmp 2],.seq (.reg [qI 2 0]) (.seq (.reg [qI 3 0]) (.seq (.seq (.reg [qM 6 0,qN 7 6,qI 8 0]) (.block 0 (.loop b214_0))) (.seq (.reg [qM 17 3,qM 2 17]) (.ret))))⟩
theorem s214_ok:slimF Tryz.prog ⟨[58,129,130,131,149,155,161,182,183,185,191,192,208,209,210,224,228,231,236],[],[],[]⟩ Tryz.f214=some s214:=by kernel_rfl
theorem cmpor_pure (l:List Int) (hl:l.length < 4294967296):PureC Tryz.prog 214 [(ints l)] (iV (orI l)):=by
 refine pW Tryz.func214 s214_ok fun hB=>?_
 unfold s214
 dsimp only
 refine W_r (R_mv rfl (R_e (W_r (R_mv rfl (R_e (W_seq_seq (W_r ?_)))))))
 refine R_mv rfl (R_len rfl (R_mv rfl (R_e (W_seq_blockg fun Q1 n1 x1 y1 z1=>?_))))
 refine W_loop (fun mm T H=> ∃ (k:Nat),mm=l.length - k∧T 3=(iV (0:Int))∧T 6=(ints l)∧T 7=(iV ((l.length:Nat):Int))∧T 8=(iV ((k:Nat):Int))∧(k≤l.length)∧(orI l=orI (l.drop k))) ?_ ?_
 ·
  refine ⟨_,0,rfl,rfl,rfl,rfl,(Eq.trans (@rfl V (iV (0:Int))) rfl),?_,?_⟩
  · omega
  · rfl
 intro mm T H ⟨k,hmm,t3,t6,t7,t8,hk,hc⟩ Q2 p12 p22 p32
 unfold b214_0
 refine W_r (R_lss t8 t7 (R_e ?_))
 refine W_seq_if rfl (fun c3=>?_) fun c3=>?_
 ·
  refine W_seq_skip (W_seq_blockg fun Q4 n4 x4 y4 z4=>(W_r (R_idx (i:=k) t6 t8 (by omega) rfl (R_load_pp rfl rfl (R_mv rfl (R_e (W_r ?_)))))))
  refine R_mv rfl (R_mv t3 (R_neq rfl rfl (R_e ?_)))
  refine W_if rfl (fun c5=>?_) fun c5=>?_
  ·
   refine W_r (R_mv rfl (R_mv rfl (R_e (W_ret (y4 _ _ (p22 _ _ (y1 _ _ ?_)))))))
   refine Ret_1 (@rfl V (iV ((nth (l) (k))))) (fz_int ?_)
   · rw [hc,orI_drop (by omega),if_neg (by omega)]
  refine W_skip (n4 _ _ (.done (W_t (R_addN t8 (@rfl V (iV ((1:Nat):Int))) (by omega) (R_mv rfl (R_e ?_))))))
  refine p12 _ _ _ ?_ ⟨(k+1),rfl,t3,t6,t7,(Eq.trans (@rfl V (iV ((k+1:Nat):Int))) (by first|rfl|simp)),?_,?_⟩
  · omega
  · omega
  · rw [hc,orI_drop (by omega),if_pos (by omega)]
 refine W_seq_exit (p32 _ _ _ (x1 _ _ (.done (W_r (R_mv t3 (R_mv rfl (R_e ?_)))))))
 refine W_ret ?_
 refine Ret_1 (@rfl V (iV (0:Int))) (fz_int ?_)
 · rw [hc,List.drop_of_length_le (by omega)]; rfl
theorem compare_pure (a b:List Int):PureC Tryz.prog 171 [(ints a),(ints b)] (iV (slx a b)):=by
 refine pW Tryz.func171 s171_ok fun hB=>?_
 unfold s171
 dsimp only
 refine W_r (R_mv rfl (R_e (W_r (R_mv rfl (R_len rfl (R_mv rfl (R_len rfl ?_)))))))
 refine R_callk (cmpint_pure (((a.length:Nat):Int)) (((b.length:Nat):Int))) rfl (R_mv rfl (R_mv rfl (R_callk (scompare_pure a b) rfl (R_bslice rfl rfl (R_callk (cmpor_pure ([(cmpI (((a.length:Nat):Int)) (((b.length:Nat):Int))),(lexI a b)]) (by simp)) rfl (R_mv rfl (R_e ?_)))))))
 refine W_ret ?_
 refine Ret_1 (@rfl V (iV (orI ([(cmpI (((a.length:Nat):Int)) (((b.length:Nat):Int))),(lexI a b)])))) (fz_int ?_)
 · simp only [orI,cmpI,slx]; repeat (split <;> first|rfl|omega|skip)
def s208:SF:=⟨8,[.tmp 2],.seq (.reg [sO 2 (.lazy 38 1)]) (.seq (.seq (.reg [qM 3 0,sO 4 (.isnil false (.t 3))]) (.cond (.t 4) (.seq (.reg [sO 2 (.lazy 38 1)]) (.ret)) (.skip))) (.seq (.reg [sO 5 (.lazy 38 1),qM 6 0,sO 7 (.append 38 1 24 (.t 5) (.t 6)),qM 2 7]) (.ret)))⟩
theorem s208_ok:slimF Tryz.prog ⟨[58,129,130,131,149,155,161,182,183,185,191,192,208,209,210,224,228,231,236],[2,5],[],[]⟩ Tryz.f208=some s208:=by kernel_rfl
theorem clonew_E (l:List (List Int)) (v2:Nat) (Hi:Heap) (h202:(Hi 202).ver=v2) (hl:l.length≤1073741824):CallOK Tryz.prog 208 [(intss l)] Hi (V.ms 202 (v2+3) 0 (l.length)) (upd Hi 202 (bz (v2+3) 38 1 (List.map cL (l)))):=by
 refine eW (k0:=200) Tryz.func208 s208_ok fun hB=>?_
 unfold s208
 dsimp only
 refine W_r (R_lazy (i:=202) (n:=v2) (by rfl) h202 (R_e (W_seq_seq (W_seq_reg fun K hK=>(R_mv rfl ?_)))))
 refine R_isnil_sl (@rfl V (intss l)) (fun e1=>?_) ?_
 ·
  replace e1:=List.map_eq_nil_iff.1 e1
  refine R_nil (hK _ _ ?_); clear hK K
  refine fork_ (R:=fun T H=>T 0=(intss l)∧T 4=(V.bool true)∧(∀ j,j∉[202]→H j=Hi j)∧H 202=(bz (v2+1) 38 1 [])∧True) ⟨rfl,rfl,(upd_out (fun _ _=>rfl) (by decide)),rfl,trivial⟩ ?_
  intro T H ⟨t0,t4,hF,h202,_⟩
  refine W_seq_ifb t4 (fun c4=>?_) (fun c4=>?_)
  ·
   refine W_seq_seq (W_r (R_lazy (i:=202) (n:=(v2+1)) (by rfl) (congrArg Blk.ver h202) (R_e (W_seq_ret (fork_ (R:=fun T H=>T 2=(V.ms 202 (v2+2) 0 (0))∧(∀ j,j∉[202]→H j=Hi j)∧H 202=(bz (v2+2) 38 1 [])∧True) ⟨(@rfl V (V.ms 202 (v2+2) 0 (0))),(upd_out hF (by decide)),rfl,trivial⟩ ?_)))))
   intro T H ⟨t2,hF,h202,_⟩
   have fh:=FinX.fin (FinX.put (B:=(bz (v2+3) 38 1 (List.map cL (l)))) (FinX.start hF) h202 (FinB.up (by omega) (by first|rfl|(rw [e1]; rfl)|simp)))
   exact RetF_1 t2 fh (FinV.trans_eq (FinV.ms (n:=(v2+3)) fh (by simp [h202]) (by simp [h202]) rfl rfl) (by first|rfl|(rw [e1]; rfl)|simp))
  · cases c4
 ·
  refine R_nil (hK _ _ ?_); clear hK K
  refine fork_ (R:=fun T H=>T 0=(intss l)∧T 4=(V.bool false)∧(∀ j,j∉[202]→H j=Hi j)∧H 202=(bz (v2+1) 38 1 [])∧True) ⟨rfl,rfl,(upd_out (fun _ _=>rfl) (by decide)),rfl,trivial⟩ ?_
  intro T H ⟨t0,t4,hF,h202,_⟩
  refine W_seq_ifb t4 (fun c7=>?_) (fun c7=>?_)
  · cases c7
  refine W_seq_skip (W_rk 197 (R_lazy (i:=202) (n:=(v2+1)) (by rfl) (congrArg Blk.ver h202) (R_mv t0 (R_appendS (l:=([])) (m:=l) (f:=cL) (@rfl V (V.ms 202 (v2+2) 0 (0))) (show _=(bz (v2+2) 38 1 (List.map cL ([]))) from (@rfl Blk (bz (v2+2) 38 1 []))) (by first|rfl|simp) (@rfl V (intss l)) (fun _=>rfl) (fun _=>rfl) (by omega) (by omega) (R_mv rfl (R_e (W_ret ?_)))))))
  refine fork_ (R:=fun T H=>T 2=(V.ms 202 (v2+3) 0 (0+(l).length))∧(∀ j,j∉[202]→H j=Hi j)∧H 202=(bz (v2+3) 38 1 (List.map cL ([]++l)))∧True) ⟨(@rfl V (V.ms 202 (v2+3) 0 (0+(l).length))),(upd_out (upd_out hF (by decide)) (by decide)),rfl,trivial⟩ ?_
  intro T H ⟨t2,hF,h202,_⟩
  have fh:=FinX.fin (FinX.put (B:=(bz (v2+3) 38 1 (List.map cL (l)))) (FinX.start hF) h202 (FinB.eq (by first|rfl|(rw [e1]; rfl)|simp)))
  exact RetF_1 t2 fh (FinV.trans_eq (FinV.same fh _) (by first|rfl|(rw [e1]; rfl)|simp))
def r210_6:List SO:=[
 qM 18 1,
 qM 19 0,
 qM 20 5,
 qA 21 1 19 20,
 ql 22 21,
 qM 23 0,
 qM 24 5,
 qC 25 .sub 24 1,
 qA 26 1 23 25,
 ql 27 26,
 sO 28 (.callv false (.t 18) [.t 22,.t 27])]
def r210_11:List SO:=[
 qM 38 1,
 qM 39 6,
 qM 40 7,
 qA 41 1 39 40,
 ql 42 41,
 qM 43 6,
 qM 44 7,
 qC 45 .sub 44 1,
 qA 46 1 43 45,
 ql 47 46,
 sO 48 (.callv false (.t 38) [.t 42,.t 47]),
 sO 49 (.un .not (.t 48))]
def r210_12:List SO:=[
 qM 50 0,
 qM 51 5,
 qM 52 6,
 qM 53 7,
 qA 54 1 52 53,
 ql 55 54,
 qA 56 1 50 51,
 sN (.store 1 (.t 56) (.t 55))]
def b210_1:SC:=.seq (.seq (.reg [qM 32 7,qM 33 6,qN 34 33,qP 35 .lss 32 34]) (.cond (.t 35) (.skip) (.exit 2))) (.seq (.block 3 (.seq (.reg r210_11) (.cond (.t 49) (.seq (.reg r210_12) (.reg [qM 57 5,qC 58 .add 57 1,qM 5 58])) (.skip)))) (.reg [qM 36 7,qC 37 .add 36 1,qM 7 37]))
def b210_0:SC:=.seq (.seq (.reg [qM 12 5,qM 13 0,qN 14 13,qP 15 .lss 12 14]) (.cond (.t 15) (.skip) (.exit 0))) (.seq (.block 1 (.seq (.reg r210_6) (.cond (.t 28) (.seq (.reg [qM 29 0,qM 30 5,sO 31 (.slice 1 (.t 29) (some (.t 30)) none),qM 6 31]) (.seq (.seq (.reg [qI 7 1]) (.block 2 (.loop b210_1))) (.seq (.reg [qM 59 0,qM 60 5,sO 61 (.slice 1 (.t 59) (some (.t 60)) none),sN (.clr [.nilsl] (.t 61))]) (.seq (.reg [qM 62 0,qM 63 5,sO 64 (.slice 1 (.t 62) none (some (.t 63))),qM 4 64]) (.ret))))) (.skip)))) (.reg [qM 16 5,qC 17 .add 16 1,qM 5 17]))
def s210:SF:=⟨66,[.tmp 4],.seq (.reg [sO 4 (.mv (.c (.nilsl)))]) (.seq (.seq (.reg [qM 8 0,qN 9 8,qC 10 .lss 9 2]) (.cond (.t 10) (.seq (.reg [qM 11 0,qM 4 11]) (.ret)) (.skip))) (.seq (.seq (.reg [qI 5 1]) (.block 0 (.loop b210_0))) (.seq (.reg [qM 65 0,qM 4 65]) (.ret))))⟩
theorem s210_ok:slimF Tryz.prog ⟨[58,129,130,131,149,155,161,182,183,185,191,192,208,209,210,224,228,231,236],[],[],[]⟩ Tryz.f210=some s210:=by kernel_rfl
def s211:SF:=⟨11,[.tmp 5],.seq (.reg [sO 5 (.mv (.c (.bool false)))]) (.seq (.reg [ql 6 2,qM 7 0,qM 8 1,sO 9 (.callv false (.t 6) [.t 7,.t 8]),qC 10 .eql 9 0,qM 5 10]) (.ret))⟩
theorem s211_ok:slimF Tryz.prog ⟨[58,129,130,131,149,155,161,182,183,185,191,192,208,209,210,224,228,231,236],[],[],[]⟩ Tryz.f211=some s211:=by kernel_rfl
theorem ord1_pure (a b:List Int):PureC Tryz.prog 211 [(ints a),(ints b),(V.pp [(V.fn 171 [] [])])] (V.bool (decide (slx a b=0))):=by
 refine pW Tryz.func211 s211_ok fun hB=>?_
 unfold s211
 dsimp only
 refine W_r (R_mv rfl (R_e (W_r (R_load_pp rfl rfl (R_mv rfl (R_mv rfl (R_callv (@rfl V (V.fn 171 [] [])) (evcons (@rfl V (ints a)) (evcons (@rfl V (ints b)) evnil)) (compare_pure a b) (fzv_mapcanon _ _ (by simp [-List.map_take,-List.map_drop,-List.map_append,-List.map_reverse])) (by simp [-List.map_take,-List.map_drop,-List.map_append,-List.map_reverse]) (Or.inl (by simp [-List.map_take,-List.map_drop,-List.map_append,-List.map_reverse])) ?_)))))))
 refine R_eql rfl rfl (R_mv rfl (R_e (W_ret ?_)))
 refine Ret_1 (@rfl V (V.bool (decide ((slx a b)=(0:Int))))) (fz_bool ?_)
 · rfl
theorem ord1L_pure (a b:List Int):PureC Tryz.prog 211 [(ints a),(ints b),(V.pp [(V.fn 169 [] [])])] (V.bool (decide (lexI a b=0))):=by
 refine pW Tryz.func211 s211_ok fun hB=>?_
 unfold s211
 dsimp only
 refine W_r (R_mv rfl (R_e (W_r (R_load_pp rfl rfl (R_mv rfl (R_mv rfl (R_callv (@rfl V (V.fn 169 [] [])) (evcons (@rfl V (ints a)) (evcons (@rfl V (ints b)) evnil)) (lex_pure a b) (fzv_mapcanon _ _ (by simp [-List.map_take,-List.map_drop,-List.map_append,-List.map_reverse])) (by simp [-List.map_take,-List.map_drop,-List.map_append,-List.map_reverse]) (Or.inl (by simp [-List.map_take,-List.map_drop,-List.map_append,-List.map_reverse])) ?_)))))))
 refine R_eql rfl rfl (R_mv rfl (R_e (W_ret ?_)))
 refine Ret_1 (@rfl V (V.bool (decide ((lexI a b)=(0:Int))))) (fz_bool ?_)
 · rfl
theorem compw_E (l:List (List Int)) (v2 v3 len:Nat) (Hi:Heap) (h202:Hi 202=(bz v2 38 1 (List.map cL (l)))) (h3:Hi 3=(bk v3 255 1 [[(V.fn 171 [] [])]])) (hn:len=l.length) (hl:l.length≤1073741824):CallOK Tryz.prog 210 [(V.ms 202 v2 0 (len)),(V.fn 211 [] [(V.mp 3 v3 0 0)])] Hi (V.ms 202 v2 0 ((ddK l l.length).length)) (upd Hi 202 (bz v2 38 1 (List.map cL (ddK l l.length)++List.replicate (l.length - (ddK l l.length).length) [V.nilsl]))):=by
 refine eW (k0:=400) Tryz.func210 s210_ok fun hB=>?_
 unfold s210
 dsimp only
 refine W_r (R_mv rfl (R_e (W_seq_seq (W_r (R_mv rfl (R_len_ms rfl h202 (by first|rfl|simp) (R_lss rfl rfl ?_)))))))
 refine R_e ?_
 refine W_seq_if rfl (fun c1=>?_) fun c1=>?_
 ·
  refine W_seq_seq (W_r (R_mv rfl (R_mv rfl (R_e (W_seq_ret (fork_ (R:=fun T H=>T 4=(V.ms 202 v2 0 (len))∧(∀ j,j∉[202]→H j=Hi j)∧H 3=(bk v3 255 1 [[(V.fn 171 [] [])]])∧H 202=(bz v2 38 1 (List.map cL (l)))∧True) ⟨(@rfl V (V.ms 202 v2 0 (len))),(fun _ _=>rfl),h3,h202,trivial⟩ ?_))))))
  intro T H ⟨t4,hF,h3,h202,_⟩
  have hall:=dd_all (l:=l) (fun i i1 i2=>by omega)
  have fh:=FinX.fin (FinX.put (B:=(bz v2 38 1 (List.map cL (ddK l l.length)++List.replicate (l.length - (ddK l l.length).length) [V.nilsl]))) (FinX.start hF) h202 (FinB.eq (by first|rfl|(rw [hd.2]; done)|(rw [hall]; simp; done)|(rw [q5.1,ddL_keep (show k+j < l.length by omega) (.inr d5)]; rfl)|(rw [q5.1,ddL_keep (show k+j < l.length by omega) (.inr d5)]; done)|(show _=(⟨_,_,_,_,_,List.map cL (ddL l ((k+j)+1))⟩:Blk); rw [ddL_skip (by rintro (q|q); omega; exact q d5)]; done)|(rw [dd_take (show l.length≤k+j by omega) hj,show k+j=l.length by omega]; done)|(rw [dd_take (show l.length≤k+j by omega) hj,show k+j=l.length by omega,hn]; done))))
  exact RetF_1 t4 fh (FinV.trans_eq (FinV.same fh _) (by first|rfl|(rw [hd.1]; done)|(rw [hall,hn]; done)|(rw [hall]; done)|(show _=iV (((ddK l ((k+j)+1)).length:Nat):Int); rw [ddK_keep (.inr d5),List.length_append]; rfl)|(show _=iV (((ddK l ((k+j)+1)).length:Nat):Int); rw [ddK_skip (by rintro (q|q); omega; exact q d5)]; done)|(rw [show k+j=l.length by omega]; done)))
 refine W_seq_skip (W_seq_seq (W_r (R_mv rfl (R_e (W_seq_blockg fun Q2 n2 x2 y2 z2=>?_)))))
 refine W_loop (fun mm T H=> ∃ (k:Nat),mm=l.length - k∧T 0=(V.ms 202 v2 0 (len))∧T 1=(V.fn 211 [] [(V.mp 3 v3 0 0)])∧T 5=(iV ((k:Nat):Int))∧(∀ j,j∉[202]→H j=Hi j)∧H 3=(bk v3 255 1 [[(V.fn 171 [] [])]])∧H 202=(bz v2 38 1 (List.map cL (l)))∧(1≤k)∧(k≤l.length)∧(∀ i,1≤i→i < k→nth l i≠nth l (i - 1))) ?_ ?_
 ·
  refine ⟨_,1,rfl,rfl,rfl,(Eq.trans (@rfl V (iV (1:Int))) rfl),(fun _ _=>rfl),h3,h202,?_,?_,?_⟩
  · omega
  · omega
  · intro i h1 h2; omega
 intro mm T H ⟨k,hmm,t0,t1,t5,hF,h3,h202,h1,hk,hc⟩ Q3 p13 p23 p33
 unfold b210_0
 refine W_seq_seq (W_r (R_mv t5 (R_mv t0 (R_len_ms rfl h202 (by first|rfl|simp) (R_lss rfl rfl (R_e ?_))))))
 refine W_seq_if rfl (fun c4=>?_) fun c4=>?_
 ·
  refine W_seq_skip (W_seq_blockg fun Q5 n5 x5 y5 z5=>(W_r (R_mv t1 (R_mv t0 (R_mv t5 (R_idx_ms0 (i:=k) (@rfl V (V.ms 202 v2 0 (len))) (@rfl V (iV ((k:Nat):Int))) h202 (okB_map (by first|omega|(simp only [List.length_take]; omega))) rfl (by first|omega|(simp only [List.length_take]; omega)) (R_load_mp (v:=(ints ((nth (l) (k))))) rfl h202 (ldB_map (by first|omega|(simp only [List.length_take]; omega)) (by first|rfl|(rw [cF_eq]; rfl)|simp [ldV,V.one])) ?_)))))))
  refine R_mv t0 (R_mv t5 (R_sub rfl rfl (by first|omega|(simp only [List.length_take]; omega)) (by first|omega|(simp only [List.length_take]; omega)) (R_idxI_ms0 (i:=(((k:Nat):Int) - (1:Int))) (@rfl V (V.ms 202 v2 0 (len))) (@rfl V (iV (((k:Nat):Int) - (1:Int)))) h202 (okB_map (by first|omega|(simp only [List.length_take]; omega))) rfl (by first|omega|(simp only [List.length_take]; omega)) (by first|omega|(simp only [List.length_take]; omega)) (R_load_mp (v:=(ints ((nth (l) (((((k:Nat):Int) - (1:Int))).toNat))))) rfl h202 (ldB_map (by first|omega|(simp only [List.length_take]; omega)) (by first|rfl|(rw [cF_eq]; rfl)|simp [ldV,V.one])) (R_callv (@rfl V (V.fn 211 [] [(V.mp 3 v3 0 0)])) (evcons (@rfl V (ints ((nth (l) (k))))) (evcons (@rfl V (ints ((nth (l) (((((k:Nat):Int) - (1:Int))).toNat))))) evnil)) (ord1_pure ((nth (l) (k))) ((nth (l) (((((k:Nat):Int) - (1:Int))).toNat)))) (mcons (fzv_canon 6 _ (by simp [-List.map_take,-List.map_drop,-List.map_append,-List.map_reverse])) (mcons (fzv_canon 6 _ (by simp [-List.map_take,-List.map_drop,-List.map_append,-List.map_reverse])) (mcons (by first|rfl|simp [fzv,Blk.own,h3,h202]) rfl))) (by simp [-List.map_take,-List.map_drop,-List.map_append,-List.map_reverse]) (Or.inr rfl) (R_e ?_))))))
  refine W_if rfl (fun c6=>?_) fun c6=>?_
  ·
   have d1:nth l k=nth l (k - 1):=by have q:=slx_zero.1 c6; rwa [show (((k:Nat):Int) - (1:Int)).toNat=k - 1 by omega] at q
   have hd:=dd_start h1 (by omega) hc d1
   refine W_r (R_mv t0 (R_mv t5 (R_slice_ms_lo (n:=k) (@rfl V (V.ms 202 v2 0 (len))) (@rfl V (iV ((k:Nat):Int))) h202 (okB_map (by first|omega|(simp only [List.length_take]; omega))) rfl (by first|omega|(simp only [List.length_take]; omega)) (R_mv rfl (R_e (W_seq_seq (W_r ?_)))))))
   refine R_mv rfl (R_e (W_seq_blockg fun Q7 n7 x7 y7 z7=>?_))
   refine W_loop (fun mm T H=> ∃ (j:Nat),mm=l.length - (k+j)∧T 0=(V.ms 202 v2 0 (len))∧T 1=(V.fn 211 [] [(V.mp 3 v3 0 0)])∧T 5=(iV (((ddK l (k+j)).length:Nat):Int))∧T 6=(V.ms 202 v2 (0+k) (len - k))∧T 7=(iV ((j:Nat):Int))∧(∀ j,j∉[202]→H j=Hi j)∧H 3=(bk v3 255 1 [[(V.fn 171 [] [])]])∧H 202=(bz v2 38 1 (List.map cL (ddL l (k+j))))∧(k+j≤l.length)∧(1≤j)∧((ddK l (k+j)).length < k+j)) ?_ ?_
   ·
    refine ⟨_,1,rfl,t0,t1,(Eq.trans t5 (by first|rfl|(rw [hd.1]; done)|(rw [hall,hn]; done)|(rw [hall]; done)|(show _=iV (((ddK l ((k+j)+1)).length:Nat):Int); rw [ddK_keep (.inr d5),List.length_append]; rfl)|(show _=iV (((ddK l ((k+j)+1)).length:Nat):Int); rw [ddK_skip (by rintro (q|q); omega; exact q d5)]; done)|(rw [show k+j=l.length by omega]; done))),(Eq.trans (@rfl V (V.ms 202 v2 (0+k) (len - k))) (by first|rfl|(rw [hd.1]; done)|(rw [hall,hn]; done)|(rw [hall]; done)|(show _=iV (((ddK l ((k+j)+1)).length:Nat):Int); rw [ddK_keep (.inr d5),List.length_append]; rfl)|(show _=iV (((ddK l ((k+j)+1)).length:Nat):Int); rw [ddK_skip (by rintro (q|q); omega; exact q d5)]; done)|(rw [show k+j=l.length by omega]; done))),(Eq.trans (@rfl V (iV (1:Int))) rfl),hF,h3,(Eq.trans h202 (by first|rfl|(rw [hd.2]; done)|(rw [hall]; simp; done)|(rw [q5.1,ddL_keep (show k+j < l.length by omega) (.inr d5)]; rfl)|(rw [q5.1,ddL_keep (show k+j < l.length by omega) (.inr d5)]; done)|(show _=(⟨_,_,_,_,_,List.map cL (ddL l ((k+j)+1))⟩:Blk); rw [ddL_skip (by rintro (q|q); omega; exact q d5)]; done)|(rw [dd_take (show l.length≤k+j by omega) hj,show k+j=l.length by omega]; done)|(rw [dd_take (show l.length≤k+j by omega) hj,show k+j=l.length by omega,hn]; done))),?_,?_,?_⟩
    · omega
    · omega
    · rw [hd.1]; omega
   intro mm T H ⟨j,hmm,t0,t1,t5,t6,t7,hF,h3,h202,hj,hj1,hlt⟩ Q8 p18 p28 p38
   unfold b210_1
   have q1:=ddL_len (L:=l) (j:=k+j) hj
   have q5:=dd_at hlt hj1
   have q6:=dd_pos (l:=l) (j:=k+j) (by omega)
   refine W_seq_seq (W_r (R_mv t7 (R_mv t6 (R_len_ms rfl h202 (by first|rfl|simp) (R_lss rfl rfl (R_e ?_))))))
   refine W_seq_if rfl (fun c9=>?_) fun c9=>?_
   ·
    refine W_seq_skip (W_seq_blockg fun Q10 n10 x10 y10 z10=>(W_r (R_mv t1 (R_mv t6 (R_mv t7 (R_idx_ms (i:=j) (@rfl V (V.ms 202 v2 (0+k) (len - k))) (@rfl V (iV ((j:Nat):Int))) h202 (okB_map (by first|omega|(simp only [List.length_take]; omega))) rfl (by first|omega|(simp only [List.length_take]; omega)) (R_load_mp (v:=(ints ((nth (ddL l (k+j)) ((0+k)+(j)))))) rfl h202 (ldB_map (by first|omega|(simp only [List.length_take]; omega)) (by first|rfl|(rw [cF_eq]; rfl)|simp [ldV,V.one])) ?_)))))))
    refine R_mv t6 (R_mv t7 (R_sub rfl rfl (by first|omega|(simp only [List.length_take]; omega)) (by first|omega|(simp only [List.length_take]; omega)) (R_idxI_ms (i:=(((j:Nat):Int) - (1:Int))) (@rfl V (V.ms 202 v2 (0+k) (len - k))) (@rfl V (iV (((j:Nat):Int) - (1:Int)))) h202 (okB_map (by first|omega|(simp only [List.length_take]; omega))) rfl (by first|omega|(simp only [List.length_take]; omega)) (by first|omega|(simp only [List.length_take]; omega)) (R_load_mp (v:=(ints ((nth (ddL l (k+j)) ((0+k)+((((j:Nat):Int) - (1:Int))).toNat))))) rfl h202 (ldB_map (by first|omega|(simp only [List.length_take]; omega)) (by first|rfl|(rw [cF_eq]; rfl)|simp [ldV,V.one])) (R_callv (@rfl V (V.fn 211 [] [(V.mp 3 v3 0 0)])) (evcons (@rfl V (ints ((nth (ddL l (k+j)) ((0+k)+(j)))))) (evcons (@rfl V (ints ((nth (ddL l (k+j)) ((0+k)+((((j:Nat):Int) - (1:Int))).toNat))))) evnil)) (ord1_pure ((nth (ddL l (k+j)) ((0+k)+(j)))) ((nth (ddL l (k+j)) ((0+k)+((((j:Nat):Int) - (1:Int))).toNat)))) (mcons (fzv_canon 6 _ (by simp [-List.map_take,-List.map_drop,-List.map_append,-List.map_reverse])) (mcons (fzv_canon 6 _ (by simp [-List.map_take,-List.map_drop,-List.map_append,-List.map_reverse])) (mcons (by first|rfl|simp [fzv,Blk.own,h3,h202]) rfl))) (by simp [-List.map_take,-List.map_drop,-List.map_append,-List.map_reverse]) (Or.inr rfl) (R_not rfl (R_e ?_)))))))
    refine W_if rfl (fun c11=>?_) fun c11=>?_
    ·
     have d5:nth l (k+j)≠nth l (k+j - 1):=fun q=>c11 (slx_zero.2 (by rw [q5.1,q5.2]; exact q))
     refine W_r (R_mv t0 (R_mv t5 (R_mv t6 (R_mv t7 (R_idx_ms (i:=j) (@rfl V (V.ms 202 v2 (0+k) (len - k))) (@rfl V (iV ((j:Nat):Int))) h202 (okB_map (by first|omega|(simp only [List.length_take]; omega))) rfl (by first|omega|(simp only [List.length_take]; omega)) (R_load_mp (v:=(ints ((nth (ddL l (k+j)) ((0+k)+(j)))))) rfl h202 (ldB_map (by first|omega|(simp only [List.length_take]; omega)) (by first|rfl|(rw [cF_eq]; rfl)|simp [ldV,V.one])) (R_idx_ms0 (i:=((ddK l (k+j)).length)) (@rfl V (V.ms 202 v2 0 (len))) (@rfl V (iV (((ddK l (k+j)).length:Nat):Int))) h202 (okB_map (by first|omega|(simp only [List.length_take]; omega))) rfl (by first|omega|(simp only [List.length_take]; omega)) ?_)))))))
     refine R_store (vs:=[(ints ((nth (ddL l (k+j)) ((0+k)+(j)))))]) (B':=(bz v2 38 1 (List.map cL ((ddL l (k+j)).set ((ddK l (k+j)).length) ((nth (ddL l (k+j)) ((0+k)+(j)))))))) rfl rfl rfl h202 (stB_map (x:=((nth (ddL l (k+j)) ((0+k)+(j))))) (i:=((ddK l (k+j)).length)) (by first|omega|(simp only [List.length_take]; omega)) rfl rfl rfl rfl) (R_e (W_t (R_mv t5 (R_addN rfl (@rfl V (iV ((1:Nat):Int))) (by first|omega|(simp only [List.length_take]; omega)) (R_mv rfl (R_e (n10 _ _ ?_)))))))
     refine .done (W_t (R_mv t7 (R_addN rfl (@rfl V (iV ((1:Nat):Int))) (by first|omega|(simp only [List.length_take]; omega)) (R_mv rfl (R_e ?_)))))
     refine p18 _ _ _ ?_ ⟨(j+1),rfl,t0,t1,(Eq.trans (@rfl V (iV ((((ddK l (k+j)).length)+1:Nat):Int))) (by first|rfl|(rw [hd.1]; done)|(rw [hall,hn]; done)|(rw [hall]; done)|(show _=iV (((ddK l ((k+j)+1)).length:Nat):Int); rw [ddK_keep (.inr d5),List.length_append]; rfl)|(show _=iV (((ddK l ((k+j)+1)).length:Nat):Int); rw [ddK_skip (by rintro (q|q); omega; exact q d5)]; done)|(rw [show k+j=l.length by omega]; done))),(Eq.trans t6 (by first|rfl|(rw [hd.1]; done)|(rw [hall,hn]; done)|(rw [hall]; done)|(show _=iV (((ddK l ((k+j)+1)).length:Nat):Int); rw [ddK_keep (.inr d5),List.length_append]; rfl)|(show _=iV (((ddK l ((k+j)+1)).length:Nat):Int); rw [ddK_skip (by rintro (q|q); omega; exact q d5)]; done)|(rw [show k+j=l.length by omega]; done))),(Eq.trans (@rfl V (iV ((j+1:Nat):Int))) (by first|rfl|(rw [hd.1]; done)|(rw [hall,hn]; done)|(rw [hall]; done)|(show _=iV (((ddK l ((k+j)+1)).length:Nat):Int); rw [ddK_keep (.inr d5),List.length_append]; rfl)|(show _=iV (((ddK l ((k+j)+1)).length:Nat):Int); rw [ddK_skip (by rintro (q|q); omega; exact q d5)]; done)|(rw [show k+j=l.length by omega]; done))),(upd_out hF (by decide)),h3,(Eq.trans (@rfl Blk (bz v2 38 1 (List.map cL ((ddL l (k+j)).set ((ddK l (k+j)).length) ((nth (ddL l (k+j)) ((0+k)+(j)))))))) (by first|rfl|(rw [hd.2]; done)|(rw [hall]; simp; done)|(rw [q5.1,ddL_keep (show k+j < l.length by omega) (.inr d5)]; rfl)|(rw [q5.1,ddL_keep (show k+j < l.length by omega) (.inr d5)]; done)|(show _=(⟨_,_,_,_,_,List.map cL (ddL l ((k+j)+1))⟩:Blk); rw [ddL_skip (by rintro (q|q); omega; exact q d5)]; done)|(rw [dd_take (show l.length≤k+j by omega) hj,show k+j=l.length by omega]; done)|(rw [dd_take (show l.length≤k+j by omega) hj,show k+j=l.length by omega,hn]; done))),?_,?_,?_⟩
     · omega
     · omega
     · omega
     · first|(show (ddK l ((k+j)+1)).length < (k+j)+1; rw [ddK_keep (.inr d5),List.length_append]; simp; omega)|(show (ddK l ((k+j)+1)).length < (k+j)+1; rw [ddK_skip (by rintro (q|q); omega; exact q d5)]; omega)
    have d5:nth l (k+j)=nth l (k+j - 1):=by have q:=slx_zero.1 (Decidable.not_not.1 c11); rwa [q5.1,q5.2] at q
    refine W_skip (n10 _ _ (.done (W_t (R_mv t7 (R_addN rfl (@rfl V (iV ((1:Nat):Int))) (by first|omega|(simp only [List.length_take]; omega)) (R_mv rfl (R_e ?_)))))))
    refine p18 _ _ _ ?_ ⟨(j+1),rfl,t0,t1,(Eq.trans t5 (by first|rfl|(rw [hd.1]; done)|(rw [hall,hn]; done)|(rw [hall]; done)|(show _=iV (((ddK l ((k+j)+1)).length:Nat):Int); rw [ddK_keep (.inr d5),List.length_append]; rfl)|(show _=iV (((ddK l ((k+j)+1)).length:Nat):Int); rw [ddK_skip (by rintro (q|q); omega; exact q d5)]; done)|(rw [show k+j=l.length by omega]; done))),(Eq.trans t6 (by first|rfl|(rw [hd.1]; done)|(rw [hall,hn]; done)|(rw [hall]; done)|(show _=iV (((ddK l ((k+j)+1)).length:Nat):Int); rw [ddK_keep (.inr d5),List.length_append]; rfl)|(show _=iV (((ddK l ((k+j)+1)).length:Nat):Int); rw [ddK_skip (by rintro (q|q); omega; exact q d5)]; done)|(rw [show k+j=l.length by omega]; done))),(Eq.trans (@rfl V (iV ((j+1:Nat):Int))) (by first|rfl|(rw [hd.1]; done)|(rw [hall,hn]; done)|(rw [hall]; done)|(show _=iV (((ddK l ((k+j)+1)).length:Nat):Int); rw [ddK_keep (.inr d5),List.length_append]; rfl)|(show _=iV (((ddK l ((k+j)+1)).length:Nat):Int); rw [ddK_skip (by rintro (q|q); omega; exact q d5)]; done)|(rw [show k+j=l.length by omega]; done))),hF,h3,(Eq.trans h202 (by first|rfl|(rw [hd.2]; done)|(rw [hall]; simp; done)|(rw [q5.1,ddL_keep (show k+j < l.length by omega) (.inr d5)]; rfl)|(rw [q5.1,ddL_keep (show k+j < l.length by omega) (.inr d5)]; done)|(show _=(⟨_,_,_,_,_,List.map cL (ddL l ((k+j)+1))⟩:Blk); rw [ddL_skip (by rintro (q|q); omega; exact q d5)]; done)|(rw [dd_take (show l.length≤k+j by omega) hj,show k+j=l.length by omega]; done)|(rw [dd_take (show l.length≤k+j by omega) hj,show k+j=l.length by omega,hn]; done))),?_,?_,?_⟩
    · omega
    · omega
    · omega
    · first|(show (ddK l ((k+j)+1)).length < (k+j)+1; rw [ddK_keep (.inr d5),List.length_append]; simp; omega)|(show (ddK l ((k+j)+1)).length < (k+j)+1; rw [ddK_skip (by rintro (q|q); omega; exact q d5)]; omega)
   refine W_seq_exit (p38 _ _ _ (x7 _ _ (.done (W_r (R_mv t0 (R_mv t5 (R_slice_ms_lo (n:=((ddK l (k+j)).length)) (@rfl V (V.ms 202 v2 0 (len))) (@rfl V (iV (((ddK l (k+j)).length:Nat):Int))) h202 (okB_map (by first|omega|(simp only [List.length_take]; omega))) rfl (by first|omega|(simp only [List.length_take]; omega)) ?_)))))))
   refine R_clr (m:=(((ddK l (k+j)).length))) (n:=(len - ((ddK l (k+j)).length))) (f:=cL) (l:=(ddL l (k+j))) (Eq.trans (@rfl V (V.ms 202 v2 (0+((ddK l (k+j)).length)) (len - ((ddK l (k+j)).length)))) (congrArg (fun n=>V.ms 202 v2 n (len - ((ddK l (k+j)).length))) (Nat.zero_add _))) h202 rfl (by decide) rfl (by first|omega|(simp only [List.length_take]; omega)) (by first|omega|(simp only [List.length_take]; omega)) (R_e (W_r (R_mv t0 (R_mv t5 (R_slice_ms_hi (n:=((ddK l (k+j)).length)) (@rfl V (V.ms 202 v2 0 (len))) (@rfl V (iV (((ddK l (k+j)).length:Nat):Int))) (@rfl Blk (bz v2 38 1 (List.map cL (List.take (((ddK l (k+j)).length)) (ddL l (k+j)))++List.replicate (len - ((ddK l (k+j)).length)) [V.nilsl]))) (okB_zap (by first|omega|(simp only [List.length_take]; omega))) rfl (by first|omega|(simp only [List.length_take]; omega)) (R_mv rfl (R_e ?_)))))))
   refine W_ret (y5 _ _ (p23 _ _ (y2 _ _ (fork_ (R:=fun T H=>T 4=(V.ms 202 v2 0 ((ddK l (k+j)).length))∧(∀ j,j∉[202]→H j=Hi j)∧H 3=(bk v3 255 1 [[(V.fn 171 [] [])]])∧H 202=(bz v2 38 1 (List.map cL (List.take (((ddK l (k+j)).length)) (ddL l (k+j)))++List.replicate (len - ((ddK l (k+j)).length)) [V.nilsl]))∧True) ⟨(@rfl V (V.ms 202 v2 0 ((ddK l (k+j)).length))),(upd_out hF (by decide)),h3,rfl,trivial⟩ ?_))))
   intro T H ⟨t4,hF,h3,h202,_⟩
   skip
   have fh:=FinX.fin (FinX.put (B:=(bz v2 38 1 (List.map cL (ddK l l.length)++List.replicate (l.length - (ddK l l.length).length) [V.nilsl]))) (FinX.start hF) h202 (FinB.eq (by first|rfl|(rw [hd.2]; done)|(rw [hall]; simp; done)|(rw [q5.1,ddL_keep (show k+j < l.length by omega) (.inr d5)]; rfl)|(rw [q5.1,ddL_keep (show k+j < l.length by omega) (.inr d5)]; done)|(show _=(⟨_,_,_,_,_,List.map cL (ddL l ((k+j)+1))⟩:Blk); rw [ddL_skip (by rintro (q|q); omega; exact q d5)]; done)|(rw [dd_take (show l.length≤k+j by omega) hj,show k+j=l.length by omega]; done)|(rw [dd_take (show l.length≤k+j by omega) hj,show k+j=l.length by omega,hn]; done))))
   exact RetF_1 t4 fh (FinV.trans_eq (FinV.same fh _) (by first|rfl|(rw [hd.1]; done)|(rw [hall,hn]; done)|(rw [hall]; done)|(show _=iV (((ddK l ((k+j)+1)).length:Nat):Int); rw [ddK_keep (.inr d5),List.length_append]; rfl)|(show _=iV (((ddK l ((k+j)+1)).length:Nat):Int); rw [ddK_skip (by rintro (q|q); omega; exact q d5)]; done)|(rw [show k+j=l.length by omega]; done)))
  have d1:nth l k≠nth l (k - 1):=fun q=>c6 (slx_zero.2 (by rw [show (((k:Nat):Int) - (1:Int)).toNat=k - 1 by omega]; exact q))
  refine W_skip (n5 _ _ (.done (W_t (R_mv t5 (R_addN rfl (@rfl V (iV ((1:Nat):Int))) (by first|omega|(simp only [List.length_take]; omega)) (R_mv rfl (R_e ?_)))))))
  refine p13 _ _ _ ?_ ⟨(k+1),rfl,t0,t1,(Eq.trans (@rfl V (iV ((k+1:Nat):Int))) (by first|rfl|(rw [hd.1]; done)|(rw [hall,hn]; done)|(rw [hall]; done)|(show _=iV (((ddK l ((k+j)+1)).length:Nat):Int); rw [ddK_keep (.inr d5),List.length_append]; rfl)|(show _=iV (((ddK l ((k+j)+1)).length:Nat):Int); rw [ddK_skip (by rintro (q|q); omega; exact q d5)]; done)|(rw [show k+j=l.length by omega]; done))),hF,h3,h202,?_,?_,?_⟩
  · omega
  · omega
  · omega
  · intro i i1 i2
    by_cases e:i=k
    · subst e; exact d1
    · exact hc i i1 (by omega)
 refine W_seq_exit (p33 _ _ _ (x2 _ _ (.done (W_r (R_mv t0 (R_mv rfl (R_e ?_)))))))
 refine W_ret (fork_ (R:=fun T H=>T 4=(V.ms 202 v2 0 (len))∧(∀ j,j∉[202]→H j=Hi j)∧H 3=(bk v3 255 1 [[(V.fn 171 [] [])]])∧H 202=(bz v2 38 1 (List.map cL (l)))∧True) ⟨(@rfl V (V.ms 202 v2 0 (len))),hF,h3,h202,trivial⟩ ?_)
 intro T H ⟨t4,hF,h3,h202,_⟩
 have hall:=dd_all (l:=l) (fun i i1 i2=>hc i i1 (by omega))
 have fh:=FinX.fin (FinX.put (B:=(bz v2 38 1 (List.map cL (ddK l l.length)++List.replicate (l.length - (ddK l l.length).length) [V.nilsl]))) (FinX.start hF) h202 (FinB.eq (by first|rfl|(rw [hd.2]; done)|(rw [hall]; simp; done)|(rw [q5.1,ddL_keep (show k+j < l.length by omega) (.inr d5)]; rfl)|(rw [q5.1,ddL_keep (show k+j < l.length by omega) (.inr d5)]; done)|(show _=(⟨_,_,_,_,_,List.map cL (ddL l ((k+j)+1))⟩:Blk); rw [ddL_skip (by rintro (q|q); omega; exact q d5)]; done)|(rw [dd_take (show l.length≤k+j by omega) hj,show k+j=l.length by omega]; done)|(rw [dd_take (show l.length≤k+j by omega) hj,show k+j=l.length by omega,hn]; done))))
 exact RetF_1 t4 fh (FinV.trans_eq (FinV.same fh _) (by first|rfl|(rw [hd.1]; done)|(rw [hall,hn]; done)|(rw [hall]; done)|(show _=iV (((ddK l ((k+j)+1)).length:Nat):Int); rw [ddK_keep (.inr d5),List.length_append]; rfl)|(show _=iV (((ddK l ((k+j)+1)).length:Nat):Int); rw [ddK_skip (by rintro (q|q); omega; exact q d5)]; done)|(rw [show k+j=l.length by omega]; done)))
theorem compwL_E (l:List (List Int)) (v2 v3 len:Nat) (Hi:Heap) (h202:Hi 202=(bz v2 38 1 (List.map cL (l)))) (h3:Hi 3=(bk v3 255 1 [[(V.fn 169 [] [])]])) (hn:len=l.length) (hl:l.length≤1073741824):CallOK Tryz.prog 210 [(V.ms 202 v2 0 (len)),(V.fn 211 [] [(V.mp 3 v3 0 0)])] Hi (V.ms 202 v2 0 ((ddK l l.length).length)) (upd Hi 202 (bz v2 38 1 (List.map cL (ddK l l.length)++List.replicate (l.length - (ddK l l.length).length) [V.nilsl]))):=by
 refine eW (k0:=400) Tryz.func210 s210_ok fun hB=>?_
 unfold s210
 dsimp only
 refine W_r (R_mv rfl (R_e (W_seq_seq (W_r (R_mv rfl (R_len_ms rfl h202 (by first|rfl|simp) (R_lss rfl rfl ?_)))))))
 refine R_e ?_
 refine W_seq_if rfl (fun c1=>?_) fun c1=>?_
 ·
  refine W_seq_seq (W_r (R_mv rfl (R_mv rfl (R_e (W_seq_ret (fork_ (R:=fun T H=>T 4=(V.ms 202 v2 0 (len))∧(∀ j,j∉[202]→H j=Hi j)∧H 3=(bk v3 255 1 [[(V.fn 169 [] [])]])∧H 202=(bz v2 38 1 (List.map cL (l)))∧True) ⟨(@rfl V (V.ms 202 v2 0 (len))),(fun _ _=>rfl),h3,h202,trivial⟩ ?_))))))
  intro T H ⟨t4,hF,h3,h202,_⟩
  have hall:=dd_all (l:=l) (fun i i1 i2=>by omega)
  have fh:=FinX.fin (FinX.put (B:=(bz v2 38 1 (List.map cL (ddK l l.length)++List.replicate (l.length - (ddK l l.length).length) [V.nilsl]))) (FinX.start hF) h202 (FinB.eq (by first|rfl|(rw [hd.2]; done)|(rw [hall]; simp; done)|(rw [q5.1,ddL_keep (show k+j < l.length by omega) (.inr d5)]; rfl)|(rw [q5.1,ddL_keep (show k+j < l.length by omega) (.inr d5)]; done)|(show _=(⟨_,_,_,_,_,List.map cL (ddL l ((k+j)+1))⟩:Blk); rw [ddL_skip (by rintro (q|q); omega; exact q d5)]; done)|(rw [dd_take (show l.length≤k+j by omega) hj,show k+j=l.length by omega]; done)|(rw [dd_take (show l.length≤k+j by omega) hj,show k+j=l.length by omega,hn]; done))))
  exact RetF_1 t4 fh (FinV.trans_eq (FinV.same fh _) (by first|rfl|(rw [hd.1]; done)|(rw [hall,hn]; done)|(rw [hall]; done)|(show _=iV (((ddK l ((k+j)+1)).length:Nat):Int); rw [ddK_keep (.inr d5),List.length_append]; rfl)|(show _=iV (((ddK l ((k+j)+1)).length:Nat):Int); rw [ddK_skip (by rintro (q|q); omega; exact q d5)]; done)|(rw [show k+j=l.length by omega]; done)))
 refine W_seq_skip (W_seq_seq (W_r (R_mv rfl (R_e (W_seq_blockg fun Q2 n2 x2 y2 z2=>?_)))))
 refine W_loop (fun mm T H=> ∃ (k:Nat),mm=l.length - k∧T 0=(V.ms 202 v2 0 (len))∧T 1=(V.fn 211 [] [(V.mp 3 v3 0 0)])∧T 5=(iV ((k:Nat):Int))∧(∀ j,j∉[202]→H j=Hi j)∧H 3=(bk v3 255 1 [[(V.fn 169 [] [])]])∧H 202=(bz v2 38 1 (List.map cL (l)))∧(1≤k)∧(k≤l.length)∧(∀ i,1≤i→i < k→nth l i≠nth l (i - 1))) ?_ ?_
 ·
  refine ⟨_,1,rfl,rfl,rfl,(Eq.trans (@rfl V (iV (1:Int))) rfl),(fun _ _=>rfl),h3,h202,?_,?_,?_⟩
  · omega
  · omega
  · intro i h1 h2; omega
 intro mm T H ⟨k,hmm,t0,t1,t5,hF,h3,h202,h1,hk,hc⟩ Q3 p13 p23 p33
 unfold b210_0
 refine W_seq_seq (W_r (R_mv t5 (R_mv t0 (R_len_ms rfl h202 (by first|rfl|simp) (R_lss rfl rfl (R_e ?_))))))
 refine W_seq_if rfl (fun c4=>?_) fun c4=>?_
 ·
  refine W_seq_skip (W_seq_blockg fun Q5 n5 x5 y5 z5=>(W_r (R_mv t1 (R_mv t0 (R_mv t5 (R_idx_ms0 (i:=k) (@rfl V (V.ms 202 v2 0 (len))) (@rfl V (iV ((k:Nat):Int))) h202 (okB_map (by first|omega|(simp only [List.length_take]; omega))) rfl (by first|omega|(simp only [List.length_take]; omega)) (R_load_mp (v:=(ints ((nth (l) (k))))) rfl h202 (ldB_map (by first|omega|(simp only [List.length_take]; omega)) (by first|rfl|(rw [cF_eq]; rfl)|simp [ldV,V.one])) ?_)))))))
  refine R_mv t0 (R_mv t5 (R_sub rfl rfl (by first|omega|(simp only [List.length_take]; omega)) (by first|omega|(simp only [List.length_take]; omega)) (R_idxI_ms0 (i:=(((k:Nat):Int) - (1:Int))) (@rfl V (V.ms 202 v2 0 (len))) (@rfl V (iV (((k:Nat):Int) - (1:Int)))) h202 (okB_map (by first|omega|(simp only [List.length_take]; omega))) rfl (by first|omega|(simp only [List.length_take]; omega)) (by first|omega|(simp only [List.length_take]; omega)) (R_load_mp (v:=(ints ((nth (l) (((((k:Nat):Int) - (1:Int))).toNat))))) rfl h202 (ldB_map (by first|omega|(simp only [List.length_take]; omega)) (by first|rfl|(rw [cF_eq]; rfl)|simp [ldV,V.one])) (R_callv (@rfl V (V.fn 211 [] [(V.mp 3 v3 0 0)])) (evcons (@rfl V (ints ((nth (l) (k))))) (evcons (@rfl V (ints ((nth (l) (((((k:Nat):Int) - (1:Int))).toNat))))) evnil)) (ord1L_pure ((nth (l) (k))) ((nth (l) (((((k:Nat):Int) - (1:Int))).toNat)))) (mcons (fzv_canon 6 _ (by simp [-List.map_take,-List.map_drop,-List.map_append,-List.map_reverse])) (mcons (fzv_canon 6 _ (by simp [-List.map_take,-List.map_drop,-List.map_append,-List.map_reverse])) (mcons (by first|rfl|simp [fzv,Blk.own,h3,h202]) rfl))) (by simp [-List.map_take,-List.map_drop,-List.map_append,-List.map_reverse]) (Or.inr rfl) (R_e ?_))))))
  refine W_if rfl (fun c6=>?_) fun c6=>?_
  ·
   have d1:nth l k=nth l (k - 1):=by have q:=lexI_zero.1 c6; rwa [show (((k:Nat):Int) - (1:Int)).toNat=k - 1 by omega] at q
   have hd:=dd_start h1 (by omega) hc d1
   refine W_r (R_mv t0 (R_mv t5 (R_slice_ms_lo (n:=k) (@rfl V (V.ms 202 v2 0 (len))) (@rfl V (iV ((k:Nat):Int))) h202 (okB_map (by first|omega|(simp only [List.length_take]; omega))) rfl (by first|omega|(simp only [List.length_take]; omega)) (R_mv rfl (R_e (W_seq_seq (W_r ?_)))))))
   refine R_mv rfl (R_e (W_seq_blockg fun Q7 n7 x7 y7 z7=>?_))
   refine W_loop (fun mm T H=> ∃ (j:Nat),mm=l.length - (k+j)∧T 0=(V.ms 202 v2 0 (len))∧T 1=(V.fn 211 [] [(V.mp 3 v3 0 0)])∧T 5=(iV (((ddK l (k+j)).length:Nat):Int))∧T 6=(V.ms 202 v2 (0+k) (len - k))∧T 7=(iV ((j:Nat):Int))∧(∀ j,j∉[202]→H j=Hi j)∧H 3=(bk v3 255 1 [[(V.fn 169 [] [])]])∧H 202=(bz v2 38 1 (List.map cL (ddL l (k+j))))∧(k+j≤l.length)∧(1≤j)∧((ddK l (k+j)).length < k+j)) ?_ ?_
   ·
    refine ⟨_,1,rfl,t0,t1,(Eq.trans t5 (by first|rfl|(rw [hd.1]; done)|(rw [hall,hn]; done)|(rw [hall]; done)|(show _=iV (((ddK l ((k+j)+1)).length:Nat):Int); rw [ddK_keep (.inr d5),List.length_append]; rfl)|(show _=iV (((ddK l ((k+j)+1)).length:Nat):Int); rw [ddK_skip (by rintro (q|q); omega; exact q d5)]; done)|(rw [show k+j=l.length by omega]; done))),(Eq.trans (@rfl V (V.ms 202 v2 (0+k) (len - k))) (by first|rfl|(rw [hd.1]; done)|(rw [hall,hn]; done)|(rw [hall]; done)|(show _=iV (((ddK l ((k+j)+1)).length:Nat):Int); rw [ddK_keep (.inr d5),List.length_append]; rfl)|(show _=iV (((ddK l ((k+j)+1)).length:Nat):Int); rw [ddK_skip (by rintro (q|q); omega; exact q d5)]; done)|(rw [show k+j=l.length by omega]; done))),(Eq.trans (@rfl V (iV (1:Int))) rfl),hF,h3,(Eq.trans h202 (by first|rfl|(rw [hd.2]; done)|(rw [hall]; simp; done)|(rw [q5.1,ddL_keep (show k+j < l.length by omega) (.inr d5)]; rfl)|(rw [q5.1,ddL_keep (show k+j < l.length by omega) (.inr d5)]; done)|(show _=(⟨_,_,_,_,_,List.map cL (ddL l ((k+j)+1))⟩:Blk); rw [ddL_skip (by rintro (q|q); omega; exact q d5)]; done)|(rw [dd_take (show l.length≤k+j by omega) hj,show k+j=l.length by omega]; done)|(rw [dd_take (show l.length≤k+j by omega) hj,show k+j=l.length by omega,hn]; done))),?_,?_,?_⟩
    · omega
    · omega
    · rw [hd.1]; omega
   intro mm T H ⟨j,hmm,t0,t1,t5,t6,t7,hF,h3,h202,hj,hj1,hlt⟩ Q8 p18 p28 p38
   unfold b210_1
   have q1:=ddL_len (L:=l) (j:=k+j) hj
   have q5:=dd_at hlt hj1
   have q6:=dd_pos (l:=l) (j:=k+j) (by omega)
   refine W_seq_seq (W_r (R_mv t7 (R_mv t6 (R_len_ms rfl h202 (by first|rfl|simp) (R_lss rfl rfl (R_e ?_))))))
   refine W_seq_if rfl (fun c9=>?_) fun c9=>?_
   ·
    refine W_seq_skip (W_seq_blockg fun Q10 n10 x10 y10 z10=>(W_r (R_mv t1 (R_mv t6 (R_mv t7 (R_idx_ms (i:=j) (@rfl V (V.ms 202 v2 (0+k) (len - k))) (@rfl V (iV ((j:Nat):Int))) h202 (okB_map (by first|omega|(simp only [List.length_take]; omega))) rfl (by first|omega|(simp only [List.length_take]; omega)) (R_load_mp (v:=(ints ((nth (ddL l (k+j)) ((0+k)+(j)))))) rfl h202 (ldB_map (by first|omega|(simp only [List.length_take]; omega)) (by first|rfl|(rw [cF_eq]; rfl)|simp [ldV,V.one])) ?_)))))))
    refine R_mv t6 (R_mv t7 (R_sub rfl rfl (by first|omega|(simp only [List.length_take]; omega)) (by first|omega|(simp only [List.length_take]; omega)) (R_idxI_ms (i:=(((j:Nat):Int) - (1:Int))) (@rfl V (V.ms 202 v2 (0+k) (len - k))) (@rfl V (iV (((j:Nat):Int) - (1:Int)))) h202 (okB_map (by first|omega|(simp only [List.length_take]; omega))) rfl (by first|omega|(simp only [List.length_take]; omega)) (by first|omega|(simp only [List.length_take]; omega)) (R_load_mp (v:=(ints ((nth (ddL l (k+j)) ((0+k)+((((j:Nat):Int) - (1:Int))).toNat))))) rfl h202 (ldB_map (by first|omega|(simp only [List.length_take]; omega)) (by first|rfl|(rw [cF_eq]; rfl)|simp [ldV,V.one])) (R_callv (@rfl V (V.fn 211 [] [(V.mp 3 v3 0 0)])) (evcons (@rfl V (ints ((nth (ddL l (k+j)) ((0+k)+(j)))))) (evcons (@rfl V (ints ((nth (ddL l (k+j)) ((0+k)+((((j:Nat):Int) - (1:Int))).toNat))))) evnil)) (ord1L_pure ((nth (ddL l (k+j)) ((0+k)+(j)))) ((nth (ddL l (k+j)) ((0+k)+((((j:Nat):Int) - (1:Int))).toNat)))) (mcons (fzv_canon 6 _ (by simp [-List.map_take,-List.map_drop,-List.map_append,-List.map_reverse])) (mcons (fzv_canon 6 _ (by simp [-List.map_take,-List.map_drop,-List.map_append,-List.map_reverse])) (mcons (by first|rfl|simp [fzv,Blk.own,h3,h202]) rfl))) (by simp [-List.map_take,-List.map_drop,-List.map_append,-List.map_reverse]) (Or.inr rfl) (R_not rfl (R_e ?_)))))))
    refine W_if rfl (fun c11=>?_) fun c11=>?_
    ·
     have d5:nth l (k+j)≠nth l (k+j - 1):=fun q=>c11 (lexI_zero.2 (by rw [q5.1,q5.2]; exact q))
     refine W_r (R_mv t0 (R_mv t5 (R_mv t6 (R_mv t7 (R_idx_ms (i:=j) (@rfl V (V.ms 202 v2 (0+k) (len - k))) (@rfl V (iV ((j:Nat):Int))) h202 (okB_map (by first|omega|(simp only [List.length_take]; omega))) rfl (by first|omega|(simp only [List.length_take]; omega)) (R_load_mp (v:=(ints ((nth (ddL l (k+j)) ((0+k)+(j)))))) rfl h202 (ldB_map (by first|omega|(simp only [List.length_take]; omega)) (by first|rfl|(rw [cF_eq]; rfl)|simp [ldV,V.one])) (R_idx_ms0 (i:=((ddK l (k+j)).length)) (@rfl V (V.ms 202 v2 0 (len))) (@rfl V (iV (((ddK l (k+j)).length:Nat):Int))) h202 (okB_map (by first|omega|(simp only [List.length_take]; omega))) rfl (by first|omega|(simp only [List.length_take]; omega)) ?_)))))))
     refine R_store (vs:=[(ints ((nth (ddL l (k+j)) ((0+k)+(j)))))]) (B':=(bz v2 38 1 (List.map cL ((ddL l (k+j)).set ((ddK l (k+j)).length) ((nth (ddL l (k+j)) ((0+k)+(j)))))))) rfl rfl rfl h202 (stB_map (x:=((nth (ddL l (k+j)) ((0+k)+(j))))) (i:=((ddK l (k+j)).length)) (by first|omega|(simp only [List.length_take]; omega)) rfl rfl rfl rfl) (R_e (W_t (R_mv t5 (R_addN rfl (@rfl V (iV ((1:Nat):Int))) (by first|omega|(simp only [List.length_take]; omega)) (R_mv rfl (R_e (n10 _ _ ?_)))))))
     refine .done (W_t (R_mv t7 (R_addN rfl (@rfl V (iV ((1:Nat):Int))) (by first|omega|(simp only [List.length_take]; omega)) (R_mv rfl (R_e ?_)))))
     refine p18 _ _ _ ?_ ⟨(j+1),rfl,t0,t1,(Eq.trans (@rfl V (iV ((((ddK l (k+j)).length)+1:Nat):Int))) (by first|rfl|(rw [hd.1]; done)|(rw [hall,hn]; done)|(rw [hall]; done)|(show _=iV (((ddK l ((k+j)+1)).length:Nat):Int); rw [ddK_keep (.inr d5),List.length_append]; rfl)|(show _=iV (((ddK l ((k+j)+1)).length:Nat):Int); rw [ddK_skip (by rintro (q|q); omega; exact q d5)]; done)|(rw [show k+j=l.length by omega]; done))),(Eq.trans t6 (by first|rfl|(rw [hd.1]; done)|(rw [hall,hn]; done)|(rw [hall]; done)|(show _=iV (((ddK l ((k+j)+1)).length:Nat):Int); rw [ddK_keep (.inr d5),List.length_append]; rfl)|(show _=iV (((ddK l ((k+j)+1)).length:Nat):Int); rw [ddK_skip (by rintro (q|q); omega; exact q d5)]; done)|(rw [show k+j=l.length by omega]; done))),(Eq.trans (@rfl V (iV ((j+1:Nat):Int))) (by first|rfl|(rw [hd.1]; done)|(rw [hall,hn]; done)|(rw [hall]; done)|(show _=iV (((ddK l ((k+j)+1)).length:Nat):Int); rw [ddK_keep (.inr d5),List.length_append]; rfl)|(show _=iV (((ddK l ((k+j)+1)).length:Nat):Int); rw [ddK_skip (by rintro (q|q); omega; exact q d5)]; done)|(rw [show k+j=l.length by omega]; done))),(upd_out hF (by decide)),h3,(Eq.trans (@rfl Blk (bz v2 38 1 (List.map cL ((ddL l (k+j)).set ((ddK l (k+j)).length) ((nth (ddL l (k+j)) ((0+k)+(j)))))))) (by first|rfl|(rw [hd.2]; done)|(rw [hall]; simp; done)|(rw [q5.1,ddL_keep (show k+j < l.length by omega) (.inr d5)]; rfl)|(rw [q5.1,ddL_keep (show k+j < l.length by omega) (.inr d5)]; done)|(show _=(⟨_,_,_,_,_,List.map cL (ddL l ((k+j)+1))⟩:Blk); rw [ddL_skip (by rintro (q|q); omega; exact q d5)]; done)|(rw [dd_take (show l.length≤k+j by omega) hj,show k+j=l.length by omega]; done)|(rw [dd_take (show l.length≤k+j by omega) hj,show k+j=l.length by omega,hn]; done))),?_,?_,?_⟩
     · omega
     · omega
     · omega
     · first|(show (ddK l ((k+j)+1)).length < (k+j)+1; rw [ddK_keep (.inr d5),List.length_append]; simp; omega)|(show (ddK l ((k+j)+1)).length < (k+j)+1; rw [ddK_skip (by rintro (q|q); omega; exact q d5)]; omega)
    have d5:nth l (k+j)=nth l (k+j - 1):=by have q:=lexI_zero.1 (Decidable.not_not.1 c11); rwa [q5.1,q5.2] at q
    refine W_skip (n10 _ _ (.done (W_t (R_mv t7 (R_addN rfl (@rfl V (iV ((1:Nat):Int))) (by first|omega|(simp only [List.length_take]; omega)) (R_mv rfl (R_e ?_)))))))
    refine p18 _ _ _ ?_ ⟨(j+1),rfl,t0,t1,(Eq.trans t5 (by first|rfl|(rw [hd.1]; done)|(rw [hall,hn]; done)|(rw [hall]; done)|(show _=iV (((ddK l ((k+j)+1)).length:Nat):Int); rw [ddK_keep (.inr d5),List.length_append]; rfl)|(show _=iV (((ddK l ((k+j)+1)).length:Nat):Int); rw [ddK_skip (by rintro (q|q); omega; exact q d5)]; done)|(rw [show k+j=l.length by omega]; done))),(Eq.trans t6 (by first|rfl|(rw [hd.1]; done)|(rw [hall,hn]; done)|(rw [hall]; done)|(show _=iV (((ddK l ((k+j)+1)).length:Nat):Int); rw [ddK_keep (.inr d5),List.length_append]; rfl)|(show _=iV (((ddK l ((k+j)+1)).length:Nat):Int); rw [ddK_skip (by rintro (q|q); omega; exact q d5)]; done)|(rw [show k+j=l.length by omega]; done))),(Eq.trans (@rfl V (iV ((j+1:Nat):Int))) (by first|rfl|(rw [hd.1]; done)|(rw [hall,hn]; done)|(rw [hall]; done)|(show _=iV (((ddK l ((k+j)+1)).length:Nat):Int); rw [ddK_keep (.inr d5),List.length_append]; rfl)|(show _=iV (((ddK l ((k+j)+1)).length:Nat):Int); rw [ddK_skip (by rintro (q|q); omega; exact q d5)]; done)|(rw [show k+j=l.length by omega]; done))),hF,h3,(Eq.trans h202 (by first|rfl|(rw [hd.2]; done)|(rw [hall]; simp; done)|(rw [q5.1,ddL_keep (show k+j < l.length by omega) (.inr d5)]; rfl)|(rw [q5.1,ddL_keep (show k+j < l.length by omega) (.inr d5)]; done)|(show _=(⟨_,_,_,_,_,List.map cL (ddL l ((k+j)+1))⟩:Blk); rw [ddL_skip (by rintro (q|q); omega; exact q d5)]; done)|(rw [dd_take (show l.length≤k+j by omega) hj,show k+j=l.length by omega]; done)|(rw [dd_take (show l.length≤k+j by omega) hj,show k+j=l.length by omega,hn]; done))),?_,?_,?_⟩
    · omega
    · omega
    · omega
    · first|(show (ddK l ((k+j)+1)).length < (k+j)+1; rw [ddK_keep (.inr d5),List.length_append]; simp; omega)|(show (ddK l ((k+j)+1)).length < (k+j)+1; rw [ddK_skip (by rintro (q|q); omega; exact q d5)]; omega)
   refine W_seq_exit (p38 _ _ _ (x7 _ _ (.done (W_r (R_mv t0 (R_mv t5 (R_slice_ms_lo (n:=((ddK l (k+j)).length)) (@rfl V (V.ms 202 v2 0 (len))) (@rfl V (iV (((ddK l (k+j)).length:Nat):Int))) h202 (okB_map (by first|omega|(simp only [List.length_take]; omega))) rfl (by first|omega|(simp only [List.length_take]; omega)) ?_)))))))
   refine R_clr (m:=(((ddK l (k+j)).length))) (n:=(len - ((ddK l (k+j)).length))) (f:=cL) (l:=(ddL l (k+j))) (Eq.trans (@rfl V (V.ms 202 v2 (0+((ddK l (k+j)).length)) (len - ((ddK l (k+j)).length)))) (congrArg (fun n=>V.ms 202 v2 n (len - ((ddK l (k+j)).length))) (Nat.zero_add _))) h202 rfl (by decide) rfl (by first|omega|(simp only [List.length_take]; omega)) (by first|omega|(simp only [List.length_take]; omega)) (R_e (W_r (R_mv t0 (R_mv t5 (R_slice_ms_hi (n:=((ddK l (k+j)).length)) (@rfl V (V.ms 202 v2 0 (len))) (@rfl V (iV (((ddK l (k+j)).length:Nat):Int))) (@rfl Blk (bz v2 38 1 (List.map cL (List.take (((ddK l (k+j)).length)) (ddL l (k+j)))++List.replicate (len - ((ddK l (k+j)).length)) [V.nilsl]))) (okB_zap (by first|omega|(simp only [List.length_take]; omega))) rfl (by first|omega|(simp only [List.length_take]; omega)) (R_mv rfl (R_e ?_)))))))
   refine W_ret (y5 _ _ (p23 _ _ (y2 _ _ (fork_ (R:=fun T H=>T 4=(V.ms 202 v2 0 ((ddK l (k+j)).length))∧(∀ j,j∉[202]→H j=Hi j)∧H 3=(bk v3 255 1 [[(V.fn 169 [] [])]])∧H 202=(bz v2 38 1 (List.map cL (List.take (((ddK l (k+j)).length)) (ddL l (k+j)))++List.replicate (len - ((ddK l (k+j)).length)) [V.nilsl]))∧True) ⟨(@rfl V (V.ms 202 v2 0 ((ddK l (k+j)).length))),(upd_out hF (by decide)),h3,rfl,trivial⟩ ?_))))
   intro T H ⟨t4,hF,h3,h202,_⟩
   skip
   have fh:=FinX.fin (FinX.put (B:=(bz v2 38 1 (List.map cL (ddK l l.length)++List.replicate (l.length - (ddK l l.length).length) [V.nilsl]))) (FinX.start hF) h202 (FinB.eq (by first|rfl|(rw [hd.2]; done)|(rw [hall]; simp; done)|(rw [q5.1,ddL_keep (show k+j < l.length by omega) (.inr d5)]; rfl)|(rw [q5.1,ddL_keep (show k+j < l.length by omega) (.inr d5)]; done)|(show _=(⟨_,_,_,_,_,List.map cL (ddL l ((k+j)+1))⟩:Blk); rw [ddL_skip (by rintro (q|q); omega; exact q d5)]; done)|(rw [dd_take (show l.length≤k+j by omega) hj,show k+j=l.length by omega]; done)|(rw [dd_take (show l.length≤k+j by omega) hj,show k+j=l.length by omega,hn]; done))))
   exact RetF_1 t4 fh (FinV.trans_eq (FinV.same fh _) (by first|rfl|(rw [hd.1]; done)|(rw [hall,hn]; done)|(rw [hall]; done)|(show _=iV (((ddK l ((k+j)+1)).length:Nat):Int); rw [ddK_keep (.inr d5),List.length_append]; rfl)|(show _=iV (((ddK l ((k+j)+1)).length:Nat):Int); rw [ddK_skip (by rintro (q|q); omega; exact q d5)]; done)|(rw [show k+j=l.length by omega]; done)))
  have d1:nth l k≠nth l (k - 1):=fun q=>c6 (lexI_zero.2 (by rw [show (((k:Nat):Int) - (1:Int)).toNat=k - 1 by omega]; exact q))
  refine W_skip (n5 _ _ (.done (W_t (R_mv t5 (R_addN rfl (@rfl V (iV ((1:Nat):Int))) (by first|omega|(simp only [List.length_take]; omega)) (R_mv rfl (R_e ?_)))))))
  refine p13 _ _ _ ?_ ⟨(k+1),rfl,t0,t1,(Eq.trans (@rfl V (iV ((k+1:Nat):Int))) (by first|rfl|(rw [hd.1]; done)|(rw [hall,hn]; done)|(rw [hall]; done)|(show _=iV (((ddK l ((k+j)+1)).length:Nat):Int); rw [ddK_keep (.inr d5),List.length_append]; rfl)|(show _=iV (((ddK l ((k+j)+1)).length:Nat):Int); rw [ddK_skip (by rintro (q|q); omega; exact q d5)]; done)|(rw [show k+j=l.length by omega]; done))),hF,h3,h202,?_,?_,?_⟩
  · omega
  · omega
  · omega
  · intro i i1 i2
    by_cases e:i=k
    · subst e; exact d1
    · exact hc i i1 (by omega)
 refine W_seq_exit (p33 _ _ _ (x2 _ _ (.done (W_r (R_mv t0 (R_mv rfl (R_e ?_)))))))
 refine W_ret (fork_ (R:=fun T H=>T 4=(V.ms 202 v2 0 (len))∧(∀ j,j∉[202]→H j=Hi j)∧H 3=(bk v3 255 1 [[(V.fn 169 [] [])]])∧H 202=(bz v2 38 1 (List.map cL (l)))∧True) ⟨(@rfl V (V.ms 202 v2 0 (len))),hF,h3,h202,trivial⟩ ?_)
 intro T H ⟨t4,hF,h3,h202,_⟩
 have hall:=dd_all (l:=l) (fun i i1 i2=>hc i i1 (by omega))
 have fh:=FinX.fin (FinX.put (B:=(bz v2 38 1 (List.map cL (ddK l l.length)++List.replicate (l.length - (ddK l l.length).length) [V.nilsl]))) (FinX.start hF) h202 (FinB.eq (by first|rfl|(rw [hd.2]; done)|(rw [hall]; simp; done)|(rw [q5.1,ddL_keep (show k+j < l.length by omega) (.inr d5)]; rfl)|(rw [q5.1,ddL_keep (show k+j < l.length by omega) (.inr d5)]; done)|(show _=(⟨_,_,_,_,_,List.map cL (ddL l ((k+j)+1))⟩:Blk); rw [ddL_skip (by rintro (q|q); omega; exact q d5)]; done)|(rw [dd_take (show l.length≤k+j by omega) hj,show k+j=l.length by omega]; done)|(rw [dd_take (show l.length≤k+j by omega) hj,show k+j=l.length by omega,hn]; done))))
 exact RetF_1 t4 fh (FinV.trans_eq (FinV.same fh _) (by first|rfl|(rw [hd.1]; done)|(rw [hall,hn]; done)|(rw [hall]; done)|(show _=iV (((ddK l ((k+j)+1)).length:Nat):Int); rw [ddK_keep (.inr d5),List.length_append]; rfl)|(show _=iV (((ddK l ((k+j)+1)).length:Nat):Int); rw [ddK_skip (by rintro (q|q); omega; exact q d5)]; done)|(rw [show k+j=l.length by omega]; done)))
end Go.Proofs.YtilfohjlglefjaaGreat
namespace Go.Proofs.YtilfohjlglefjaaGreat
open Go Go.Sort Go.Proofs Go.Shelf
theorem R.pure_same {x y:Cx} {v:V} {c:Value} (h:R x v c) (hp:v.pure=true) (hw: ∀ b,x.Z b→y.w.heap[b]?=x.w.heap[b]?) (hz: ∀ b,x.Z b→y.Z b):R y v c:=by
  have keep: ∀ a:Addr,x.Z a.block→ ∀ n,y.w.cell? (a.add n)=x.w.cell? (a.add n):=fun a ha n=>by
    refine cell_of_heap ?_
    rw [addr_add_block]; exact hw _ ha
  induction h with
  |int k n=>exact .int k n
  |bool b=>exact .bool b
  |str s=>exact .str s
  |nilsl=>exact .nilsl
  |slnil=>exact .slnil
  | sl rows a cap sz cs hc hm hzz hsz hcell _ ih =>
    simp only [V.pure] at hp
    refine .sl rows a cap sz cs hc hm (fun hne=>hz _ (hzz hne)) hsz (fun r row j v hr hj=>by rw [keep a (hzz (by intro e; subst e; simp at hr))]; exact hcell r row j v hr hj) fun r row j v hr hj=>ih r row j v hr hj ?_
    exact pureL_iff.1 (pureLL_iff.1 hp row (List.mem_of_getElem? hr)) v (List.mem_of_getElem? hj)
  |ms=>simp [V.pure] at hp
  | pp cells a cs hzz hcell _ ih =>
    simp only [V.pure] at hp
    exact .pp cells a cs (fun hne=>hz _ (hzz hne)) (fun j v hj=>by rw [keep a (hzz (by intro e; subst e; simp at hj))]; exact hcell j v hj) fun j v hj=>ih j v hj (pureL_iff.1 hp v (List.mem_of_getElem? hj))
  |nilp=>exact .nilp
  |mp=>simp [V.pure] at hp
  | agg cells cs hs _ ih =>
    simp only [V.pure] at hp
    exact .agg cells cs hs fun j v hj=>ih j v hj (pureL_iff.1 hp v (List.mem_of_getElem? hj))
  | tup vs cs hs _ ih =>
    simp only [V.pure] at hp
    exact .tup vs cs hs fun j v hj=>ih j v hj (pureL_iff.1 hp v (List.mem_of_getElem? hj))
  | fn f first caps fs cs hfs hcs _ _ ih1 ih2 =>
    simp only [V.pure,Bool.and_eq_true] at hp
    exact .fn f first caps fs cs hfs hcs (fun j v hj=>ih1 j v hj (pureL_iff.1 hp.1 v (List.mem_of_getElem? hj))) fun j v hj=>ih2 j v hj (pureL_iff.1 hp.2 v (List.mem_of_getElem? hj))
  |raw c hh=>exact .raw c hh
  |mm=>simp [V.pure] at hp
theorem step_grow {x:Cx} (hx:Inv x) (os:Array Obj):let y:Cx:={x with w:=Go.Sort.grow x.w os}; Inv y∧Frame x y:=by
  intro y
  have hp: ∀ b,b < x.w.heap.size→y.w.heap[b]?=x.w.heap[b]?:=fun b hb=>by
    show (x.w.heap++os)[b]?=_
    rw [Array.getElem?_append,if_pos hb]
  have hs:x.w.heap.size≤y.w.heap.size:=by show _≤(x.w.heap++os).size; simp
  have hf:Frame x y:=by
    refine ⟨rfl,rfl,rfl,hs,fun b hb _=>hp b hb,fun _ h=>h,fun b h=>.inl h,fun id=>⟨Nat.le_refl _,fun h _=>⟨h,rfl,rfl,fun _=>rfl,fun h=>⟨rfl,?_⟩⟩⟩,fun _ h=>.inl ⟨h,rfl⟩,Nat.le_refl _,fun _ _ _=>rfl⟩
    unfold rowSize; rw [hp _ (hx.lt h)]
  refine ⟨⟨fun b h=>Nat.lt_of_lt_of_le (hx.zlt b h) hs,hx.zown,fun id hl=>?_,hx.inj,hx.tab_of hf⟩,hf⟩
  obtain ⟨cc,h1,h2,h3,h4⟩:=hx.blk id hl
  exact ⟨cc,by rw [hp _ (hx.lt hl)]; exact h1,h2,h3,fun r row j v hr hj=>(h4 r row j v hr hj).frame hx hf⟩
def SortNone (P:Program) (f:Nat):Prop:= ∀ (p:Option Addr) (cap:Nat) (fv:Value) (w:World),Calls P f #[.slice p 0 cap,fv] w fun e w'=>e=.returned (.tuple #[])∧w'=w
theorem enters_callable {P:Program} {g:Nat} (h:callable P g): ∀ args w,(callFunc g args).run P w=.ok (.enter g args) w:=by
  obtain ⟨fn,h1,h2,h3⟩:=h
  obtain ⟨c,hc⟩:=Option.isSome_iff_exists.1 h2
  exact enters_of h1 h3 hc
theorem grown_of_frame {z y:Cx} (hf:Frame z y) (hno: ∀ id,(z.H id).own=false): ∃ q os,y.w=grow (z.w.drewN q) os:=by
  refine ⟨y.w.drawn - z.w.drawn,y.w.heap.extract z.w.heap.size y.w.heap.size,?_⟩
  have e1:=hf.os; have e2:=hf.tape; have e3:=hf.output; have e4:=hf.drawn; have e5:=hf.size
  have e6:y.w.heap=z.w.heap++y.w.heap.extract z.w.heap.size y.w.heap.size:=by
    refine Array.ext_getElem? fun b=>?_
    rw [Array.getElem?_append]
    split
    · rename_i hb
      exact hf.keep b hb fun id h=>by rw [hno id] at h; cases h
    · rename_i hb
      rw [Array.getElem?_extract]
      by_cases h:b < y.w.heap.size
      · rw [if_pos (by omega)]; congr 1; omega
      · rw [if_neg (by omega),Array.getElem?_eq_none (by omega)]
  have e7:y.w.drawn=z.w.drawn+(y.w.drawn - z.w.drawn):=by omega
  unfold grow World.drewN
  cases hy:y.w with
  | mk heap tape drawn os output =>
    rw [hy] at e1 e2 e3 e6 e7
    simp only at e1 e2 e3 e6 e7 ⊢
    rw [← e6,← e7,e1,e2,e3]
section
variable {P:Program} {α:Type} [Inhabited α] {enc:α→List Value} {k:Nat} {w:World} {blk off m:Nat} {dk:Array α} {os:Array Obj}
end
theorem nth_set_eq {α:Type} [Inhabited α] (d:Array α) (i:Nat) (h:i < d.size):d[i]! =nth d.toList i:=by
  rw [getElem!_pos d i h,← nth_getElem (by simpa using h)]; rfl
section
variable {P:Program}
end
end Go.Proofs.YtilfohjlglefjaaGreat
namespace Go.Proofs.YtilfohjlglefjaaGreat
open Go Go.Proofs Go.Shelf Go.Sort Go.Lib
def SortSpec1 (P : Program) (f : Nat) : Prop := ∀ {α : Type} [Inhabited α] (enc : α → Value) (_ : OneCell enc) (cf : α → α → Int) (_ : SWO (ltOf cf)) (g : Nat) (cb : Array Value) (blk off cap : Nat) (d : Array α) (w : World)
    (_: ∀ args w,(callFunc g args).run P w=.ok (.enter g args) w) (_:CmpLays1 P g cb enc cf blk off d.size w) (_:Holds enc w blk off d) (_:blk < w.heap.size) (_:d.size < 4611686018427387904),
    Calls P f #[.slice (some ⟨blk,off,none⟩) d.size cap,.func (.func g) #[] cb] w fun e w'=>
      e=.returned (.tuple #[])∧ ∃ d' n os,PermIn 0 d.size d d'∧SortedIn (ltOf cf) 0 d.size d'∧w'=sortWorld enc w blk off n d' os
section
variable {P:Program} {α:Type} [Inhabited α] {enc:α→Value} {w:World} {blk off m:Nat} {dk:Array α} {os:Array Obj}
theorem sortWorld1_other {b:Nat} (hb:b < w.heap.size) (hne:b≠blk):(sortWorld enc w blk off m dk os).heap[b]?=w.heap[b]?:=by
  unfold sortWorld grow putRow mapBlock Sort.ahead
  simp only
  rw [Array.getElem?_append,if_pos (by simpa using hb),Array.getElem?_modify,if_neg (Ne.symm hne)]
theorem sortWorld1_size:w.heap.size≤(sortWorld enc w blk off m dk os).heap.size:=by
  unfold sortWorld grow putRow mapBlock Sort.ahead
  simp
theorem sortWorld1_eq {cc:Array Value} {ty:TypeId} (h:w.heap[blk]?=some (.cells cc ty (0,0))):
    sortWorld enc w blk off m dk os=grow {w.setRow blk (putCells enc off dk cc) with drawn:=w.drawn+m} os:=by
  unfold sortWorld putRow mapBlock Sort.ahead World.setRow
  congr 2
  refine Array.ext_getElem? fun b=>?_
  simp only [Array.getElem?_modify]
  by_cases e:blk=b
  · subst e
    simp only [if_true,h,Option.map_some,onCells]
  · simp only [if_neg e]
end
theorem CallOK_sort1 {P:Program} {f g:Nat} (hS:SortSpec1 P f) (hN:SortNone P f) (hcf:callable P f) (hcg:callable P g) {T:Type} [Inhabited T] {f0:T→V} {l:List T} {cmp:T→T→Int}
    (hO:SWO fun a b=>decide (cmp a b < 0)) (hT: ∀ a∈l,∀ b∈l,¬cmp a b < 0→ ¬cmp b a < 0→a=b)
    (hc: ∀ a∈l,∀ b∈l,PureC P g [f0 a,f0 b] (iV (cmp a b))) (hp: ∀ a∈l,(f0 a).pure=true) (h1: ∀ a∈l,(f0 a).one=true)
    (hl:l.length < 4611686018427387904) {id ver ty:Nat} {lz:Bool} {H:Heap} (hH:H id=⟨ver,true,lz,ty,1,l.map fun a=>[f0 a]⟩):
    CallOK P f [.ms id ver 0 l.length,.fn g [] []] H (.tup []) (upd H id ⟨ver,true,lz,ty,1,(srt cmp l).map fun a=>[f0 a]⟩):=by
  refine ⟨hcf,fun x cs hxH hx hr=>?_⟩
  subst hxH
  obtain ⟨c0,c1,rfl⟩: ∃ c0 c1,cs=[c0,c1]:=by
    have:=hr.1
    match cs with
    |[a,b]=>exact ⟨a,b,rfl⟩
    |[]=>simp at this
    |[_]=>simp at this
    |_::_::_::_=>simp at this
  have r0:R x (.ms id ver 0 l.length) c0:=hr.2 0 _ rfl
  have r1:R x (.fn g [] []) c1:=hr.2 1 _ rfl
  cases r1 with
  |fn _ _ _ fs cb hfs hcs _ _=>
  have hfs':fs=#[]:=Array.eq_empty_of_size_eq_zero (by simpa using hfs)
  have hcs':cb=#[]:=Array.eq_empty_of_size_eq_zero (by simpa using hcs)
  subst hfs'; subst hcs'
  cases r0 with
  |ms _ _ _ _ b n cap hv hh hm=>
  obtain ⟨e1,e2,e3,e4,e5,e6⟩:=hh (by rw [hH]) (by rw [hH])
  subst e1
  by_cases hne:l=[]
  · subst hne
    refine (hN b cap (.func (.func g) #[] #[]) x.w).mono fun e w' h=>?_
    obtain ⟨rfl,rfl⟩:=h
    refine ⟨_,x,rfl,rfl,?_,hx,.tup [] #[] rfl (fun j v hj=>by simp at hj),Frame.refl x⟩
    funext j
    by_cases e:j=id
    · subst e; rw [upd_same,hH]; rfl
    · rw [upd_ne _ _ e]
  have hpos:0 < l.length:=List.length_pos_iff.2 hne
  have ho:(x.H id).own=true:=by
    rw [hH]
    cases l with
    |nil=>exact (hne rfl).elim
    |cons a l=>simp [Blk.own]
  obtain ⟨e7,_⟩:=e5 ho
  rw [hH] at e7
  simp only [Nat.zero_mul] at e7
  subst e7
  obtain ⟨cc,b1,b2,b3,b4⟩:=hx.cel id ho (hm (by rw [hH]) (by rw [hH]))
  simp only [hH] at b1 b2 b3 b4
  rw [List.length_map,Nat.mul_one] at b3
  let A:Type:={i:Nat // i < l.length}
  haveI:Inhabited A:=⟨⟨0,hpos⟩⟩
  let enc:A→Value:=fun i=>cc.getD i.1 undef
  let cf:A→A→Int:=fun a b=>cmp (nth l a.1) (nth l b.1)
  let d:Array A:=Array.ofFn fun i:Fin l.length=>(⟨i.1,i.2⟩:A)
  have hdn:d.size=l.length:=by simp [d]
  have hdi: ∀ i (h:i < l.length),d[i]! =⟨i,h⟩:=fun i h=>by
    rw [getElem!_pos d i (by rw [hdn]; exact h)]; simp [d]
  have hrow: ∀ i,i < l.length→(l.map fun a=>[f0 a])[i]?=some [f0 (nth l i)]:=fun i hi=>by rw [List.getElem?_map,nth_eq hi]; rfl
  have hRx: ∀ a:A,R x (f0 (nth l a.1)) (cc.getD a.1 undef):=fun a=>by
    have:=b4 a.1 _ 0 _ (hrow a.1 a.2) rfl
    rwa [Nat.mul_one,Nat.add_zero] at this
  have hO':SWO (ltOf cf):=⟨fun a=>hO.irrefl _,fun a b c=>hO.trans _ _ _,fun a b c=>hO.ntrans _ _ _⟩
  have hcmp:CmpLays1 P g #[] enc cf (x.σ id) 0 d.size x.w:=by
    intro m os dk hdk a b
    let W:=sortWorld enc x.w (x.σ id) 0 m dk os
    let z:Cx:=start {x with w:=W} x.Z
    have hz:Inv z:=start_ok (fun b hb=>Nat.lt_of_lt_of_le (hx.zlt b hb) sortWorld1_size) fun p hp=>⟨(hx.tab p hp).1,by
      obtain ⟨q1,q2⟩:=hx.tab p hp
      show ∃ ty m,W.heap[p.1]?=_
      rw [show W.heap[p.1]?=x.w.heap[p.1]? from sortWorld1_other (hx.zlt _ q1) fun e=>hx.zown _ id q1 ho e.symm]; exact q2⟩
    have hag: ∀ a:A,R z (f0 (nth l a.1)) (enc a):=fun a=>by
      refine (hRx a).pure_same (y:=z) (hp _ (nth_mem a.2)) (fun b hb=>?_) fun _ h=>h
      exact sortWorld1_other (hx.zlt b hb) fun e=>hx.zown b id hb ho e.symm
    have hrl:RL z [f0 (nth l a.1),f0 (nth l b.1)] [enc a,enc b]:=by
      refine ⟨rfl,fun j v hj=>?_⟩
      match j,hj with
      |0,hj=>simp at hj; subst hj; exact hag a
      |1,hj=>simp at hj; subst hj; exact hag b
    refine ((hc _ (nth_mem a.2) _ (nth_mem b.2) H0).2 z _ rfl hz hrl).mono fun e w' h=>?_
    obtain ⟨c,y,rfl,rfl,_,_,h5,h6⟩:=h
    cases h5
    obtain ⟨q,os',hq⟩:=grown_of_frame h6 fun id=>rfl
    exact ⟨rfl,q,os',hq⟩
  have hsz:d.size < 4611686018427387904:=by rw [hdn]; exact hl
  have hH':Holds enc x.w (x.σ id) 0 d:=by
    intro j hj
    rw [hdn] at hj
    have e:enc d[j]! =cc.getD j undef:=by rw [hdi _ hj]
    have hjc:j < cc.size:=by omega
    refine ⟨?_,?_⟩
    · rw [e,Nat.zero_add]; exact own_cell b1 hjc
    · simp [World.frozen?,b1]
  have hcall:=hS enc (fun a=>(hRx a).one (h1 _ (nth_mem a.2))) cf hO' g #[] (x.σ id) 0 cap d x.w (enters_callable hcg) hcmp hH' (hx.lt ho) hsz
  rw [hdn] at hcall
  refine hcall.mono fun e w' h=>?_
  obtain ⟨rfl,d',n',os',hP,hSo,rfl⟩:=h
  obtain ⟨p1,_,p3⟩:=hP
  rw [hdn] at p1
  have x1:d'.extract 0 l.length=d':=by rw [← p1]; simp
  have x2:d.extract 0 l.length=d:=by rw [← hdn]; simp
  rw [x1,x2] at p3
  have hmap:d.toList.map (fun a:A=>nth l a.1)=l:=by
    refine nth_ext (by simp [hdn]) fun j hj=>?_
    have hj':j < l.length:=by simpa [hdn] using hj
    rw [nth_map (by simpa using hj),← nth_set_eq d j (by rw [hdn]; exact hj'),hdi j hj']
  have hl':d'.toList.map (fun a:A=>nth l a.1)=srt cmp l:=by
    have hperm:(d'.toList.map (fun a:A=>nth l a.1)).Perm l:=by
      have:=p3.map (fun a:A=>nth l a.1)
      rwa [hmap] at this
    refine sorted_uniq (le:=fun a b=> ¬cmp b a < 0) (fun a ha b hb h1 h2=>hT a (hperm.mem_iff.1 ha) b (hperm.mem_iff.1 hb) h2 h1) (hperm.trans (srt_perm cmp l).symm) ?_ (srt_sorted hO l)
    rw [List.pairwise_map,List.pairwise_iff_getElem]
    intro i j hi hj hij
    have h:=hSo i j (Nat.zero_le _) hij (by rw [← p1]; simpa using hj)
    rw [nth_set_eq d' i (by simpa using hi),nth_set_eq d' j (by simpa using hj),← nth_getElem hi,← nth_getElem hj] at h
    simpa [ltOf,cf] using h
  let cc':=putCells enc 0 d' cc
  have hcs:cc'.size=cc.size:=by simp [cc',putCells]
  have hg: ∀ r,r < l.length→ ∀ (hr:r < d'.size),cc'.getD r undef=cc.getD (d'[r]'hr).1 undef:=by
    intro r hr hr'
    have e:cc'[r]?=some (enc d'[r]!):=by
      simp only [cc',putCells,Array.getElem?_mapIdx]
      rw [Array.getElem?_eq_getElem (by omega)]
      simp [hr']
    rw [Array.getD_eq_getD_getElem?,e,getElem!_pos d' r hr']
    rfl
  have hrows: ∀ (r:Nat) (row:List V) (j:Nat) (v:V),((srt cmp l).map fun a=>[f0 a])[r]?=some row→row[j]?=some v→R x v (cc'.getD (r*1+j) undef):=by
    intro r row j v hr hj
    rw [← hl',List.map_map,List.getElem?_map] at hr
    obtain ⟨a,ha,rfl⟩:=map_some hr
    have har:=List.getElem?_eq_some_iff.1 ha
    obtain ⟨hlt,hae⟩:=har
    have hlt':r < d'.size:=by simpa using hlt
    have hj0:j=0:=by
      have:=(List.getElem?_eq_some_iff.1 hj).1
      simp at this; exact this
    subst hj0
    simp only [Function.comp_apply,List.getElem?_cons_zero,Option.some.injEq] at hj
    subst hj
    rw [Nat.mul_one,Nat.add_zero,hg r (by omega) hlt']
    have hae':d'[r]'hlt'=a:=by simpa using hae
    rw [hae']
    exact hRx a
  have st:=step_set hx id ho cc cc' (by rw [hH]; exact b1) hcs (x.H id).ver ((srt cmp l).map fun a=>[f0 a]) (Nat.le_refl _) (fun _=>by rw [hH]; simp [srt_len]) (by
      rw [hH]
      have:(srt cmp l).length=l.length:=by simp [srt_len]
      cases hq:srt cmp l with
      |nil=>rw [hq] at this; simp at this; omega
      |cons a q=>simp) (fun r hr=>by
      rw [hH]
      obtain ⟨a,_,rfl⟩:=List.mem_map.1 hr
      rfl) (by rw [hH]; simpa [srt_len] using b3) (by simp only [hH]; exact hrows)
  simp only [hH] at st
  obtain ⟨i1,f1⟩:=st
  obtain ⟨i2,f2⟩:=step_draw i1 (x.w.drawn+n') (Nat.le_add_right _ _)
  obtain ⟨i3,f3⟩:=step_grow i2 os'
  refine ⟨.tuple #[],_,rfl,?_,?_,i3,.tup [] #[] rfl (fun j v hj=>by simp at hj),(f1.trans f2).trans f3⟩
  · rw [sortWorld1_eq b1]
  · rfl
end Go.Proofs.YtilfohjlglefjaaGreat
namespace Go.Proofs.YtilfohjlglefjaaGreat
open Go Go.Proofs Go.Shelf Go.Sort
def sortRen209:Go.Shelf.Ren:=⟨fun|6=>209|15=>232|14=>231|28=>244|29=>245|20=>236|21=>237|22=>238|23=>239|24=>240|25=>241|26=>242|27=>243|46=>247|47=>248|48=>249|49=>250|50=>251|57=>253|n=>n,fun|22=>22|24=>38|25=>255|3=>3|39=>309|0=>0|53=>329|55=>331|4=>4|46=>323|45=>322|50=>132|5=>5|9=>9|66=>332|70=>336|76=>339|77=>71|n=>n,fun n=>n⟩
theorem sortLay209:SlLaysF.n6 Tryz.prog sortRen209:={
  mixed:=(by kernel_rfl),
  f6:=⟨Tryz.f209.name,by decide,Tryz.func209.trans (congrArg some (by kernel_rfl))⟩,
  f14:=⟨Tryz.f231.name,by decide,Tryz.func231.trans (congrArg some (by kernel_rfl))⟩,
  f15:=Tryz.func232.trans (congrArg some (by kernel_rfl)),
  f20:=⟨Tryz.f236.name,by decide,Tryz.func236.trans (congrArg some (by kernel_rfl))⟩,
  f21:=⟨Tryz.f237.name,by decide,Tryz.func237.trans (congrArg some (by kernel_rfl))⟩,
  f22:=⟨Tryz.f238.name,by decide,Tryz.func238.trans (congrArg some (by kernel_rfl))⟩,
  f23:=⟨Tryz.f239.name,by decide,Tryz.func239.trans (congrArg some (by kernel_rfl))⟩,
  f24:=⟨Tryz.f240.name,by decide,Tryz.func240.trans (congrArg some (by kernel_rfl))⟩,
  f25:=⟨Tryz.f241.name,by decide,Tryz.func241.trans (congrArg some (by kernel_rfl))⟩,
  f26:=⟨Tryz.f242.name,by decide,Tryz.func242.trans (congrArg some (by kernel_rfl))⟩,
  f27:=⟨Tryz.f243.name,by decide,Tryz.func243.trans (congrArg some (by kernel_rfl))⟩,
  f28:=Tryz.func244.trans (congrArg some (by kernel_rfl)),
  f29:=Tryz.func245.trans (congrArg some (by kernel_rfl)),
  f46:=⟨Tryz.f247.name,by decide,Tryz.func247.trans (congrArg some (by kernel_rfl))⟩,
  f47:=Tryz.func248.trans (congrArg some (by kernel_rfl)),
  f48:=Tryz.func249.trans (congrArg some (by kernel_rfl)),
  f49:=⟨Tryz.f250.name,by decide,Tryz.func250.trans (congrArg some (by kernel_rfl))⟩,
  f50:=⟨Tryz.f251.name,by decide,Tryz.func251.trans (congrArg some (by kernel_rfl))⟩,
  f57:=⟨Tryz.f253.name,by decide,Tryz.func253.trans (congrArg some (by kernel_rfl))⟩,
  t0:=Tryz.underlying0,
  a0:=Tryz.isAgg0,
  z0:=Tryz.sizeOf0,
  v0:=Tryz.zeroValue0,
  t3:=Tryz.underlying3,
  a3:=Tryz.isAgg3,
  z3:=Tryz.sizeOf3,
  v3:=Tryz.zeroValue3,
  t4:=Tryz.underlying4,
  a4:=Tryz.isAgg4,
  z4:=Tryz.sizeOf4,
  v4:=Tryz.zeroValue4,
  t5:=Tryz.underlying5,
  a5:=Tryz.isAgg5,
  z5:=Tryz.sizeOf5,
  v5:=Tryz.zeroValue5,
  t9:=Tryz.underlying9,
  a9:=Tryz.isAgg9,
  z9:=Tryz.sizeOf9,
  v9:=Tryz.zeroValue9,
  t22:=Tryz.underlying22,
  a22:=Tryz.isAgg22,
  z22:=Tryz.sizeOf22,
  v22:=Tryz.zeroValue22,
  a24:=Tryz.isAgg38,
  z24:=Tryz.sizeOf38,
  t25:=Tryz.underlying255,
  a25:=Tryz.isAgg255,
  z25:=Tryz.sizeOf255,
  v25:=Tryz.zeroValue255,
  t39:=Tryz.underlying309,
  a39:=Tryz.isAgg309,
  z39:=Tryz.sizeOf309,
  v39:=Tryz.zeroValue309,
  t45:=Tryz.underlying322,
  a45:=Tryz.isAgg322,
  z45:=Tryz.sizeOf322,
  v45:=Tryz.zeroValue322,
  t46:=Tryz.underlying323,
  a46:=Tryz.isAgg323,
  z46:=Tryz.sizeOf323,
  v46:=Tryz.zeroValue323,
  t50:=Tryz.underlying132,
  a50:=Tryz.isAgg132,
  z50:=Tryz.sizeOf132,
  v50:=Tryz.zeroValue132,
  t53:=Tryz.underlying329,
  a53:=Tryz.isAgg329,
  z53:=Tryz.sizeOf329,
  v53:=Tryz.zeroValue329,
  t55:=Tryz.underlying331,
  a55:=Tryz.isAgg331,
  z55:=Tryz.sizeOf331,
  v55:=Tryz.zeroValue331,
  t66:=Tryz.underlying332,
  a66:=Tryz.isAgg332,
  z66:=Tryz.sizeOf332,
  v66:=Tryz.zeroValue332,
  t70:=Tryz.underlying336,
  a70:=Tryz.isAgg336,
  z70:=Tryz.sizeOf336,
  v70:=Tryz.zeroValue336,
  t76:=Tryz.underlying339,
  a76:=Tryz.isAgg339,
  z76:=Tryz.sizeOf339,
  v76:=Tryz.zeroValue339,
  t77:=Tryz.underlying71,
  a77:=Tryz.isAgg71,
  z77:=Tryz.sizeOf71,
  v77:=Tryz.zeroValue71}
theorem sortSpec209:SortSpec1 Tryz.prog 209:=fun enc h1 cf hO g cb blk off cap d w eg hcmp hH hblk hsz=>
  Any.slices_SortFunc sortLay209 enc h1 cf hO g cb blk off cap d w eg hcmp hH hblk hsz
theorem sortCall209:callable Tryz.prog 209:=⟨_,Tryz.func209,by kernel_rfl,by kernel_rfl⟩
theorem sortNone209:SortNone Tryz.prog 209:=fun p cap fv w=>AnyF.slices_SortFunc_none {sortLay209 with} p cap fv w
end Go.Proofs.YtilfohjlglefjaaGreat
