/- Contracts of the functions that the law MW reaches, and the law itself, for every input; no condition. -/
import Derived.KernelRfl
import Derived.Test.YteehaobohaecmaaDoorProg
import Derived.Test.YteehaobohaecmaaDoorRows
import Derived.LaidSub
import Derived.LaidMore
import Derived.Lib.LaidTab
import Derived.Test.YteehaobohaecmaaDoorTie
import Derived.Test.YteehaobohaecmaaDoorCards
import Derived.OpenShut
import Derived.Stop.Joined
import Derived.SevenTiedAt
import Derived.Test.YteehaobohaecmaaDoorMW3
set_option linter.unusedSimpArgs false
set_option linter.unusedVariables false
namespace Go.Proofs.YteehaobohaecmaaDoor
open Go
def RowOK (n o:Nat) (l:List Fm) (cur:Fm) (r:List Int):Prop:=
  r.length=n∧ ∀ x,x < n→(stM cur ((x / o:Nat):Int) ((x % o:Nat):Int)).2=0∧ ∃ q,q < l.length∧nth r x=(q:Int)∧nth l q=(stM cur ((x / o:Nat):Int) ((x % o:Nat):Int)).1
theorem RowOK.ext {n o:Nat} {l e:List Fm} {cur:Fm} {r:List Int} (h:RowOK n o l cur r):RowOK n o (l++e) cur r:=
  ⟨h.1,fun x hx=>by
    obtain ⟨h1,q,h2,h3,h4⟩:=h.2 x hx
    exact ⟨h1,q,by rw [List.length_append]; omega,h3,by rw [nth_app_l h2]; exact h4⟩⟩
theorem aRow_ok {cur : Fm} {o n : Nat} : ∀ (m x : Nat) (l : List Fm) (r : List Int) {l' : List Fm} {r' : List Int}, m + x = n → r.length = x → l.length ≤ 128 →
    (∀ i,i < x→(stM cur ((i / o:Nat):Int) ((i % o:Nat):Int)).2=0∧ ∃ q,q < l.length∧nth r i=(q:Int)∧nth l q=(stM cur ((i / o:Nat):Int) ((i % o:Nat):Int)).1)→
    aRow cur o m x l r=(0,l',r')→(∃ e,l'=l++e)∧l'.length≤128∧RowOK n o l' cur r'
  | 0, x, l, r, l', r', hn, hr, hl, hi, h => by
    rw [aRow] at h
    obtain ⟨rfl,rfl⟩:l=l'∧r=r':=by simpa using h
    exact ⟨⟨[],by simp⟩,hl,by omega,fun i hx=>hi i (by omega)⟩
  | m + 1, x, l, r, l', r', hn, hr, hl, hi, h => by
    rw [aRow] at h
    by_cases e:(stM cur ((x / o:Nat):Int) ((x % o:Nat):Int)).2≠0
    · rw [if_pos e] at h
      have:(stM cur ((x / o:Nat):Int) ((x % o:Nat):Int)).2=0:=congrArg (·.1) h
      exact absurd this e
    · rw [if_neg e] at h
      have e0:(stM cur ((x / o:Nat):Int) ((x % o:Nat):Int)).2=0:=Decidable.of_not_not e
      by_cases p:plc l (stM cur ((x / o:Nat):Int) ((x % o:Nat):Int)).1 < l.length
      · rw [if_pos p] at h
        refine aRow_ok m (x+1) l _ (by omega) (by simp [hr]) hl (fun i hx=>?_) h
        by_cases ei:i=x
        · subst ei
          refine ⟨e0,_,p,?_,plc_nth p⟩
          have:=nth_app_r (l:=r) (m:=[(plc l (stM cur ((i / o:Nat):Int) ((i % o:Nat):Int)).1:Int)]) (j:=0)
          rw [hr] at this
          exact this
        · obtain ⟨h1,q,h2,h3,h4⟩:=hi i (by omega)
          exact ⟨h1,q,h2,by rw [nth_app_l (by omega)]; exact h3,h4⟩
      · rw [if_neg p] at h
        by_cases g:128≤l.length
        · rw [if_pos g] at h; cases h
        · rw [if_neg g] at h
          have hl2:(l++[(stM cur ((x / o:Nat):Int) ((x % o:Nat):Int)).1]).length≤128:=by rw [List.length_append]; show l.length+1≤128; omega
          have hr2:(r++[(l.length:Int)]).length=x+1:=by rw [List.length_append,hr]; rfl
          obtain ⟨⟨e1,h1⟩,h2,h3⟩:=aRow_ok (n:=n) m (x+1) (l++[(stM cur ((x / o:Nat):Int) ((x % o:Nat):Int)).1]) (r++[(l.length:Int)]) (by omega) hr2 hl2 (fun i hx=>by
            by_cases ei:i=x
            · subst ei
              refine ⟨e0,l.length,by rw [List.length_append]; exact Nat.lt_succ_self _,?_,?_⟩
              · have:=nth_app_r (l:=r) (m:=[(l.length:Int)]) (j:=0)
                rw [hr] at this
                exact this
              · exact nth_app_r (l:=l) (m:=[_]) (j:=0)
            · obtain ⟨h1,q,h2,h3,h4⟩:=hi i (by omega)
              exact ⟨h1,q,by rw [List.length_append]; omega,by rw [nth_app_l (l:=r) (show i < r.length by omega)]; exact h3,by rw [nth_app_l h2]; exact h4⟩) h
          exact ⟨⟨_::e1,by rw [h1,List.append_assoc]; rfl⟩,h2,h3⟩
structure TabOK (n o:Nat) (L:List Fm) (nx:List (List Int)) (ac:List Bool) (s:Nat):Prop where
  ln:nx.length=s
  la:ac.length=s
  row: ∀ i,i < s→RowOK n o L (nth L i) (nth nx i)
  acc: ∀ i,i < s→nth ac i=sat t0 (nth L i) 0
theorem aOut_ok {n o : Nat} : ∀ (m s : Nat) (l : List Fm) (nx : List (List Int)) (ac : List Bool) {nx' : List (List Int)} {ac' : List Bool}, s ≤ l.length → l.length ≤ 128 → 129 ≤ m + s → TabOK n o l nx ac s →
    aOut n o m s l nx ac=(0,nx',ac')→ ∃ e,(l++e).length≤128∧TabOK n o (l++e) nx' ac' (l++e).length
  |0,s,l,nx,ac,nx',ac',hs,hl,hm,ht,h=>by omega
  | m + 1, s, l, nx, ac, nx', ac', hs, hl, hm, ht, h => by
    rw [aOut] at h
    by_cases q:s < l.length
    · rw [if_pos q] at h
      by_cases e:(aRow (nth l s) o n 0 l []).1≠0
      · rw [if_pos e] at h
        exact absurd (congrArg (·.1) h) e
      · rw [if_neg e] at h
        have hr:aRow (nth l s) o n 0 l []=(0,(aRow (nth l s) o n 0 l []).2.1,(aRow (nth l s) o n 0 l []).2.2):=by
          rw [← show (aRow (nth l s) o n 0 l []).1=0 from Decidable.of_not_not e]
        obtain ⟨⟨e1,h1⟩,h2,h3⟩:=aRow_ok (n:=n) n 0 l [] (by omega) rfl hl (fun i hi=>by omega) hr
        rw [h1] at h h2 h3
        obtain ⟨e2,g1,g2⟩:=aOut_ok m (s+1) (l++e1) _ _ (by rw [List.length_append]; omega) h2 (by omega) ⟨by simp [ht.ln],by simp [ht.la],fun i hi=>by
          by_cases ei:i=s
          · subst ei
            have:=nth_app_r (l:=nx) (m:=[(aRow (nth l i) o n 0 l []).2.2]) (j:=0)
            rw [ht.ln] at this
            rw [show nth (nx++[(aRow (nth l i) o n 0 l []).2.2]) i=_ from this,nth_app_l q]; exact h3
          · rw [nth_app_l (show i < l.length by omega),nth_app_l (by rw [ht.ln]; omega)]
            exact (ht.row i (by omega)).ext,fun i hi=>by
          by_cases ei:i=s
          · subst ei
            have:=nth_app_r (l:=ac) (m:=[sat t0 (nth l i) 0]) (j:=0)
            rw [ht.la] at this
            rw [show nth (ac++[sat t0 (nth l i) 0]) i=_ from this,nth_app_l q]; rfl
          · rw [nth_app_l (show i < l.length by omega),nth_app_l (by rw [ht.la]; omega)]
            exact ht.acc i (by omega)⟩ h
        exact ⟨e1++e2,by rw [← List.append_assoc]; exact g1,by rw [← List.append_assoc]; exact g2⟩
    · rw [if_neg q] at h
      obtain ⟨rfl,rfl⟩:nx=nx'∧ac=ac':=by simpa using h
      have e:s=l.length:=by omega
      subst e
      exact ⟨[],by simpa using hl,by simpa using ht⟩
structure DfOK (d:Df):Prop where
  i:1≤d.inp∧d.inp≤1024
  s:0≤d.st∧d.st < d.nx.length
  n:d.nx.length≤128
  a:d.ac.length=d.nx.length
  r: ∀ k,k < d.nx.length→((nth d.nx k).length:Int)=d.inp∧ ∀ x,x < (nth d.nx k).length→0≤nth (nth d.nx k) x∧nth (nth d.nx k) x < d.nx.length
def dEnd (d:Df) (w:List Int):Int:=w.foldl (fun s x=>nth (nth d.nx s.toNat) x.toNat) d.st
structure LtOK (d:Df) (w:List Int):Prop where
  l:w.length≤1024
  r: ∀ k,k < w.length→0≤nth w k∧nth w k < d.inp
theorem LtOK.chk {d:Df} {w:List Int} (hd:DfOK d) (h:LtOK d w):wchk w d.inp=0:=wchk_zero hd.i h.l h.r
theorem dEnd_step {d:Df} {w:List Int} {k:Nat} (h:k < w.length):dEnd d (w.take (k+1))=nth (nth d.nx (dEnd d (w.take k)).toNat) (nth w k).toNat:=by
  unfold dEnd; rw [take_succ_nth h,List.foldl_append]; rfl
theorem dEnd_rng {d:Df} {w:List Int} (hd:DfOK d) (hw:LtOK d w): ∀ k,0≤dEnd d (w.take k)∧dEnd d (w.take k) < d.nx.length
  |0=>by simpa [dEnd] using hd.s
  | k + 1 => by
    obtain ⟨h1,h2⟩:=dEnd_rng hd hw k
    by_cases q:k < w.length
    · rw [dEnd_step q]
      obtain ⟨r1,r2⟩:=hd.r (dEnd d (w.take k)).toNat (by omega)
      obtain ⟨l1,l2⟩:=hw.r k q
      exact r2 _ (by omega)
    · rw [List.take_of_length_le (by omega)] at h1 h2 ⊢
      exact ⟨h1,h2⟩
structure AtmG (f:Fm) (i o:Int) (L:List Fm):Prop where
  ok:DfOK (atm f i o).1
  n:(atm f i o).1.inp=i*o
  z:(atm f i o).1.st=0
  len:L.length=(atm f i o).1.nx.length
  hd:nth L 0=(simp_ f).1
  row: ∀ k,k < L.length→RowOK (i*o).toNat o.toNat L (nth L k) (nth (atm f i o).1.nx k)
  acc: ∀ k,k < L.length→nth (atm f i o).1.ac k=sat t0 (nth L k) 0
theorem atm_good {f:Fm} {i o:Int} (h: ¬(atm f i o).2≠0): ∃ L,AtmG f i o L:=by
  have h0: ¬fval f≠0:=fun e=>by rw [atm_e e] at h; exact h e
  have h2: ¬(i < 1∨64 < i∨o < 1∨((1024 / i.toNat:Nat):Int) < o):=fun e=>by rw [atm_r h0 e] at h; exact h (show (2:Int)≠0 by decide)
  have h3: ¬(simp_ f).2≠0:=fun e=>by rw [atm_s h0 h2 e] at h; exact h e
  have io:=io_bnd h2
  generalize hA:atmS (simp_ f).1 (i*o).toNat o.toNat=A
  obtain ⟨a,nx,ac⟩:=A
  have ha:a=0:=by
    apply Decidable.of_not_not
    intro e
    unfold atm at h
    rw [if_neg h0,if_neg h2,if_neg h3,hA,if_pos (by exact e)] at h
    exact h e
  subst ha
  have hd:=atm_g h0 h2 h3 hA
  obtain ⟨e,g1,g2⟩:=aOut_ok (129 - 0) 0 [(simp_ f).1] [] [] (Nat.zero_le _) (show 1≤128 by decide) (by decide) ⟨rfl,rfl,fun i hi=>by omega,fun i hi=>by omega⟩ hA
  refine ⟨[(simp_ f).1]++e,⟨?_,by rw [hd],by rw [hd],by rw [hd]; exact g2.ln.symm,rfl,fun k hk=>by rw [hd]; exact g2.row k hk,fun k hk=>by rw [hd]; exact g2.acc k hk⟩⟩
  rw [hd]
  have hl:nx.length=([(simp_ f).1]++e).length:=g2.ln
  have hpos:0 < ([(simp_ f).1]++e).length:=by simp
  refine ⟨⟨io.2.2.2.2.1,io.2.2.2.2.2⟩,⟨Int.le_refl _,by show (0:Int) < nx.length; omega⟩,by show nx.length≤128; omega,by show ac.length=nx.length; rw [g2.la,hl],fun k hk=>?_⟩
  have r:=g2.row k (by rw [← hl]; exact hk)
  refine ⟨by show ((nth nx k).length:Int)=i*o; rw [r.1]; omega,fun x hx=>?_⟩
  obtain ⟨_,q,q1,q2,_⟩:=r.2 x (by rw [← r.1]; exact hx)
  show 0≤nth (nth nx k) x∧nth (nth nx k) x < (nx.length:Int)
  rw [q2]; omega
end Go.Proofs.YteehaobohaecmaaDoor
namespace Go.Proofs.YteehaobohaecmaaDoor
open Go
def lxA (c:UInt8):Int:=((c.toNat % 6:Nat):Int)
def lxI (c:UInt8):Int:=((c.toNat % 6 / 3:Nat):Int)
def lxO (c:UInt8):Int:=((c.toNat % 6 % 3:Nat):Int)
theorem nthMp {α β:Type} [Inhabited α] [Inhabited β] {g:α→β} {l:List α} {k:Nat} (h:k < l.length):nth (l.map g) k=g (nth l k):=by
  unfold nth
  simp [List.getD_eq_getElem?_getD,List.getElem?_eq_getElem h]
theorem lx_ok {d:Df} (hd:d.inp=6) {w:List UInt8} (hl:w.length≤20):LtOK d (w.map lxA):=
  ⟨by rw [List.length_map]; omega,fun k hk=>by
    rw [List.length_map] at hk
    rw [nthMp hk,hd]
    unfold lxA
    omega⟩
section
variable {f:Fm} {L:List Fm} {w:List UInt8}
structure StW (f:Fm) (L:List Fm) (w:List UInt8) (k:Nat):Prop where
  r:Run 13 (nth L (dEnd (atm f 2 3).1 ((w.map lxA).take k)).toNat)
  s:sat ⟨w.map lxI,w.map lxO⟩ (nth L (dEnd (atm f 2 3).1 ((w.map lxA).take k)).toNat) k=sat ⟨w.map lxI,w.map lxO⟩ f 0
theorem st_w (hv:fval f=0) (hs:f.sz≤12) (hg:AtmG f 2 3 L) (he: ¬(simp_ f).2≠0) (hl:w.length≤20): ∀ k,k≤w.length→StW f L w k
  | 0, _ => by
    have e:(dEnd (atm f 2 3).1 ((w.map lxA).take 0)).toNat=0:=by
      show (atm f 2 3).1.st.toNat=0
      rw [hg.z]; rfl
    rcases run_start hv hs (by decide) with q|⟨g,q,q1,q2⟩
    · rw [q] at he; exact absurd (show (11:Int)≠0 by decide) he
    · have e2:nth L 0=g:=by rw [hg.hd,q]
      exact ⟨by rw [e,e2]; exact q1,by rw [e,e2]; exact q2 _ 0⟩
  | k + 1, hk => by
    obtain ⟨h1,h2⟩:=st_w hv hs hg he hl k (by omega)
    have hlt:=lx_ok (d:=(atm f 2 3).1) hg.n hl
    obtain ⟨d1,d2⟩:=dEnd_rng hg.ok hlt k
    have hkm:k < (w.map lxA).length:=by rw [List.length_map]; omega
    have hx:(nth (w.map lxA) k).toNat=(nth w k).toNat % 6:=by rw [nthMp (show k < w.length by omega)]; unfold lxA; omega
    have hq:(dEnd (atm f 2 3).1 ((w.map lxA).take k)).toNat < L.length:=by rw [hg.len]; omega
    obtain ⟨r0,r1⟩:=hg.row _ hq
    have hn:(2*3:Int).toNat=6:=rfl
    obtain ⟨s0,q,s1,s2,s3⟩:=r1 ((nth w k).toNat % 6) (by rw [hn]; omega)
    have e:dEnd (atm f 2 3).1 ((w.map lxA).take (k+1))=(q:Int):=by rw [dEnd_step hkm,hx]; exact s2
    have ho:(3:Int).toNat=3:=rfl
    rw [ho] at s0 s3
    rcases run_step (a:=(((nth w k).toNat % 6 / 3:Nat):Int)) (o:=(((nth w k).toNat % 6 % 3:Nat):Int)) h1 (by decide) ⟨by omega,by omega⟩ ⟨by omega,by omega⟩ with p|⟨g',p,p1,p2⟩
    · rw [p] at s0; exact absurd s0 (show (11:Int)≠0 by decide)
    · have e3:nth L q=g':=by rw [s3,p]
      refine ⟨by rw [e,Int.toNat_natCast,e3]; exact p1,?_⟩
      rw [e,Int.toNat_natCast,e3]
      refine (p2 ⟨w.map lxI,w.map lxO⟩ k (by show k < (w.map lxI).length; rw [List.length_map]; omega) ?_ ?_).trans h2
      · show nth (w.map lxI) k=_; rw [nthMp (show k < w.length by omega)]; rfl
      · show nth (w.map lxO) k=_; rw [nthMp (show k < w.length by omega)]; rfl
end
theorem acc_words {f:Fm} (hv:fval f=0) (hs:f.sz≤12) (h: ¬(atm f 2 3).2≠0):DfOK (atm f 2 3).1∧(atm f 2 3).1.inp=6∧ ∀ w:List UInt8,w.length≤20→LtOK (atm f 2 3).1 (w.map lxA)∧nth (atm f 2 3).1.ac (dEnd (atm f 2 3).1 (w.map lxA)).toNat=hoB ⟨w.map lxI,w.map lxO⟩ f∧hoE ⟨w.map lxI,w.map lxO⟩ f=0:=by
  obtain ⟨L,hg⟩:=atm_good h
  have he: ¬(simp_ f).2≠0:=fun e=>by
    have h0: ¬fval f≠0:=by omega
    rw [atm_s h0 (by decide) e] at h; exact h e
  refine ⟨hg.ok,hg.n,fun w hl=>?_⟩
  have hlt:=lx_ok (d:=(atm f 2 3).1) hg.n hl
  have st:=st_w hv hs hg he hl w.length (Nat.le_refl _)
  obtain ⟨d1,d2⟩:=dEnd_rng hg.ok hlt w.length
  have ht:(w.map lxA).take w.length=w.map lxA:=List.take_of_length_le (by rw [List.length_map]; exact Nat.le_refl _)
  have hr:=st.r
  have hss:=st.s
  rw [ht] at d1 d2 hr hss
  have hi:(w.map lxI).length=w.length:=List.length_map ..
  have ho:(w.map lxO).length=w.length:=List.length_map ..
  refine ⟨hlt,?_,hoE_ok hv (by show (w.map lxI).length≤1024; omega) (by show (w.map lxO).length=(w.map lxI).length; omega)⟩
  rw [hg.acc _ (by rw [hg.len]; omega),hoB_ok hv (by show (w.map lxI).length≤1024; omega) (by show (w.map lxO).length=(w.map lxI).length; omega),← hss]
  have:=sat_end (t:=⟨w.map lxI,w.map lxO⟩) (nth L (dEnd (atm f 2 3).1 (w.map lxA)).toNat) (fval_ok hr.v)
  rw [← this]
  show sat _ _ (w.map lxI).length=_
  rw [hi]
end Go.Proofs.YteehaobohaecmaaDoor
namespace Go.Proofs.YteehaobohaecmaaDoor
open Go
theorem wtk {β:Type} {g:UInt8→β} {w:List UInt8} {j:Nat} (k:Nat) (h:j≤k):(w.take j).map g=List.take j (List.map g (List.take k w)):=by
  rw [← List.map_take,List.take_take,Nat.min_eq_left h]
end Go.Proofs.YteehaobohaecmaaDoor
namespace Go.Proofs.YteehaobohaecmaaDoor
open Go
theorem aRow_run {cur : Fm} (hc : Run 13 cur) : ∀ (m x : Nat) (l : List Fm) (r : List Int), m + x ≤ 6 → (∀ g ∈ l, Run 13 g) → ((aRow cur 3 m x l r).1 = 0 ∧ ∀ g ∈ (aRow cur 3 m x l r).2.1, Run 13 g) ∨ aRow cur 3 m x l r = (11, [], [])
  |0,x,l,r,hm,hl=>.inl ⟨rfl,hl⟩
  | m + 1, x, l, r, hm, hl => by
    rw [aRow]
    rcases run_step (a:=((x / 3:Nat):Int)) (o:=((x % 3:Nat):Int)) hc (by decide) ⟨by omega,by omega⟩ ⟨by omega,by omega⟩ with p|⟨g',p,p1,_⟩
    · rw [p]; exact .inr rfl
    · rw [p,if_neg (by simp)]
      split
      · exact aRow_run hc m (x+1) l _ (by omega) hl
      · split
        · exact .inr rfl
        · exact aRow_run hc m (x+1) _ _ (by omega) fun g hg=>by
            rcases List.mem_append.1 hg with q|q
            · exact hl g q
            · rw [List.mem_singleton.1 q]; exact p1
theorem aOut_run : ∀ (m s : Nat) (l : List Fm) (nx : List (List Int)) (ac : List Bool), (∀ g ∈ l, Run 13 g) → (aOut 6 3 m s l nx ac).1 = 0 ∨ aOut 6 3 m s l nx ac = (11, [], [])
  |0,s,l,nx,ac,hl=>.inl rfl
  | m + 1, s, l, nx, ac, hl => by
    rw [aOut]
    by_cases q:s < l.length
    · rw [if_pos q]
      rcases aRow_run (hl _ (nth_mem q)) 6 0 l [] (by decide) hl with ⟨e1,e2⟩|e
      · rw [if_neg (by rw [e1]; simp)]
        exact aOut_run m (s+1) _ _ _ e2
      · rw [e]; exact .inr rfl
    · rw [if_neg q]; exact .inl rfl
theorem atm_words_bad {f:Fm} (hv:fval f=0) (hs:f.sz≤12) (h:(atm f 2 3).2≠0):atm f 2 3=(zD,11):=by
  have h0: ¬fval f≠0:=by omega
  have h2: ¬((2:Int) < 1∨64 < (2:Int)∨(3:Int) < 1∨((1024 / (2:Int).toNat:Nat):Int) < 3):=by decide
  rcases run_start hv hs (by decide) with q|⟨g,q,q1,_⟩
  · rw [atm_s h0 h2 (by rw [q]; exact (show (11:Int)≠0 by decide)),q]
  · have h3: ¬(simp_ f).2≠0:=by rw [q]; exact fun e=>e rfl
    have e:(simp_ f).1=g:=by rw [q]
    have hA:=aOut_run (129 - 0) 0 [g] [] [] (fun x hx=>by rw [List.mem_singleton.1 hx]; exact q1)
    rcases hA with e0|e0
    · exfalso
      apply h
      unfold atm
      rw [if_neg h0,if_neg h2,if_neg h3,e]
      have:(atmS g (2*3:Int).toNat (3:Int).toNat).1=0:=e0
      rw [if_neg (by rw [this]; simp)]
    · have:atmS (simp_ f).1 (2*3:Int).toNat (3:Int).toNat=(11,[],[]):=by rw [e]; exact e0
      exact atm_x h0 h2 h3 this (by decide)
end Go.Proofs.YteehaobohaecmaaDoor
namespace Go.Proofs.YteehaobohaecmaaDoor
@[simp] theorem pureLL_bBs (l:List UInt8):pureLL (l.map bB)=true:=pureLL_map _ _ fun a=>by simp [bB]
@[simp] theorem canonLL_bBs (l:List UInt8):canonLL (l.map bB)=true:=canonLL_map _ _ fun a=>by simp [bB]
end Go.Proofs.YteehaobohaecmaaDoor
namespace Go.Proofs.YteehaobohaecmaaDoor
open Go Go.Proofs
theorem dfvalid_pure (d:Df) (hd:DfOK d):PureC Tryd.prog 29 [(V.agg [(iV (d.inp)),(iV (d.st)),(intss d.nx),(V.sl (List.map cB (d.ac)))])] (iV (0:Int)):=by
 refine pW Tryd.func29 s29_ok fun hB=>?_
 unfold s29
 dsimp only
 have hi:=hd.i
 have hs:=hd.s
 have hn:=hd.n
 have ha:=hd.a
 refine W_r (R_box (i:=1) (n:=0) (m:=4) (cs:=[(iV (d.inp)),(iV (d.st)),(intss d.nx),(V.sl (List.map cB (d.ac)))]) rfl (congrArg Blk.ver rfl) rfl rfl rfl (R_mv rfl (R_e (W_r (R_fk rfl rfl (R_lk rfl rfl rfl rfl (R_len rfl ?_)))))))
 refine R_mv rfl (R_e (W_seq_blockg fun Q1 n1 x1 y1 z1=>(W_r (R_fk rfl rfl (R_lk rfl rfl rfl rfl (R_callk (size_pure ((d.inp))) rfl (R_not rfl ?_)))))))
 refine R_mv rfl (R_e ?_)
 refine W_if rfl (fun c2=>?_) fun c2=>?_
 · exfalso; omega
 refine W_r (R_mv rfl (R_eql rfl rfl (R_mv rfl (R_e ?_))))
 refine W_if rfl (fun c3=>?_) fun c3=>?_
 · exfalso; omega
 refine W_r (R_mv rfl (R_gtr rfl rfl (R_mv rfl (R_e ?_))))
 refine W_if rfl (fun c4=>?_) fun c4=>?_
 · exfalso; omega
 refine W_r (R_fk rfl rfl (R_lk rfl rfl rfl rfl (R_lss rfl rfl (R_mv rfl ?_))))
 refine Ops_seg 5 (fun T H=>T 1=(V.mp 1 1 0 0)∧T 3=(iV ((d.nx.length:Nat):Int))∧T 29=(V.bool (decide (((d.st) < (0:Int))∨(((d.nx.length:Nat):Int)≤(d.st)))))∧H 1=(bk 1 45 4 [[(iV (d.inp)),(iV (d.st)),(intss d.nx),(V.sl (List.map cB (d.ac)))]])∧True) ?_ ?_
 ·
  by_cases g5:(d.st) < (0:Int)
  ·
   refine G_n (edT g5 rfl) (G_n (edT g5 rfl) (G_n (edT g5 rfl) (G_n (edT g5 rfl) (R_pickT (edT g5 rfl) rfl ?_))))
   exact ⟨rfl,rfl,(dec_orT g5),rfl,trivial⟩
  ·
   refine G_yes (edF g5 rfl) (R_fk rfl rfl (G_yes (edF g5 rfl) (R_lk rfl rfl rfl rfl (G_yes (edF g5 rfl) (R_mv rfl (G_yes (edF g5 rfl) (R_geq rfl rfl ?_)))))))
   refine R_pickF (edF g5 rfl) rfl ?_
   exact ⟨rfl,rfl,(dec_orF g5),rfl,trivial⟩
 intro T H ⟨t1,t3,t29,h1,_⟩
 refine R_mv t29 (R_e ?_)
 refine W_if rfl (fun c6=>?_) fun c6=>?_
 · exfalso; omega
 refine W_r (R_fk t1 h1 (R_lk rfl h1 rfl rfl (R_len rfl (R_mv t3 (R_neq rfl rfl (R_mv rfl (R_e ?_)))))))
 refine W_if rfl (fun c7=>?_) fun c7=>?_
 · exfalso; omega
 refine W_skip (n1 _ _ (.done (W_seq_seq (W_r (R_mv rfl (R_e (W_seq_blockg fun Q8 n8 x8 y8 z8=>?_)))))))
 refine W_loop (fun mm T H=> ∃ (k:Nat),mm=d.nx.length - k∧T 1=(V.mp 1 1 0 0)∧T 3=(iV ((d.nx.length:Nat):Int))∧T 4=(iV ((k:Nat):Int))∧H 1=(bk 1 45 4 [[(iV (d.inp)),(iV (d.st)),(intss d.nx),(V.sl (List.map cB (d.ac)))]])∧(k≤d.nx.length)) ?_ ?_
 ·
  refine ⟨_,0,rfl,t1,t3,(Eq.trans (@rfl V (iV (0:Int))) rfl),h1,?_⟩
  · omega
 intro mm T H ⟨k,hmm,t1,t3,t4,h1,hk⟩ Q9 p19 p29 p39
 unfold b29_0
 refine W_seq_seq (W_r (R_mv t4 (R_mv t3 (R_lss rfl rfl (R_e ?_)))))
 refine W_seq_if rfl (fun c10=>?_) fun c10=>?_
 ·
  have hr:=hd.r k (by omega)
  refine W_seq_skip (W_seq_blockg fun Q11 n11 x11 y11 z11=>(W_seq_seq (W_r (R_fk t1 h1 (R_lk rfl h1 rfl rfl (R_mv t4 (R_idx (i:=k) (@rfl V (intss d.nx)) (@rfl V (iV ((k:Nat):Int))) (by omega) rfl ?_)))))))
  refine R_load_pp rfl rfl (R_len rfl (R_fk t1 h1 (R_lk rfl h1 rfl rfl (R_neq rfl rfl (R_e ?_)))))
  refine W_seq_if rfl (fun c12=>?_) fun c12=>?_
  · exfalso; omega
  refine W_seq_skip (W_r (R_mv rfl (R_e (W_block fun Q13 n13 x13 y13 z13=>?_))))
  refine W_loop (fun mm T H=> ∃ (j:Nat),mm=((d.inp).toNat) - j∧T 1=(V.mp 1 1 0 0)∧T 3=(iV ((d.nx.length:Nat):Int))∧T 4=(iV ((k:Nat):Int))∧T 5=(iV ((j:Nat):Int))∧H 1=(bk 1 45 4 [[(iV (d.inp)),(iV (d.st)),(intss d.nx),(V.sl (List.map cB (d.ac)))]])∧(j≤(d.inp).toNat)) ?_ ?_
  ·
   refine ⟨_,0,rfl,t1,t3,t4,(Eq.trans (@rfl V (iV (0:Int))) rfl),h1,?_⟩
   · omega
  intro mm T H ⟨j,hmm,t1,t3,t4,t5,h1,hj⟩ Q14 p114 p214 p314
  unfold b29_1
  have hr:=hd.r k (by omega)
  refine W_seq_seq (W_r (R_mv t5 (R_fk t1 h1 (R_lk rfl h1 rfl rfl (R_lss rfl rfl (R_e ?_))))))
  refine W_seq_if rfl (fun c15=>?_) fun c15=>?_
  ·
   have hr2:=hr.2 j (by omega)
   refine W_seq_skip (W_seq_blockg fun Q16 n16 x16 y16 z16=>(W_r (R_fk t1 h1 (R_lk rfl h1 rfl rfl (R_mv t4 (R_idx (i:=k) (@rfl V (intss d.nx)) (@rfl V (iV ((k:Nat):Int))) (by omega) rfl (R_load_pp rfl rfl ?_)))))))
   refine R_mv t5 (R_idx (i:=j) (@rfl V (ints ((nth (d.nx) (k))))) (@rfl V (iV ((j:Nat):Int))) (by omega) rfl (R_load_pp rfl rfl (R_lss rfl rfl (R_mv rfl ?_))))
   refine Ops_seg 11 (fun T H=>T 1=(V.mp 1 1 0 0)∧T 3=(iV ((d.nx.length:Nat):Int))∧T 4=(iV ((k:Nat):Int))∧T 5=(iV ((j:Nat):Int))∧T 76=(V.bool (decide ((((nth ((nth (d.nx) (k))) (j))) < (0:Int))∨(((d.nx.length:Nat):Int)≤((nth ((nth (d.nx) (k))) (j)))))))∧H 1=(bk 1 45 4 [[(iV (d.inp)),(iV (d.st)),(intss d.nx),(V.sl (List.map cB (d.ac)))]])∧True) ?_ ?_
   ·
    by_cases g17:((nth ((nth (d.nx) (k))) (j))) < (0:Int)
    ·
     refine G_n (edT g17 rfl) (G_n (edT g17 rfl) (G_n (edT g17 rfl) (G_n (edT g17 rfl) (G_n (edT g17 rfl) (G_n (edT g17 rfl) (G_n (edT g17 rfl) (G_n (edT g17 rfl) ?_)))))))
     refine G_n (edT g17 rfl) (G_n (edT g17 rfl) (R_pickT (edT g17 rfl) rfl ?_))
     exact ⟨t1,t3,t4,t5,(dec_orT g17),h1,trivial⟩
    ·
     refine G_yes (edF g17 rfl) (R_fk t1 h1 (G_yes (edF g17 rfl) (R_lk rfl h1 rfl rfl (G_yes (edF g17 rfl) (R_mv t4 (G_yes (edF g17 rfl) (R_idx (i:=k) (@rfl V (intss d.nx)) (@rfl V (iV ((k:Nat):Int))) (by omega) rfl ?_)))))))
     refine G_yes (edF g17 rfl) (R_load_pp rfl rfl (G_yes (edF g17 rfl) (R_mv t5 (G_yes (edF g17 rfl) (R_idx (i:=j) (@rfl V (ints ((nth (d.nx) (k))))) (@rfl V (iV ((j:Nat):Int))) (by omega) rfl (G_yes (edF g17 rfl) (R_load_pp rfl rfl ?_)))))))
     refine G_yes (edF g17 rfl) (R_mv t3 (G_yes (edF g17 rfl) (R_geq rfl rfl (R_pickF (edF g17 rfl) rfl ?_))))
     exact ⟨t1,t3,t4,t5,(dec_orF g17),h1,trivial⟩
   intro T H ⟨t1,t3,t4,t5,t76,h1,_⟩
   refine R_e ?_
   refine W_if t76 (fun c18=>?_) fun c18=>?_
   · exfalso; omega
   refine W_skip (n16 _ _ (.done (W_t (R_mv t5 (R_addN rfl (@rfl V (iV ((1:Nat):Int))) (by omega) (R_mv rfl (R_e ?_)))))))
   refine p114 _ _ _ ?_ ⟨(j+1),rfl,t1,t3,t4,(Eq.trans (@rfl V (iV ((j+1:Nat):Int))) (by rfl)),h1,?_⟩
   · omega
   · omega
  refine W_seq_exit (p314 _ _ _ (x13 _ _ (n11 _ _ (.done (W_t (R_mv t4 (R_addN rfl (@rfl V (iV ((1:Nat):Int))) (by omega) ?_)))))))
  refine R_mv rfl (R_e ?_)
  refine p19 _ _ _ ?_ ⟨(k+1),rfl,t1,t3,(Eq.trans (@rfl V (iV ((k+1:Nat):Int))) (by rfl)),h1,?_⟩
  · omega
  · omega
 refine W_seq_exit (p39 _ _ _ (x8 _ _ (.done (W_r (R_mv rfl (R_e (W_ret ?_)))))))
 refine Ret_1 (@rfl V (iV (0:Int))) (fz_canon (by simp) rfl)
def r30_8:List SO:=[
 qM 18 0,
 qM 19 5,
 qA 20 1 18 19,
 ql 21 20,
 qC 22 .lss 21 0,
 qM 23 22,
 ⟨some (23,false),some 24,.mv (.t 0)⟩,
 ⟨some (23,false),some 25,.mv (.t 5)⟩,
 ⟨some (23,false),some 26,.idx 1 (.t 24) (.t 25)⟩,
 ⟨some (23,false),some 27,.load false 1 (.t 26)⟩,
 ⟨some (23,false),some 28,.mv (.t 1)⟩,
 ⟨some (23,false),some 29,.bin .geq (.t 27) (.t 28)⟩,
 sO 30 (.pick (.t 23) (.c (.bool true)) (.t 29))]
def b30_0:SC:=.seq (.seq (.reg [qM 12 5,qM 13 0,qN 14 13,qP 15 .lss 12 14]) (.cond (.t 15) (.skip) (.exit 0))) (.seq (.block 1 (.seq (.reg r30_8) (.cond (.t 30) (.seq (.reg [qI 4 1]) (.ret)) (.skip)))) (.reg [qM 16 5,qC 17 .add 16 1,qM 5 17]))
def s30:SF:=⟨31,[.tmp 4],.seq (.reg [qI 4 0]) (.seq (.seq (.reg [qM 6 1,sO 7 (.call false 43 [.t 6]),sO 8 (.un .not (.t 7))]) (.cond (.t 8) (.seq (.reg [qI 4 2]) (.ret)) (.skip))) (.seq (.seq (.reg [qM 9 0,qN 10 9,qC 11 .gtr 10 1024]) (.cond (.t 11) (.seq (.reg [qI 4 3]) (.ret)) (.skip))) (.seq (.seq (.reg [qI 5 0]) (.block 0 (.loop b30_0))) (.seq (.reg [qI 4 0]) (.ret)))))⟩
theorem s30_ok:slimF Tryd.prog ⟨[32,48,55,93,94,95,100],[],[],[]⟩ Tryd.f30=some s30:=by kernel_rfl
theorem rcheck_pure (w:List Int) (n:Int):PureC Tryd.prog 30 [(ints w),(iV (n))] (iV (wchk w n)):=by
 refine pW Tryd.func30 s30_ok fun hB=>?_
 unfold s30
 dsimp only
 refine W_r (R_mv rfl (R_e (W_seq_seq (W_r (R_mv rfl (R_callk (size_pure ((n))) rfl (R_not rfl ?_)))))))
 refine R_e ?_
 refine W_seq_if rfl (fun c1=>?_) fun c1=>?_
 ·
  refine W_seq_seq (W_r (R_mv rfl (R_e (W_seq_ret ?_))))
  refine Ret_1 (@rfl V (iV (2:Int))) (fz_int ?_)
  · rw [wchk,if_pos (by omega)]
 refine W_seq_skip (W_seq_seq (W_r (R_mv rfl (R_len rfl (R_gtr rfl rfl (R_e ?_))))))
 refine W_seq_if rfl (fun c2=>?_) fun c2=>?_
 ·
  refine W_seq_seq (W_r (R_mv rfl (R_e (W_seq_ret ?_))))
  refine Ret_1 (@rfl V (iV (3:Int))) (fz_int ?_)
  · rw [wchk,if_neg (by omega),if_pos (by omega)]
 refine W_seq_skip (W_seq_seq (W_r (R_mv rfl (R_e (W_seq_blockg fun Q3 n3 x3 y3 z3=>?_)))))
 refine W_loop (fun mm T H=> ∃ (k:Nat),mm=w.length - k∧T 0=(ints w)∧T 1=(iV (n))∧T 5=(iV ((k:Nat):Int))∧(k≤w.length)∧(w.length≤1024)∧(1≤n∧n≤1024)∧(wchk w n=fe (wE w n) k (w.length - k))) ?_ ?_
 ·
  refine ⟨_,0,rfl,rfl,rfl,(Eq.trans (@rfl V (iV (0:Int))) rfl),?_,?_,?_,?_⟩
  · omega
  · omega
  · omega
  · rw [wchk,if_neg (by omega),if_neg (by omega)]; rfl
 intro mm T H ⟨k,hmm,t0,t1,t5,hk,hl,hn,hc⟩ Q4 p14 p24 p34
 unfold b30_0
 refine W_seq_seq (W_r (R_mv t5 (R_mv t0 (R_len rfl (R_lss rfl rfl (R_e ?_))))))
 refine W_seq_if rfl (fun c5=>?_) fun c5=>?_
 ·
  refine W_seq_skip (W_seq_blockg fun Q6 n6 x6 y6 z6=>(W_r (R_mv t0 (R_mv t5 (R_idx (i:=k) (@rfl V (ints w)) (@rfl V (iV ((k:Nat):Int))) (by omega) rfl (R_load_pp rfl rfl (R_lss rfl rfl ?_)))))))
  refine R_mv rfl ?_
  refine Ops_seg 7 (fun T H=>T 0=(ints w)∧T 1=(iV (n))∧T 5=(iV ((k:Nat):Int))∧T 30=(V.bool (decide ((((nth (w) (k))) < (0:Int))∨((n)≤((nth (w) (k)))))))∧True) ?_ ?_
  ·
   by_cases g7:((nth (w) (k))) < (0:Int)
   ·
    refine G_n (edT g7 rfl) (G_n (edT g7 rfl) (G_n (edT g7 rfl) (G_n (edT g7 rfl) (G_n (edT g7 rfl) (G_n (edT g7 rfl) (R_pickT (edT g7 rfl) rfl ?_))))))
    exact ⟨t0,t1,t5,(dec_orT g7),trivial⟩
   ·
    refine G_yes (edF g7 rfl) (R_mv t0 (G_yes (edF g7 rfl) (R_mv t5 (G_yes (edF g7 rfl) (R_idx (i:=k) (@rfl V (ints w)) (@rfl V (iV ((k:Nat):Int))) (by omega) rfl (G_yes (edF g7 rfl) (R_load_pp rfl rfl ?_)))))))
    refine G_yes (edF g7 rfl) (R_mv t1 (G_yes (edF g7 rfl) (R_geq rfl rfl (R_pickF (edF g7 rfl) rfl ?_))))
    exact ⟨t0,t1,t5,(dec_orF g7),trivial⟩
  intro T H ⟨t0,t1,t5,t30,_⟩
  refine R_e ?_
  refine W_if t30 (fun c8=>?_) fun c8=>?_
  ·
   refine W_r (R_mv rfl (R_e (W_ret (y6 _ _ (p24 _ _ (y3 _ _ ?_))))))
   refine Ret_1 (@rfl V (iV (1:Int))) (fz_int ?_)
   · rw [hc,fe_hit (by unfold wE; split <;> omega) (by omega)]; unfold wE; split <;> omega
  refine W_skip (n6 _ _ (.done (W_t (R_mv t5 (R_addN rfl (@rfl V (iV ((1:Nat):Int))) (by omega) (R_mv rfl (R_e ?_)))))))
  refine p14 _ _ _ ?_ ⟨(k+1),rfl,t0,t1,(Eq.trans (@rfl V (iV ((k+1:Nat):Int))) (by rfl)),?_,?_,?_,?_⟩
  · omega
  · omega
  · omega
  · omega
  · rw [hc,fe_skip (by unfold wE; split <;> omega) (by omega)]
 refine W_seq_exit (p34 _ _ _ (x3 _ _ (.done (W_r (R_mv rfl (R_e (W_ret ?_)))))))
 refine Ret_1 (@rfl V (iV (0:Int))) (fz_int ?_)
 · rw [hc,fe_end (by omega)]
def r31_5:List SO:=[
 qF 15 2 2,
 ql 16 15,
 qM 17 5,
 qA 18 1 16 17,
 ql 19 18,
 qM 20 1,
 qM 21 6,
 qA 22 1 20 21,
 ql 23 22,
 qA 24 1 19 23,
 ql 25 24,
 qM 5 25]
def b31_0:SC:=.seq (.seq (.reg [qM 9 6,qM 10 1,qN 11 10,qP 12 .lss 9 11]) (.cond (.t 12) (.skip) (.exit 0))) (.seq (.block 1 (.reg r31_5)) (.reg [qM 13 6,qC 14 .add 13 1,qM 6 14]))
def s31:SF:=⟨27,[.tmp 4],.seq (.reg [sO 2 (.box 45 4 (.t 0)),qI 4 0]) (.seq (.reg [qF 7 1 2,ql 8 7,qM 5 8]) (.seq (.seq (.reg [qI 6 0]) (.block 0 (.loop b31_0))) (.seq (.reg [qM 26 5,qM 4 26]) (.ret))))⟩
theorem s31_ok:slimF Tryd.prog ⟨[32,48,55,93,94,95,100],[],[],[]⟩ Tryd.f31=some s31:=by kernel_rfl
theorem dfend_pure (d:Df) (w:List Int) (hd:DfOK d) (hw:LtOK d w):PureC Tryd.prog 31 [(V.agg [(iV (d.inp)),(iV (d.st)),(intss d.nx),(V.sl (List.map cB (d.ac)))]),(ints w)] (iV (dEnd d w)):=by
 refine pW Tryd.func31 s31_ok fun hB=>?_
 unfold s31
 dsimp only
 refine W_r (R_box (i:=2) (n:=0) (m:=4) (cs:=[(iV (d.inp)),(iV (d.st)),(intss d.nx),(V.sl (List.map cB (d.ac)))]) rfl (congrArg Blk.ver rfl) rfl rfl rfl (R_mv rfl (R_e (W_r (R_fk rfl rfl (R_lk rfl rfl rfl rfl (R_mv rfl ?_)))))))
 refine R_e (W_seq_seq (W_r (R_mv rfl (R_e (W_seq_blockg fun Q1 n1 x1 y1 z1=>?_)))))
 refine W_loop (fun mm T H=> ∃ (k:Nat),mm=w.length - k∧T 1=(ints w)∧T 2=(V.mp 2 1 0 0)∧T 5=(iV (dEnd d (w.take k)))∧T 6=(iV ((k:Nat):Int))∧H 2=(bk 1 45 4 [[(iV (d.inp)),(iV (d.st)),(intss d.nx),(V.sl (List.map cB (d.ac)))]])∧(k≤w.length)) ?_ ?_
 ·
  refine ⟨_,0,rfl,rfl,rfl,(Eq.trans (@rfl V (iV (d.st))) (by rfl)),(Eq.trans (@rfl V (iV (0:Int))) rfl),rfl,?_⟩
  · omega
 intro mm T H ⟨k,hmm,t1,t2,t5,t6,h2,hk⟩ Q2 p12 p22 p32
 unfold b31_0
 have u1:=dEnd_rng hd hw k
 have u2:=hd.r (dEnd d (w.take k)).toNat (by omega)
 have u3:k < w.length→_:=hw.r k
 refine W_seq_seq (W_r (R_mv t6 (R_mv t1 (R_len rfl (R_lss rfl rfl (R_e ?_))))))
 refine W_seq_if rfl (fun c3=>?_) fun c3=>?_
 ·
  refine W_seq_skip (W_seq_blockg fun Q4 n4 x4 y4 z4=>(W_t (R_fk t2 h2 (R_lk rfl h2 rfl rfl (R_mv t5 (R_idxI (i:=(dEnd d (w.take k))) (@rfl V (intss d.nx)) (@rfl V (iV (dEnd d (w.take k)))) (by omega) (by omega) rfl (R_load_pp rfl rfl ?_)))))))
  refine R_mv t1 (R_mv t6 (R_idx (i:=k) (@rfl V (ints w)) (@rfl V (iV ((k:Nat):Int))) (by omega) rfl (R_load_pp rfl rfl (R_idxI (i:=((nth (w) (k)))) (@rfl V (ints ((nth (d.nx) (dEnd d (w.take k)).toNat)))) (@rfl V (iV ((nth (w) (k))))) (by omega) (by omega) rfl (R_load_pp rfl rfl (R_mv rfl (R_e ?_)))))))
  refine n4 _ _ (.done (W_t (R_mv t6 (R_addN rfl (@rfl V (iV ((1:Nat):Int))) (by omega) (R_mv rfl (R_e ?_))))))
  refine p12 _ _ _ ?_ ⟨(k+1),rfl,t1,t2,(Eq.trans (@rfl V (iV ((nth ((nth (d.nx) (dEnd d (w.take k)).toNat)) ((nth (w) (k))).toNat)))) (by (rw [dEnd_step (by omega)]; done))),(Eq.trans (@rfl V (iV ((k+1:Nat):Int))) (by rfl)),h2,?_⟩
  · omega
  · omega
 refine W_seq_exit (p32 _ _ _ (x1 _ _ (.done (W_r (R_mv t5 (R_mv rfl (R_e ?_)))))))
 refine W_ret ?_
 refine Ret_1 (@rfl V (iV (dEnd d (w.take k)))) (fz_int ?_)
 · rw [show k=w.length by omega,List.take_length]
theorem dfacc_pure (d:Df) (w:List Int) (hd:DfOK d) (hw:LtOK d w):PureC Tryd.prog 17 [(V.agg [(iV (d.inp)),(iV (d.st)),(intss d.nx),(V.sl (List.map cB (d.ac)))]),(ints w)] (V.tup [(V.bool (nth d.ac (dEnd d w).toNat)),(iV (0:Int))]):=by
 refine pW Tryd.func17 s17_ok fun hB=>?_
 unfold s17
 dsimp only
 have hc:=hw.chk hd
 have u1:=dEnd_rng hd hw w.length
 rw [List.take_length] at u1
 have ha:=hd.a
 refine W_r (R_box (i:=2) (n:=0) (m:=4) (cs:=[(iV (d.inp)),(iV (d.st)),(intss d.nx),(V.sl (List.map cB (d.ac)))]) rfl (congrArg Blk.ver rfl) rfl rfl rfl (R_mv rfl (R_mv rfl (R_e (W_seq_seq (W_r (R_lk rfl rfl rfl rfl ?_)))))))
 refine R_callk (dfvalid_pure d hd) rfl (R_neq rfl rfl (R_e ?_))
 refine W_seq_if rfl (fun c1=>?_) fun c1=>?_
 · exact absurd c1 (by decide)
 refine W_seq_skip (W_r (R_mv rfl (R_fk rfl rfl (R_lk rfl rfl rfl rfl (R_callk (rcheck_pure w ((d.inp))) rfl (R_mv rfl (R_e ?_)))))))
 refine W_seq_seq (W_r (R_mv rfl (R_neq rfl rfl (R_e ?_))))
 refine W_seq_if rfl (fun c2=>?_) fun c2=>?_
 · exfalso; omega
 refine W_seq_skip (W_r (R_fk rfl rfl (R_lk rfl rfl rfl rfl (R_lk rfl rfl rfl rfl (R_mv rfl (R_callk (dfend_pure d w hd hw) rfl (R_idxI (i:=(dEnd d w)) (@rfl V (V.sl (List.map cB (d.ac)))) (@rfl V (iV (dEnd d w))) (by omega) (by omega) rfl ?_)))))))
 refine R_load_pp rfl rfl (R_mv rfl (R_mv rfl (R_e (W_ret ?_))))
 refine Ret_2 (@rfl V (V.bool ((nth (d.ac) (dEnd d w).toNat)))) (@rfl V (iV (0:Int))) (fz_bool ?_) (fz_canon (by simp) rfl)
 · first|rfl|omega|simp_all
theorem law4_pure (f:Fm) (w:List UInt8):PureC Tryd.prog 4 [(V.agg [(iV (f.op)),(iV (f.arg)),(V.sl (List.map cF (f.kids)))]),(V.sl (List.map bB (w)))] (V.bool true):=by
 refine pW Tryd.func4 s4_ok fun hB=>?_
 unfold s4
 dsimp only
 refine W_r (R_box (i:=2) (n:=0) (m:=3) (cs:=[(iV (f.op)),(iV (f.arg)),(V.sl (List.map cF (f.kids)))]) rfl (congrArg Blk.ver rfl) rfl rfl rfl (R_mv rfl (R_e (W_seq_seq (W_r (R_lk rfl rfl rfl rfl (R_callk (fsize_pure f ((12:Int)) (by decide)) rfl ?_)))))))
 refine R_gtr rfl rfl (R_mv rfl ?_)
 refine Ops_seg 4 (fun T H=>T 1=(V.sl (List.map bB (w)))∧T 2=(V.mp 2 1 0 0)∧T 23=(V.bool (decide (((12:Int) < (szm f ((12:Int))))∨((fval f)≠(0:Int)))))∧H 2=(bk 1 24 3 [[(iV (f.op)),(iV (f.arg)),(V.sl (List.map cF (f.kids)))]])∧H 5=(⟨0,false,false,0,0,[]⟩:Blk)∧H 7=(⟨0,false,false,0,0,[]⟩:Blk)∧H 8=(⟨0,false,false,0,0,[]⟩:Blk)∧H 811=(⟨0,false,false,0,0,[]⟩:Blk)∧H 812=(⟨0,false,false,0,0,[]⟩:Blk)∧True) ?_ ?_
 ·
  by_cases g1:(12:Int) < (szm f ((12:Int)))
  ·
   refine G_n (edT g1 rfl) (G_n (edT g1 rfl) (G_n (edT g1 rfl) (R_pickT (edT g1 rfl) rfl ?_)))
   exact ⟨rfl,rfl,(dec_orT g1),rfl,rfl,rfl,rfl,rfl,rfl,trivial⟩
  ·
   refine G_yes (edF g1 rfl) (R_lk rfl rfl rfl rfl (G_yes (edF g1 rfl) (R_callk (rfvalid_pure f) rfl (G_yes (edF g1 rfl) (R_neq rfl rfl (R_pickF (edF g1 rfl) rfl ?_))))))
   exact ⟨rfl,rfl,(dec_orF g1),rfl,rfl,rfl,rfl,rfl,rfl,trivial⟩
 intro T H ⟨t1,t2,t23,h2,h5,h7,h8,h811,h812,_⟩
 refine R_mv t23 ?_
 refine Ops_seg 4 (fun T H=>T 1=(V.sl (List.map bB (w)))∧T 2=(V.mp 2 1 0 0)∧T 28=(V.bool (decide ((((12:Int) < (szm f ((12:Int))))∨((fval f)≠(0:Int)))∨((20:Int) < ((w.length:Nat):Int)))))∧H 2=(bk 1 24 3 [[(iV (f.op)),(iV (f.arg)),(V.sl (List.map cF (f.kids)))]])∧H 5=(⟨0,false,false,0,0,[]⟩:Blk)∧H 7=(⟨0,false,false,0,0,[]⟩:Blk)∧H 8=(⟨0,false,false,0,0,[]⟩:Blk)∧H 811=(⟨0,false,false,0,0,[]⟩:Blk)∧H 812=(⟨0,false,false,0,0,[]⟩:Blk)∧True) ?_ ?_
 ·
  by_cases g2:((12:Int) < (szm f ((12:Int))))∨((fval f)≠(0:Int))
  ·
   refine G_n (edT g2 rfl) (G_n (edT g2 rfl) (G_n (edT g2 rfl) (R_pickT (edT g2 rfl) rfl ?_)))
   exact ⟨t1,t2,(dec_orT g2),h2,h5,h7,h8,h811,h812,trivial⟩
  ·
   refine G_yes (edF g2 rfl) (R_mv t1 (G_yes (edF g2 rfl) (R_len rfl (G_yes (edF g2 rfl) (R_gtr rfl rfl (R_pickF (edF g2 rfl) rfl ?_))))))
   exact ⟨t1,t2,(dec_orF g2),h2,h5,h7,h8,h811,h812,trivial⟩
 intro T H ⟨t1,t2,t28,h2,h5,h7,h8,h811,h812,_⟩
 refine R_e ?_
 refine W_seq_if t28 (fun c3=>?_) fun c3=>?_
 ·
  refine W_seq_seq (W_r (R_callk (aw46_pure) rfl (R_mv rfl (R_e (W_seq_ret ?_)))))
  refine Ret_1 (@rfl V (V.bool true)) (fz_canon (by simp) rfl)
 have v1:fval f=0:=by omega
 have v2:=szm_sz (f:=f) (m:=12) (by omega)
 refine W_seq_skip (W_r (R_lk t2 h2 rfl rfl (R_callk (atm_pure f ((2:Int)) ((3:Int))) rfl (R_mv rfl (R_ext rfl rfl (R_ext rfl rfl (R_alloc (i:=5) (n:=0) (m:=4) rfl (congrArg Blk.ver h5) rfl ?_)))))))
 refine R_sk rfl rfl rfl rfl rfl rfl rfl rfl rfl (R_mv rfl (R_e (W_seq_seq (W_r (R_mv rfl (R_neq rfl rfl (R_e ?_)))))))
 refine W_seq_if rfl (fun c4=>?_) fun c4=>?_
 ·
  have s1:=atm_words_bad v1 (by omega) c4
  refine W_seq_seq (W_r (R_mv rfl (R_eql rfl rfl (R_mv rfl ?_))))
  refine Ops_seg 4 (fun T H=>T 43=(V.bool (decide ((((atm f ((2:Int)) ((3:Int))).2)=(11:Int))∧(((atm f ((2:Int)) ((3:Int))).1)=(⟨((0:Int)),((0:Int)),([]),([])⟩:Df)))))∧H 2=(bk 1 24 3 [[(iV (f.op)),(iV (f.arg)),(V.sl (List.map cF (f.kids)))]])∧H 5=(bk 1 45 4 [[(iV ((atm f ((2:Int)) ((3:Int))).1.inp)),(iV ((atm f ((2:Int)) ((3:Int))).1.st)),(intss ((atm f ((2:Int)) ((3:Int))).1.nx)),(V.sl (List.map cB ((atm f ((2:Int)) ((3:Int))).1.ac)))]])∧H 7=(⟨0,false,false,0,0,[]⟩:Blk)∧H 8=(⟨0,false,false,0,0,[]⟩:Blk)∧H 811=(⟨0,false,false,0,0,[]⟩:Blk)∧H 812=(⟨0,false,false,0,0,[]⟩:Blk)∧True) ?_ ?_
  ·
   by_cases g5:((atm f ((2:Int)) ((3:Int))).2)=(11:Int)
   ·
    refine G_yes (edT g5 rfl) (R_lk rfl rfl rfl rfl (G_yes (edT g5 rfl) (R_build rfl rfl (G_yes (edT g5 rfl) (R_call (evcons (@rfl V (V.agg [(iV ((atm f ((2:Int)) ((3:Int))).1.inp)),(iV ((atm f ((2:Int)) ((3:Int))).1.st)),(intss ((atm f ((2:Int)) ((3:Int))).1.nx)),(V.sl (List.map cB ((atm f ((2:Int)) ((3:Int))).1.ac)))])) (evcons (@rfl V (V.agg [(iV (0:Int)),(iV (0:Int)),V.nilsl,V.nilsl])) evnil)) (dfsame_pure ((atm f ((2:Int)) ((3:Int))).1) (⟨((0:Int)),((0:Int)),([]),([])⟩:Df)) (mcons (fzv_canon 6 _ (by simp [-List.map_take,-List.map_drop,-List.map_append,-List.map_reverse])) (mcons (by rfl) rfl)) (by simp [-List.map_take,-List.map_drop,-List.map_append,-List.map_reverse]) (Or.inl (by simp [-List.map_take,-List.map_drop,-List.map_append,-List.map_reverse])) (R_pickT (edT g5 rfl) rfl ?_))))))
    exact ⟨(dec_andT g5),h2,rfl,h7,h8,h811,h812,trivial⟩
   ·
    refine G_n (edF g5 rfl) (G_n (edF g5 rfl) (G_n (edF g5 rfl) (R_pickF (edF g5 rfl) rfl ?_)))
    exact ⟨(dec_andF g5),h2,rfl,h7,h8,h811,h812,trivial⟩
  intro T H ⟨t43,h2,h5,h7,h8,h811,h812,_⟩
  refine R_mv t43 ?_
  refine Ops_seg 2 (fun T H=>T 46=(V.bool (decide ((((atm f ((2:Int)) ((3:Int))).2)=(11:Int))∧(((atm f ((2:Int)) ((3:Int))).1)=(⟨((0:Int)),((0:Int)),([]),([])⟩:Df)))))∧H 2=(bk 1 24 3 [[(iV (f.op)),(iV (f.arg)),(V.sl (List.map cF (f.kids)))]])∧H 5=(bk 1 45 4 [[(iV ((atm f ((2:Int)) ((3:Int))).1.inp)),(iV ((atm f ((2:Int)) ((3:Int))).1.st)),(intss ((atm f ((2:Int)) ((3:Int))).1.nx)),(V.sl (List.map cB ((atm f ((2:Int)) ((3:Int))).1.ac)))]])∧H 7=(⟨0,false,false,0,0,[]⟩:Blk)∧H 8=(⟨0,false,false,0,0,[]⟩:Blk)∧H 811=(⟨0,false,false,0,0,[]⟩:Blk)∧H 812=(⟨0,false,false,0,0,[]⟩:Blk)∧True) ?_ ?_
  ·
   by_cases g6:(((atm f ((2:Int)) ((3:Int))).2)=(11:Int))∧(((atm f ((2:Int)) ((3:Int))).1)=(⟨((0:Int)),((0:Int)),([]),([])⟩:Df))
   ·
    refine G_yes (edT g6 rfl) (R_callk (aw46_pure) rfl (R_pickT (edT g6 rfl) rfl ?_))
    exact ⟨(dec_T g6),h2,h5,h7,h8,h811,h812,trivial⟩
   ·
    refine G_n (edF g6 rfl) (R_pickF (edF g6 rfl) rfl ?_)
    exact ⟨(dec_F g6),h2,h5,h7,h8,h811,h812,trivial⟩
  intro T H ⟨t46,h2,h5,h7,h8,h811,h812,_⟩
  refine R_mv t46 (R_e (W_seq_ret ?_))
  refine Ret_1 (@rfl V (V.bool (decide ((((atm f ((2:Int)) ((3:Int))).2)=(11:Int))∧(((atm f ((2:Int)) ((3:Int))).1)=(⟨((0:Int)),((0:Int)),([]),([])⟩:Df)))))) (fz_bool ?_)
  · simp [s1]
 obtain ⟨a1,a2,a4⟩:=acc_words v1 (by omega) c4
 refine W_seq_skip (W_r (R_lazy (i:=7) (n:=0) rfl (congrArg Blk.ver h7) (R_e (W_r (R_alloc (i:=8) (n:=0) (m:=2) rfl (congrArg Blk.ver h8) rfl (R_e (W_seq_seq ?_)))))))
 refine W_seq_g (fun T H=>T 1=(V.sl (List.map bB (w)))∧T 2=(V.mp 2 1 0 0)∧T 5=(V.mp 5 1 0 0)∧T 7=(V.ms 7 1 0 (0))∧T 8=(V.mp 8 1 0 0)∧T 9=(iV (0:Int))∧H 2=(bk 1 24 3 [[(iV (f.op)),(iV (f.arg)),(V.sl (List.map cF (f.kids)))]])∧H 5=(bk 1 45 4 [[(iV ((atm f ((2:Int)) ((3:Int))).1.inp)),(iV ((atm f ((2:Int)) ((3:Int))).1.st)),(intss ((atm f ((2:Int)) ((3:Int))).1.nx)),(V.sl (List.map cB ((atm f ((2:Int)) ((3:Int))).1.ac)))]])∧H 7=(bz 1 3 1 [])∧H 8=(bk 1 27 2 [[V.nilsl,V.nilsl]])∧H 811=(⟨0,false,false,0,0,[]⟩:Blk)∧H 812=(⟨0,false,false,0,0,[]⟩:Blk)∧True) ?_ ?_
 ·
  refine R_mv rfl ?_
  exact R_nil ⟨t1,t2,rfl,rfl,rfl,rfl,h2,rfl,rfl,rfl,h811,h812,trivial⟩
 intro T H ⟨t1,t2,t5,t7,t8,t9,h2,h5,h7,h8,h811,h812,_⟩
 refine .lazyCell 811 3 1 8 0 0 [V.nilsl,V.nilsl] (by decide) (by rw [h8]; rfl) (by rw [h8]; rfl) rfl (fork_ (R:=fun T H=>T 1=(V.sl (List.map bB (w)))∧T 2=(V.mp 2 1 0 0)∧T 5=(V.mp 5 1 0 0)∧T 7=(V.ms 7 1 0 (0))∧T 8=(V.mp 8 1 0 0)∧T 9=(iV (0:Int))∧H 2=(bk 1 24 3 [[(iV (f.op)),(iV (f.arg)),(V.sl (List.map cF (f.kids)))]])∧H 5=(bk 1 45 4 [[(iV ((atm f ((2:Int)) ((3:Int))).1.inp)),(iV ((atm f ((2:Int)) ((3:Int))).1.st)),(intss ((atm f ((2:Int)) ((3:Int))).1.nx)),(V.sl (List.map cB ((atm f ((2:Int)) ((3:Int))).1.ac)))]])∧H 7=(bz 1 3 1 [])∧H 8=(bk 1 27 2 [[(V.ms 811 1 0 (0)),V.nilsl]])∧H 811=(bz 1 3 1 [])∧H 812=(⟨0,false,false,0,0,[]⟩:Blk)∧True) ⟨t1,t2,t5,t7,t8,t9,((upd_ne _ _ (by decide)).trans ((upd_ne _ _ (by decide)).trans h2)),((upd_ne _ _ (by decide)).trans ((upd_ne _ _ (by decide)).trans h5)),((upd_ne _ _ (by decide)).trans ((upd_ne _ _ (by decide)).trans h7)),(by rw [upd_same,h8,(congrArg Blk.ver h811)]; rfl),(by rw [upd_ne _ _ (by decide),upd_same,(congrArg Blk.ver h811)]),((upd_ne _ _ (by decide)).trans ((upd_ne _ _ (by decide)).trans h812)),trivial⟩ ?_)
 intro T H ⟨t1,t2,t5,t7,t8,t9,h2,h5,h7,h8,h811,h812,_⟩
 refine .lazyCell 812 3 1 8 0 1 [(V.ms 811 1 0 (0)),V.nilsl] (by decide) (by rw [h8]; rfl) (by rw [h8]; rfl) rfl (.done ?_)
 refine fork_ (R:=fun T H=>T 1=(V.sl (List.map bB (w)))∧T 2=(V.mp 2 1 0 0)∧T 5=(V.mp 5 1 0 0)∧T 7=(V.ms 7 1 0 (0))∧T 8=(V.mp 8 1 0 0)∧T 9=(iV (0:Int))∧H 2=(bk 1 24 3 [[(iV (f.op)),(iV (f.arg)),(V.sl (List.map cF (f.kids)))]])∧H 5=(bk 1 45 4 [[(iV ((atm f ((2:Int)) ((3:Int))).1.inp)),(iV ((atm f ((2:Int)) ((3:Int))).1.st)),(intss ((atm f ((2:Int)) ((3:Int))).1.nx)),(V.sl (List.map cB ((atm f ((2:Int)) ((3:Int))).1.ac)))]])∧H 7=(bz 1 3 1 [])∧H 8=(bk 1 27 2 [[(V.ms 811 1 0 (0)),(V.ms 812 1 0 (0))]])∧H 811=(bz 1 3 1 [])∧H 812=(bz 1 3 1 [])∧True) ⟨t1,t2,t5,t7,t8,t9,((upd_ne _ _ (by decide)).trans ((upd_ne _ _ (by decide)).trans h2)),((upd_ne _ _ (by decide)).trans ((upd_ne _ _ (by decide)).trans h5)),((upd_ne _ _ (by decide)).trans ((upd_ne _ _ (by decide)).trans h7)),(by rw [upd_same,h8,(congrArg Blk.ver h812)]; rfl),((upd_ne _ _ (by decide)).trans ((upd_ne _ _ (by decide)).trans h811)),(by rw [upd_ne _ _ (by decide),upd_same,(congrArg Blk.ver h812)]),trivial⟩ ?_
 intro T H ⟨t1,t2,t5,t7,t8,t9,h2,h5,h7,h8,h811,h812,_⟩
 refine W_seq_blockg fun Q7 n7 x7 y7 z7=>?_
 refine W_loop (fun mm T H=> ∃ (k:Nat) (v:Nat) (v1:Nat) (v2:Nat),mm=w.length - k∧T 1=(V.sl (List.map bB (w)))∧T 2=(V.mp 2 1 0 0)∧T 5=(V.mp 5 1 0 0)∧T 7=(V.ms 7 v 0 (k))∧T 8=(V.mp 8 1 0 0)∧T 9=(iV ((k:Nat):Int))∧H 2=(bk 1 24 3 [[(iV (f.op)),(iV (f.arg)),(V.sl (List.map cF (f.kids)))]])∧H 5=(bk 1 45 4 [[(iV ((atm f ((2:Int)) ((3:Int))).1.inp)),(iV ((atm f ((2:Int)) ((3:Int))).1.st)),(intss ((atm f ((2:Int)) ((3:Int))).1.nx)),(V.sl (List.map cB ((atm f ((2:Int)) ((3:Int))).1.ac)))]])∧H 7=(bz v 3 1 (List.map cI ((w.take k).map lxA)))∧H 8=(bk 1 27 2 [[(V.ms 811 v1 0 (k)),(V.ms 812 v2 0 (k))]])∧H 811=(bz v1 3 1 (List.map cI ((w.take k).map lxI)))∧H 812=(bz v2 3 1 (List.map cI ((w.take k).map lxO)))∧(k≤w.length)) ?_ ?_
 ·
  refine ⟨_,0,1,1,1,rfl,t1,t2,t5,t7,t8,(Eq.trans t9 rfl),h2,h5,(Eq.trans h7 (by rfl)),h8,(Eq.trans h811 (by rfl)),(Eq.trans h812 (by rfl)),?_⟩
  · omega
 intro mm T H ⟨k,v,v1,v2,hmm,t1,t2,t5,t7,t8,t9,h2,h5,h7,h8,h811,h812,hk⟩ Q8 p18 p28 p38
 unfold b4_0
 have hu:=UInt8.toNat_lt (nth w k)
 refine W_seq_seq (W_r (R_mv t9 (R_mv t1 (R_len rfl (R_lss rfl rfl (R_e ?_))))))
 refine W_seq_if rfl (fun c9=>?_) fun c9=>?_
 ·
  refine W_seq_skip (W_seq_blockg fun Q10 n10 x10 y10 z10=>(W_r (R_mv t1 (R_mv t9 (R_idx (i:=k) (@rfl V (V.sl (List.map bB (w)))) (@rfl V (iV ((k:Nat):Int))) (by omega) rfl (R_load_pp rfl rfl (R_convI (n:=((nth (w) (k))).toNat) (@rfl V (u8V ((nth (w) (k))))) (Nat.lt_trans (UInt8.toNat_lt _) (by decide)) ?_)))))))
  refine R_remN (m:=(((nth (w) (k))).toNat)) (n:=6) rfl (@rfl V (iV ((6:Nat):Int))) (by omega) (by omega) (R_mv rfl (R_e (W_r (R_mv t7 (R_mv rfl (R_bslice rfl rfl (R_append1 (l:=((w.take k).map lxA)) (f:=cI) (x:=((((((nth (w) (k))).toNat) % 6:Nat):Int))) (@rfl V (V.ms 7 v 0 (k))) h7 (by (simp; omega)) (@rfl V (V.sl [[(iV (((((nth (w) (k))).toNat) % 6:Nat):Int))]])) rfl rfl (by omega) (by omega) ?_)))))))
  refine R_mv rfl (R_e (W_r (R_fk t8 h8 (R_lk rfl h8 rfl rfl (R_mv rfl (R_quoN (m:=((((nth (w) (k))).toNat) % 6)) (n:=3) rfl (@rfl V (iV ((3:Nat):Int))) (by omega) (by omega) (R_bslice rfl rfl ?_)))))))
  refine R_append1 (l:=((w.take k).map lxI)) (f:=cI) (x:=(((((((nth (w) (k))).toNat) % 6) / 3:Nat):Int))) (@rfl V (V.ms 811 v1 0 (k))) h811 (by (simp; omega)) (@rfl V (V.sl [[(iV ((((((nth (w) (k))).toNat) % 6) / 3:Nat):Int))]])) rfl rfl (by omega) (by omega) (R_fk t8 h8 (R_sk rfl rfl rfl h8 rfl rfl rfl rfl rfl (R_e (W_t (R_fk t8 rfl (R_lk rfl rfl rfl rfl (R_mv rfl ?_)))))))
  refine R_remN (m:=((((nth (w) (k))).toNat) % 6)) (n:=3) rfl (@rfl V (iV ((3:Nat):Int))) (by omega) (by omega) (R_bslice rfl rfl (R_append1 (l:=((w.take k).map lxO)) (f:=cI) (x:=(((((((nth (w) (k))).toNat) % 6) % 3:Nat):Int))) (@rfl V (V.ms 812 v2 0 (k))) h812 (by (simp; omega)) (@rfl V (V.sl [[(iV ((((((nth (w) (k))).toNat) % 6) % 3:Nat):Int))]])) rfl rfl (by omega) (by omega) (R_fk t8 rfl (R_sk rfl rfl rfl rfl rfl rfl rfl rfl rfl (R_e (n10 _ _ (.done ?_)))))))
  refine W_t (R_mv t9 (R_addN rfl (@rfl V (iV ((1:Nat):Int))) (by omega) (R_mv rfl (R_e ?_))))
  refine p18 _ _ _ ?_ ⟨(k+1),(v+1),(v1+1),(v2+1),rfl,t1,t2,t5,(Eq.trans (@rfl V (V.ms 7 (v+1) 0 (k+1))) (by rfl)),t8,(Eq.trans (@rfl V (iV ((k+1:Nat):Int))) (by rfl)),h2,h5,(Eq.trans (@rfl Blk (bz (v+1) 3 1 (List.map cI ((w.take k).map lxA++[(((((nth (w) (k))).toNat) % 6:Nat):Int)])))) (by (rw [mapTake (by omega)]; rfl))),(Eq.trans (@rfl Blk (bk 1 27 2 [[(V.ms 811 (v1+1) 0 (k+1)),(V.ms 812 (v2+1) 0 (k+1))]])) (by rfl)),(Eq.trans (@rfl Blk (bz (v1+1) 3 1 (List.map cI ((w.take k).map lxI++[((((((nth (w) (k))).toNat) % 6) / 3:Nat):Int)])))) (by (rw [mapTake (by omega)]; rfl))),(Eq.trans (@rfl Blk (bz (v2+1) 3 1 (List.map cI ((w.take k).map lxO++[((((((nth (w) (k))).toNat) % 6) % 3:Nat):Int)])))) (by (rw [mapTake (by omega)]; rfl))),?_⟩
  · omega
  · omega
 have hk0:k=w.length:=by omega
 have hkw:w.take k=w:=by rw [hk0,List.take_length]
 have hA:(List.map lxA (List.take k w)).length=k:=by simp; omega
 have hI:(List.map lxI (List.take k w)).length=k:=by simp; omega
 have hO:(List.map lxO (List.take k w)).length=k:=by simp; omega
 refine W_seq_exit (p38 _ _ _ (x7 _ _ (fork_ (R:=fun T H=>T 1=(V.sl (List.map bB (w)))∧T 2=(V.mp 2 1 0 0)∧T 5=(V.mp 5 1 0 0)∧T 7=(V.ms 7 v 0 (k))∧T 8=(V.mp 8 1 0 0)∧T 9=(iV ((k:Nat):Int))∧T 50=(V.bool (decide (((k:Nat):Int) < ((w.length:Nat):Int))))∧H 2=(bk 1 24 3 [[(iV (f.op)),(iV (f.arg)),(V.sl (List.map cF (f.kids)))]])∧H 5=(bk 1 45 4 [[(iV ((atm f ((2:Int)) ((3:Int))).1.inp)),(iV ((atm f ((2:Int)) ((3:Int))).1.st)),(intss ((atm f ((2:Int)) ((3:Int))).1.nx)),(V.sl (List.map cB ((atm f ((2:Int)) ((3:Int))).1.ac)))]])∧H 7=(bz v 3 1 (List.map cI ((w.take k).map lxA)))∧H 8=(bk 1 27 2 [[(V.ms 811 v1 0 (k)),(V.ms 812 v2 0 (k))]])∧H 811=(bz v1 3 1 (List.map cI ((w.take k).map lxI)))∧H 812=(bz v2 3 1 (List.map cI ((w.take k).map lxO)))∧True) ⟨t1,t2,t5,t7,t8,t9,(@rfl V (V.bool (decide (((k:Nat):Int) < ((w.length:Nat):Int))))),h2,h5,h7,h8,h811,h812,trivial⟩ ?_)))
 intro T H ⟨t1,t2,t5,t7,t8,t9,t50,h2,h5,h7,h8,h811,h812,_⟩
 refine .freeze 7 (fork_ (R:=fun T H=>T 1=(V.sl (List.map bB (w)))∧T 2=(V.mp 2 1 0 0)∧T 5=(V.mp 5 1 0 0)∧T 7=(ints ((w.take k).map lxA))∧T 8=(V.mp 8 1 0 0)∧T 9=(iV ((k:Nat):Int))∧T 50=(V.bool (decide (((k:Nat):Int) < ((w.length:Nat):Int))))∧H 2=(bk 1 24 3 [[(iV (f.op)),(iV (f.arg)),(V.sl (List.map cF (f.kids)))]])∧H 5=(bk 1 45 4 [[(iV ((atm f ((2:Int)) ((3:Int))).1.inp)),(iV ((atm f ((2:Int)) ((3:Int))).1.st)),(intss ((atm f ((2:Int)) ((3:Int))).1.nx)),(V.sl (List.map cB ((atm f ((2:Int)) ((3:Int))).1.ac)))]])∧((H 7).ver=v∧(H 7).live=false)∧H 8=(bk 1 27 2 [[(V.ms 811 v1 0 (k)),(V.ms 812 v2 0 (k))]])∧H 811=(bz v1 3 1 (List.map cI ((w.take k).map lxI)))∧H 812=(bz v2 3 1 (List.map cI ((w.take k).map lxO)))∧True) ⟨(fzT_q t1 rfl),(fzT_q t2 rfl),(fzT_q t5 rfl),(fzT_q t7 (fzq_own h7 (by simp) (l:=((w.take k).map lxA)) rfl (by (simp; omega)))),(fzT_q t8 rfl),(fzT_q t9 rfl),(fzT_q t50 rfl),(kill_ne h2 (by decide)),(kill_ne h5 (by decide)),(kill_self (congrArg Blk.ver h7)),(kill_ne h8 (by decide)),(kill_ne h811 (by decide)),(kill_ne h812 (by decide)),trivial⟩ ?_)
 intro T H ⟨t1,t2,t5,t7,t8,t9,t50,h2,h5,h7,h8,h811,h812,_⟩
 refine frz_cellg (id:=811) (id2:=8) (rows:=[[(V.ms 811 v1 0 (k)),(V.ms 812 v2 0 (k))]]) (i:=0) (off:=0) (r:=[(V.ms 811 v1 0 (k)),(V.ms 812 v2 0 (k))]) (m:=((w.take k).map lxI)) (g:=cI) (by decide) h811 h8 (by (simp; done)) (by (simp; omega)) rfl (fork_ (R:=fun T H=>T 1=(V.sl (List.map bB (w)))∧T 2=(V.mp 2 1 0 0)∧T 5=(V.mp 5 1 0 0)∧T 7=(ints ((w.take k).map lxA))∧T 8=(V.mp 8 1 0 0)∧T 9=(iV ((k:Nat):Int))∧T 50=(V.bool (decide (((k:Nat):Int) < ((w.length:Nat):Int))))∧H 2=(bk 1 24 3 [[(iV (f.op)),(iV (f.arg)),(V.sl (List.map cF (f.kids)))]])∧H 5=(bk 1 45 4 [[(iV ((atm f ((2:Int)) ((3:Int))).1.inp)),(iV ((atm f ((2:Int)) ((3:Int))).1.st)),(intss ((atm f ((2:Int)) ((3:Int))).1.nx)),(V.sl (List.map cB ((atm f ((2:Int)) ((3:Int))).1.ac)))]])∧((H 7).ver=v∧(H 7).live=false)∧H 8=(bk 1 27 2 [[(ints ((w.take k).map lxI)),(V.ms 812 v2 0 (k))]])∧((H 811).ver=v1∧(H 811).live=false)∧H 812=(bz v2 3 1 (List.map cI ((w.take k).map lxO)))∧True) ⟨(fzT_q t1 rfl),(fzT_q t2 rfl),(fzT_q t5 rfl),(fzT_q t7 rfl),(fzT_q t8 rfl),(fzT_q t9 rfl),(fzT_q t50 rfl),((upd_ne _ _ (by decide)).trans (kill_ne h2 (by decide))),((upd_ne _ _ (by decide)).trans (kill_ne h5 (by decide))),⟨(congrArg Blk.ver (upd_ne _ _ (by decide))).trans (kill_dead h7).1,(congrArg Blk.live (upd_ne _ _ (by decide))).trans (kill_dead h7).2⟩,(upd_same _ _ _),⟨(congrArg Blk.ver (upd_ne _ _ (by decide))).trans (kill_self (congrArg Blk.ver h811)).1,(congrArg Blk.live (upd_ne _ _ (by decide))).trans (kill_self (congrArg Blk.ver h811)).2⟩,((upd_ne _ _ (by decide)).trans (kill_ne h812 (by decide))),trivial⟩ ?_)
 intro T H ⟨t1,t2,t5,t7,t8,t9,t50,h2,h5,h7,h8,h811,h812,_⟩
 refine frz_cellg (id:=812) (id2:=8) (rows:=[[(ints ((w.take k).map lxI)),(V.ms 812 v2 0 (k))]]) (i:=0) (off:=1) (r:=[(ints ((w.take k).map lxI)),(V.ms 812 v2 0 (k))]) (m:=((w.take k).map lxO)) (g:=cI) (by decide) h812 h8 (by (simp; done)) (by (simp; omega)) rfl (.done ?_)
 refine fork_ (R:=fun T H=>T 1=(V.sl (List.map bB (w)))∧T 2=(V.mp 2 1 0 0)∧T 5=(V.mp 5 1 0 0)∧T 7=(ints ((w.take k).map lxA))∧T 8=(V.mp 8 1 0 0)∧T 9=(iV ((k:Nat):Int))∧T 50=(V.bool (decide (((k:Nat):Int) < ((w.length:Nat):Int))))∧H 2=(bk 1 24 3 [[(iV (f.op)),(iV (f.arg)),(V.sl (List.map cF (f.kids)))]])∧H 5=(bk 1 45 4 [[(iV ((atm f ((2:Int)) ((3:Int))).1.inp)),(iV ((atm f ((2:Int)) ((3:Int))).1.st)),(intss ((atm f ((2:Int)) ((3:Int))).1.nx)),(V.sl (List.map cB ((atm f ((2:Int)) ((3:Int))).1.ac)))]])∧((H 7).ver=v∧(H 7).live=false)∧H 8=(bk 1 27 2 [[(ints ((w.take k).map lxI)),(ints ((w.take k).map lxO))]])∧((H 811).ver=v1∧(H 811).live=false)∧((H 812).ver=v2∧(H 812).live=false)∧True) ⟨(fzT_q t1 rfl),(fzT_q t2 rfl),(fzT_q t5 rfl),(fzT_q t7 rfl),(fzT_q t8 rfl),(fzT_q t9 rfl),(fzT_q t50 rfl),((upd_ne _ _ (by decide)).trans (kill_ne h2 (by decide))),((upd_ne _ _ (by decide)).trans (kill_ne h5 (by decide))),⟨(congrArg Blk.ver (upd_ne _ _ (by decide))).trans (kill_dead h7).1,(congrArg Blk.live (upd_ne _ _ (by decide))).trans (kill_dead h7).2⟩,(upd_same _ _ _),⟨(congrArg Blk.ver (upd_ne _ _ (by decide))).trans (kill_dead h811).1,(congrArg Blk.live (upd_ne _ _ (by decide))).trans (kill_dead h811).2⟩,⟨(congrArg Blk.ver (upd_ne _ _ (by decide))).trans (kill_self (congrArg Blk.ver h812)).1,(congrArg Blk.live (upd_ne _ _ (by decide))).trans (kill_self (congrArg Blk.ver h812)).2⟩,trivial⟩ ?_
 intro T H ⟨t1,t2,t5,t7,t8,t9,t50,h2,h5,h7,h8,h811,h812,_⟩
 refine W_seq_seq (W_r (R_mv rfl (R_e (W_seq_blockg fun Q11 n11 x11 y11 z11=>?_))))
 refine W_loop (fun mm T H=> ∃ (j:Nat),mm=w.length+1 - j∧T 2=(V.mp 2 1 0 0)∧T 5=(V.mp 5 1 0 0)∧T 7=(ints ((w.take k).map lxA))∧T 8=(V.mp 8 1 0 0)∧T 11=(iV ((j:Nat):Int))∧H 2=(bk 1 24 3 [[(iV (f.op)),(iV (f.arg)),(V.sl (List.map cF (f.kids)))]])∧H 5=(bk 1 45 4 [[(iV ((atm f ((2:Int)) ((3:Int))).1.inp)),(iV ((atm f ((2:Int)) ((3:Int))).1.st)),(intss ((atm f ((2:Int)) ((3:Int))).1.nx)),(V.sl (List.map cB ((atm f ((2:Int)) ((3:Int))).1.ac)))]])∧((H 7).ver=v∧(H 7).live=false)∧H 8=(bk 1 27 2 [[(ints ((w.take k).map lxI)),(ints ((w.take k).map lxO))]])∧((H 811).ver=v1∧(H 811).live=false)∧((H 812).ver=v2∧(H 812).live=false)∧(j≤w.length+1)) ?_ ?_
 ·
  refine ⟨_,0,rfl,t2,t5,t7,t8,(Eq.trans (@rfl V (iV (0:Int))) rfl),h2,h5,h7,h8,h811,h812,?_⟩
  · omega
 intro mm T H ⟨j,hmm,t2,t5,t7,t8,t11,h2,h5,h7,h8,h811,h812,hj⟩ Q12 p112 p212 p312
 unfold b4_1
 refine W_seq_seq (W_r (R_mv t11 (R_mv t7 (R_len rfl (R_leq rfl rfl (R_e ?_))))))
 refine W_seq_if rfl (fun c13=>?_) fun c13=>?_
 ·
  have a5:(w.take j).map lxA=List.take (j) (List.map lxA (List.take k w)):=wtk k (by omega)
  have a6:(w.take j).map lxI=List.take (j) (List.map lxI (List.take k w)):=wtk k (by omega)
  have a7:(w.take j).map lxO=List.take (j) (List.map lxO (List.take k w)):=wtk k (by omega)
  obtain ⟨b1,b2,b3⟩:=a4 (w.take j) (by rw [List.length_take]; omega)
  rw [a5] at b1 b2
  rw [a6,a7] at b2 b3
  refine W_seq_skip (W_seq_blockg fun Q14 n14 x14 y14 z14=>(W_r (R_lk t5 h5 rfl rfl (R_mv t7 (R_mv t11 (R_slice_hi (n:=j) (@rfl V (ints ((w.take k).map lxA))) (@rfl V (iV ((j:Nat):Int))) (by omega) (fun _=>rfl) (R_callk (dfacc_pure ((atm f ((2:Int)) ((3:Int))).1) (List.take (j) ((w.take k).map lxA)) a1 b1) rfl ?_)))))))
  refine R_mv rfl (R_ext rfl rfl (R_ext rfl rfl (R_mv rfl (R_mv rfl (R_e (W_r (R_lk t2 h2 rfl rfl ?_)))))))
  refine R_fk t8 h8 (R_lk rfl h8 rfl rfl (R_mv t11 (R_slice_hi (n:=j) (@rfl V (ints ((w.take k).map lxI))) (@rfl V (iV ((j:Nat):Int))) (by omega) (fun _=>rfl) (R_fk t8 h8 (R_lk rfl h8 rfl rfl (R_mv t11 (R_slice_hi (n:=j) (@rfl V (ints ((w.take k).map lxO))) (@rfl V (iV ((j:Nat):Int))) (by omega) (fun _=>rfl) ?_)))))))
  refine R_build rfl rfl (R_callk (rholds_pure f (⟨(List.take (j) ((w.take k).map lxI)),(List.take (j) ((w.take k).map lxO))⟩:Tr)) rfl (R_mv rfl (R_ext rfl rfl (R_ext rfl rfl (R_mv rfl (R_mv rfl (R_e ?_)))))))
  refine W_seq_regc (fun T H=>T 2=(V.mp 2 1 0 0)∧T 5=(V.mp 5 1 0 0)∧T 7=(ints ((w.take k).map lxA))∧T 8=(V.mp 8 1 0 0)∧T 11=(iV ((j:Nat):Int))∧T 115=(V.bool ((decide (((0:Int)≠(0:Int))∨((hoE (⟨(List.take (j) ((w.take k).map lxI)),(List.take (j) ((w.take k).map lxO))⟩:Tr) f)≠(0:Int)))||(((nth ((atm f ((2:Int)) ((3:Int))).1).ac (dEnd ((atm f ((2:Int)) ((3:Int))).1) (List.take (j) ((w.take k).map lxA))).toNat) != (hoB (⟨(List.take (j) ((w.take k).map lxI)),(List.take (j) ((w.take k).map lxO))⟩:Tr) f))))))∧H 2=(bk 1 24 3 [[(iV (f.op)),(iV (f.arg)),(V.sl (List.map cF (f.kids)))]])∧H 5=(bk 1 45 4 [[(iV ((atm f ((2:Int)) ((3:Int))).1.inp)),(iV ((atm f ((2:Int)) ((3:Int))).1.st)),(intss ((atm f ((2:Int)) ((3:Int))).1.nx)),(V.sl (List.map cB ((atm f ((2:Int)) ((3:Int))).1.ac)))]])∧((H 7).ver=v∧(H 7).live=false)∧H 8=(bk 1 27 2 [[(ints ((w.take k).map lxI)),(ints ((w.take k).map lxO))]])∧((H 811).ver=v1∧(H 811).live=false)∧((H 812).ver=v2∧(H 812).live=false)∧True) ?_ ?_
  ·
   refine R_mv rfl (R_neq rfl rfl (R_mv rfl ?_))
   refine Ops_seg 3 (fun T H=>T 2=(V.mp 2 1 0 0)∧T 5=(V.mp 5 1 0 0)∧T 7=(ints ((w.take k).map lxA))∧T 8=(V.mp 8 1 0 0)∧T 11=(iV ((j:Nat):Int))∧T 12=(V.bool (nth ((atm f ((2:Int)) ((3:Int))).1).ac (dEnd ((atm f ((2:Int)) ((3:Int))).1) (List.take (j) ((w.take k).map lxA))).toNat))∧T 14=(V.bool (hoB (⟨(List.take (j) ((w.take k).map lxI)),(List.take (j) ((w.take k).map lxO))⟩:Tr) f))∧T 110=(V.bool (decide (((0:Int)≠(0:Int))∨((hoE (⟨(List.take (j) ((w.take k).map lxI)),(List.take (j) ((w.take k).map lxO))⟩:Tr) f)≠(0:Int)))))∧H 2=(bk 1 24 3 [[(iV (f.op)),(iV (f.arg)),(V.sl (List.map cF (f.kids)))]])∧H 5=(bk 1 45 4 [[(iV ((atm f ((2:Int)) ((3:Int))).1.inp)),(iV ((atm f ((2:Int)) ((3:Int))).1.st)),(intss ((atm f ((2:Int)) ((3:Int))).1.nx)),(V.sl (List.map cB ((atm f ((2:Int)) ((3:Int))).1.ac)))]])∧((H 7).ver=v∧(H 7).live=false)∧H 8=(bk 1 27 2 [[(ints ((w.take k).map lxI)),(ints ((w.take k).map lxO))]])∧((H 811).ver=v1∧(H 811).live=false)∧((H 812).ver=v2∧(H 812).live=false)∧True) ?_ ?_
   ·
    by_cases g15:(0:Int)≠(0:Int)
    ·
     refine G_n (edT g15 rfl) (G_n (edT g15 rfl) (R_pickT (edT g15 rfl) rfl ?_))
     exact ⟨t2,t5,t7,t8,t11,rfl,rfl,(dec_orT g15),h2,h5,h7,h8,h811,h812,trivial⟩
    ·
     refine G_yes (edF g15 rfl) (R_mv rfl (G_yes (edF g15 rfl) (R_neq rfl rfl (R_pickF (edF g15 rfl) rfl ?_))))
     exact ⟨t2,t5,t7,t8,t11,rfl,rfl,(dec_orF g15),h2,h5,h7,h8,h811,h812,trivial⟩
   intro T H ⟨t2,t5,t7,t8,t11,t12,t14,t110,h2,h5,h7,h8,h811,h812,_⟩
   refine R_mv t110 ?_
   refine Ops_seg 4 (fun T H=>T 2=(V.mp 2 1 0 0)∧T 5=(V.mp 5 1 0 0)∧T 7=(ints ((w.take k).map lxA))∧T 8=(V.mp 8 1 0 0)∧T 11=(iV ((j:Nat):Int))∧T 115=(V.bool ((decide (((0:Int)≠(0:Int))∨((hoE (⟨(List.take (j) ((w.take k).map lxI)),(List.take (j) ((w.take k).map lxO))⟩:Tr) f)≠(0:Int)))||(((nth ((atm f ((2:Int)) ((3:Int))).1).ac (dEnd ((atm f ((2:Int)) ((3:Int))).1) (List.take (j) ((w.take k).map lxA))).toNat) != (hoB (⟨(List.take (j) ((w.take k).map lxI)),(List.take (j) ((w.take k).map lxO))⟩:Tr) f))))))∧H 2=(bk 1 24 3 [[(iV (f.op)),(iV (f.arg)),(V.sl (List.map cF (f.kids)))]])∧H 5=(bk 1 45 4 [[(iV ((atm f ((2:Int)) ((3:Int))).1.inp)),(iV ((atm f ((2:Int)) ((3:Int))).1.st)),(intss ((atm f ((2:Int)) ((3:Int))).1.nx)),(V.sl (List.map cB ((atm f ((2:Int)) ((3:Int))).1.ac)))]])∧((H 7).ver=v∧(H 7).live=false)∧H 8=(bk 1 27 2 [[(ints ((w.take k).map lxI)),(ints ((w.take k).map lxO))]])∧((H 811).ver=v1∧(H 811).live=false)∧((H 812).ver=v2∧(H 812).live=false)∧True) ?_ ?_
   ·
    by_cases g16:((0:Int)≠(0:Int))∨((hoE (⟨(List.take (j) ((w.take k).map lxI)),(List.take (j) ((w.take k).map lxO))⟩:Tr) f)≠(0:Int))
    ·
     refine G_n (edT g16 rfl) (G_n (edT g16 rfl) (G_n (edT g16 rfl) (R_pickT (edT g16 rfl) rfl ?_)))
     exact ⟨t2,t5,t7,t8,t11,(dborT g16),h2,h5,h7,h8,h811,h812,trivial⟩
    ·
     refine G_yes (edF g16 rfl) (R_mv t12 (G_yes (edF g16 rfl) (R_mv t14 (G_yes (edF g16 rfl) (R_bneq (x:=(nth ((atm f ((2:Int)) ((3:Int))).1).ac (dEnd ((atm f ((2:Int)) ((3:Int))).1) (List.take (j) ((w.take k).map lxA))).toNat)) (y:=(hoB (⟨(List.take (j) ((w.take k).map lxI)),(List.take (j) ((w.take k).map lxO))⟩:Tr) f)) rfl rfl (R_pickF (edF g16 rfl) rfl ?_))))))
     exact ⟨t2,t5,t7,t8,t11,(dborF g16),h2,h5,h7,h8,h811,h812,trivial⟩
   intro T H ⟨t2,t5,t7,t8,t11,t115,h2,h5,h7,h8,h811,h812,_⟩
   exact R_nil ⟨t2,t5,t7,t8,t11,t115,h2,h5,h7,h8,h811,h812,trivial⟩
  intro T H ⟨t2,t5,t7,t8,t11,t115,h2,h5,h7,h8,h811,h812,_⟩
  refine W_ifb t115 (fun c17=>?_) (fun c17=>?_)
  · exfalso; have q:=c17; rw [b2,b3] at q; simp at q
  refine W_skip (n14 _ _ (.done (W_t (R_mv t11 (R_addN rfl (@rfl V (iV ((1:Nat):Int))) (by omega) (R_mv rfl (R_e ?_)))))))
  refine p112 _ _ _ ?_ ⟨(j+1),rfl,t2,t5,t7,t8,(Eq.trans (@rfl V (iV ((j+1:Nat):Int))) (by rfl)),h2,h5,h7,h8,h811,h812,?_⟩
  · omega
  · omega
 refine W_seq_exit (p312 _ _ _ (x11 _ _ (.done (W_r (R_callk (aw46_pure) rfl (R_mv rfl (R_e ?_)))))))
 refine W_ret ?_
 refine Ret_1 (@rfl V (V.bool true)) (fz_canon (by simp) rfl)
end Go.Proofs.YteehaobohaecmaaDoor
namespace Go.Proofs.YteehaobohaecmaaDoor
open Go Go.ChangeShapes Go.WideShapes Go.ChangeAt Go.RowKit
def okS (P:Program) (S:List TypeId) (t:TypeId):Bool:=match P.underlying t with
  |some .bool=>true
  |some (.int _)=>true
  |some .string=>true
  |some (.slice e)=>decide (e∈S)&&decide (P.cellsOf e≠0)
  |some (.struct fs)=>fs.toList.all (fun f=>decide (f.type∈S))&&tile P (P.cellsOf t) 0 fs.toList
  |some (.array m e)=>decide (e∈S)&&decide (m*P.cellsOf e=P.cellsOf t)
  |_=>false
section
variable {H:Type} {enc:TypeId×Value→H} {P:Program} {base:Nat} {spare:Nat→Bool} {held:Bool}
theorem trod_RS {x : Cx} (hZ : ∀ b, b < x.w.heap.size → x.Z b) {S : List TypeId} (hS : ∀ t ∈ S, okS P S t = true) : ∀ (fuel : Nat) (t : TypeId), t ∈ S → ∀ (cs : List Value) (y : DataW H × List MemPlace), DataW.trod enc P x.w base spare held fuel t cs = some y →
    ∃ vs,Shp P fuel t vs∧RC x vs cs:=by
  intro n
  induction n with
  |zero=>intro t _ cs y hy; simp [DataW.trod] at hy
  | succ n ih =>
    intro t hm cs y hy
    have hok:=hS t hm
    have one: ∀ {v:V} {c:Value},R x v c→RC x [v] [c]:=fun {v c} h=>⟨rfl,fun j u hj=>by
      cases j with
      |zero=>simp at hj; subst hj; exact h
      |succ j=>simp at hj⟩
    simp only [okS] at hok
    split at hok
    · rename_i ht
      simp only [Shp,ht]
      obtain ⟨b,rfl,_⟩:=DataW.trod_bool ht hy
      exact ⟨[.bool b],⟨b,rfl⟩,one (.bool b)⟩
    · rename_i k ht
      simp only [Shp,ht]
      obtain ⟨m,rfl,_,hw⟩:=DataW.trod_int ht hy
      exact ⟨[.int k m],⟨m,rfl,hw⟩,one (.int k m)⟩
    · rename_i ht
      simp only [Shp,ht]
      obtain ⟨s,rfl,_⟩:=DataW.trod_string ht hy
      exact ⟨[.str s.data.toList],⟨_,rfl⟩,one (R.str s.data.toList)⟩
    · rename_i e ht
      simp only [Shp,ht]
      simp only [Bool.and_eq_true,decide_eq_true_eq] at hok
      obtain ⟨hok,hnz⟩:=hok
      rcases DataW.trod_slice ht hy with ⟨rfl,_⟩|⟨a,len,cap,elems,rest,m,em,rfl,_,hb,hl,hc,hlen,hel,_,_⟩
      · exact ⟨[.sl []],⟨[],rfl,fun r hr=>by cases hr⟩,one .slnil⟩
      · obtain rfl:n=m:=by omega
        have hall: ∀ i,i < len→ ∃ r:List V,Shp P n e r∧ ∃ ci:List Value,x.w.cells? base (a.add (i*P.cellsOf e)) (P.cellsOf e)=some ci∧RC x r ci:=by
          intro i hi
          have h1:=hel i hi
          rw [List.getElem?_eq_getElem (by omega)] at h1
          cases h2:x.w.cells? base (a.add (i*P.cellsOf e)) (P.cellsOf e) with
          |none=>rw [h2] at h1; cases h1
          | some ci =>
            rw [h2] at h1
            obtain ⟨vs,h3,h4⟩:=ih e hok ci _ h1
            exact ⟨vs,h3,ci,rfl,h4⟩
        obtain ⟨rows,hrl,hrows⟩:=choiceL hall
        have hcell: ∀ (r:Nat) (row:List V) (j:Nat) (v:V),rows[r]?=some row→row[j]?=some v→
            ∃ c,x.w.cell? (a.add (r*P.cellsOf e+j))=some c∧R x v c:=by
          intro r row j v hr hj
          obtain ⟨_,ci,g1,g2⟩:=hrows r row hr
          obtain ⟨_,g4,g5⟩:=World.cells?_some g1
          have hjlt:j < ci.length:=by have:=(List.getElem?_eq_some_iff.1 hj).1; rw [← g2.1]; exact this
          have g6:=g5 j (by omega)
          rw [List.getElem?_eq_getElem hjlt,Addr.add_add] at g6
          refine ⟨_,g6,?_⟩
          have:=g2.2 j v hj
          rw [List.getD_eq_getElem?_getD,List.getElem?_eq_getElem hjlt] at this
          exact this
        have key:=R.sl (x:=x) rows a cap (P.cellsOf e) (fun k=>(x.w.cell? (a.add k)).getD undef) (by omega) hc ?_ ?_ ?_ ?_
        · rw [hrl] at key
          exact ⟨[.sl rows],⟨rows,rfl,fun r hr=>by obtain ⟨i,hi⟩:=List.getElem?_of_mem hr; exact (hrows i r hi).1⟩,one key⟩
        · intro hne
          cases hrr:rows with
          |nil=>exact (hne hrr).elim
          | cons r0 rs =>
            obtain ⟨_,ci,g1,g2⟩:=hrows 0 r0 (by rw [hrr]; rfl)
            · obtain ⟨_,g4,g5⟩:=World.cells?_some g1
              have g6:=g5 0 (by omega)
              rw [List.getElem?_eq_getElem (by omega),Addr.add_add] at g6
              have hlt:(a.add (0*P.cellsOf e+0)).block < x.w.heap.size:=by
                unfold World.cell? at g6
                split at g6
                · rename_i hh
                  exact (Array.getElem?_eq_some_iff.1 hh).1
                · cases g6
              exact hZ _ (by simpa [Addr.add] using hlt)
        · intro r hr
          obtain ⟨i,hi⟩:=List.getElem?_of_mem hr
          obtain ⟨_,ci,g1,g2⟩:=hrows i r hi
          rw [g2.1]
          exact (World.cells?_some g1).2.1
        · intro r row j v hr hj
          obtain ⟨c,g1,_⟩:=hcell r row j v hr hj
          rw [g1]; rfl
        · intro r row j v hr hj
          obtain ⟨c,g1,g2⟩:=hcell r row j v hr hj
          simp only [g1,Option.getD_some]
          exact g2
    · rename_i fs ht
      simp only [Shp,ht]
      simp only [Bool.and_eq_true] at hok
      obtain ⟨xs,m,em,_,hl,hxl,hf⟩:=DataW.trod_struct ht hy
      obtain rfl:n=m:=by omega
      have hfs: ∀ f∈fs.toList,∃ z,DataW.trod enc P x.w base spare held n f.type ((cs.drop f.offset).take (P.cellsOf f.type))=some z:=by
        intro f hm
        obtain ⟨i,hi⟩:=List.getElem?_of_mem hm
        have hi':fs[i]?=some f:=by simpa using hi
        have hlt:i < xs.length:=by
          have:=(Array.getElem?_eq_some_iff.1 hi').1
          omega
        exact ⟨xs[i],by rw [hf i f hi',List.getElem?_eq_getElem hlt]⟩
      have hok':=List.all_eq_true.1 hok.1
      have main: ∀ (l:List Field) (off:Nat),(∀ f∈l,f∈fs.toList)→tile P (P.cellsOf t) off l=true→off≤cs.length→ ∃ vs,ShpL (Shp P n) l vs∧RC x vs (cs.drop off):=by
        intro l
        induction l with
        | nil =>
          intro off _ htl hle
          simp only [tile,decide_eq_true_eq] at htl
          refine ⟨[],rfl,?_⟩
          rw [List.drop_of_length_le (by omega)]
          exact ⟨rfl,fun j v hj=>by simp at hj⟩
        | cons f r ihr =>
          intro off hsub htl hle
          simp only [tile,Bool.and_eq_true,decide_eq_true_eq] at htl
          obtain ⟨z,hz⟩:=hfs f (hsub f (List.mem_cons_self ..))
          obtain ⟨va,g1,g2⟩:=ih f.type (of_decide_eq_true (hok' f (hsub f (List.mem_cons_self ..)))) _ _ hz
          have hoff:off+P.cellsOf f.type≤cs.length:=by
            rw [hl]
            have: ∀ (l:List Field) (o:Nat),tile P (P.cellsOf t) o l=true→o≤P.cellsOf t:=by
              intro l
              induction l with
              |nil=>intro o h; simp only [tile,decide_eq_true_eq] at h; omega
              |cons f r ih=>intro o h; simp only [tile,Bool.and_eq_true,decide_eq_true_eq] at h; have:=ih _ h.2; omega
            exact this _ _ htl.2
          obtain ⟨vb,g3,g4⟩:=ihr (off+P.cellsOf f.type) (fun q hq=>hsub q (List.mem_cons_of_mem _ hq)) htl.2 hoff
          refine ⟨va++vb,⟨va,vb,rfl,g1,g3⟩,?_⟩
          have hsplit:cs.drop off=(cs.drop off).take (P.cellsOf f.type)++cs.drop (off+P.cellsOf f.type):=by
            rw [← List.drop_drop,List.take_append_drop]
          rw [hsplit]
          rw [htl.1] at g2
          exact RC_append g2 g4
      obtain ⟨vs,g1,g2⟩:=main fs.toList 0 (fun _ h=>h) hok.2 (Nat.zero_le _)
      exact ⟨vs,g1,by simpa using g2⟩
    · rename_i m e ht
      simp only [Shp,ht]
      simp only [Bool.and_eq_true,decide_eq_true_eq] at hok
      obtain ⟨xs,f,em,_,hl,hxl,hf⟩:=DataW.trod_array ht hy
      obtain rfl:n=f:=by omega
      have main: ∀ (k i:Nat),i+k=m→ ∃ vs,ShpR (Shp P n e) k vs∧RC x vs (cs.drop (i*P.cellsOf e)):=by
        intro k
        induction k with
        | zero =>
          intro i hi
          refine ⟨[],rfl,?_⟩
          rw [List.drop_of_length_le (by rw [hl,← hok.2,show i=m by omega]; exact Nat.le_refl _)]
          exact ⟨rfl,fun j v hj=>by simp at hj⟩
        | succ k ihk =>
          intro i hi
          have hlt:i < m:=by omega
          have hz:=hf i hlt
          rw [List.getElem?_eq_getElem (by omega)] at hz
          obtain ⟨va,g1,g2⟩:=ih e hok.1 _ _ hz
          obtain ⟨vb,g3,g4⟩:=ihk (i+1) (by omega)
          refine ⟨va++vb,⟨va,vb,rfl,g1,g3⟩,?_⟩
          have hsplit:cs.drop (i*P.cellsOf e)=(cs.drop (i*P.cellsOf e)).take (P.cellsOf e)++cs.drop ((i+1)*P.cellsOf e):=by
            rw [Nat.add_mul,Nat.one_mul,← List.drop_drop,List.take_append_drop]
          rw [hsplit]
          exact RC_append g2 g4
      obtain ⟨vs,g1,g2⟩:=main m 0 (by omega)
      exact ⟨vs,g1,by simpa using g2⟩
    · cases hok
theorem open_RS {x:Cx} (hZ: ∀ b,b < x.w.heap.size→x.Z b) {S:List TypeId} (hS: ∀ t∈S,okS P S t=true) {t:TypeId} (ht0:t∈S) {r:Reach} {b0 base:Nat} {spare:Nat→Bool} {held:Bool} {v:Value} {d:DataW H} {ps:List MemPlace}
    (hval:Value.okWide P x.w r b0 t v) (hd:DataW.Trod enc P x.w base spare held t v d ps): ∃ n vs,Shp P n t vs∧R x (packV P t vs) v:=by
  obtain ⟨fuel,hf⟩:=hd
  obtain ⟨vs,h1,h2⟩:=trod_RS hZ hS fuel t ht0 _ _ hf
  refine ⟨fuel,vs,h1,?_⟩
  have hok:=hS t ht0
  unfold packV
  simp only [okS] at hok
  split at hok
  · rename_i ht
    obtain ⟨b,rfl⟩:=okWide_bool ht hval
    rw [ht]; exact RC_one h2
  · rename_i k ht
    obtain ⟨m,rfl⟩:=okWide_int ht hval
    rw [ht]; exact RC_one h2
  · rename_i ht
    obtain ⟨s,rfl⟩:=okWide_string ht hval
    rw [ht]; exact RC_one h2
  · rename_i e ht
    obtain ⟨a,l,c,rfl⟩:=okWide_slice ht hval
    rw [ht]; exact RC_one h2
  · rename_i fs ht
    obtain ⟨cs,rfl,_⟩:=okWide_struct ht hval
    rw [ht]
    refine .agg vs cs (by have:=h2.1; simp [Value.cells] at this; omega) fun j u hj=>?_
    have:=h2.2 j u hj
    rw [List.getD_eq_getElem?_getD] at this
    rw [Array.getD_eq_getD_getElem?,← Array.getElem?_toList]
    exact this
  · rename_i m e ht
    have hval2:=hval
    simp only [Value.okWide,ht] at hval2
    obtain ⟨cs,rfl,_⟩:=hval2
    rw [ht]
    refine .agg vs cs (by have:=h2.1; simp [Value.cells] at this; omega) fun j u hj=>?_
    have:=h2.2 j u hj
    rw [List.getD_eq_getElem?_getD] at this
    rw [Array.getD_eq_getD_getElem?,← Array.getElem?_toList]
    exact this
  · cases hok
def ShpB (P:Program):List TypeId→List V→Prop
  |[],vs=>vs=[]
  |t::ts,vs=> ∃ n a b,vs=packV P t a::b∧Shp P n t a∧ShpB P ts b
theorem open_allS {x:Cx} (hZ: ∀ b,b < x.w.heap.size→x.Z b) {S:List TypeId} (hS: ∀ t∈S,okS P S t=true) {r:Reach} {b0 base:Nat} {spare:Nat→Bool} {held:Bool}: ∀ (ts:List TypeId) (vs:List Value) (ds:List (DataW H)) (ps:List MemPlace),
    (∀ t∈ts,t∈S)→(∀ (j:Nat) t v,ts[j]?=some t→vs[j]?=some v→Value.okWide P x.w r b0 t v)→DataW.TrodAll enc P x.w base spare held ts vs ds ps→
    ∃ us,ShpB P ts us∧RL x us vs
  | [], vs, ds, ps, _, _, h => by
    obtain ⟨rfl,rfl,rfl⟩:=trodAll_nil h
    exact ⟨[],rfl,rfl,fun j v hj=>by simp at hj⟩
  | t :: ts, vs, ds, ps, hok, hval, h => by
    obtain ⟨v,vs1,d,ds1,a,b,rfl,rfl,rfl,h1,h2⟩:=trodAll_cons h
    obtain ⟨n,ws,g1,g2⟩:=open_RS hZ hS (hok t (List.mem_cons_self ..)) (hval 0 t v rfl rfl) h1
    obtain ⟨us,g3,g4⟩:=open_allS hZ hS ts vs1 ds1 b (fun q hq=>hok q (List.mem_cons_of_mem _ hq)) (fun j q u hq hu=>hval (j+1) q u (by simpa using hq) (by simpa using hu)) h2
    refine ⟨packV P t ws::us,⟨n,ws,us,rfl,g1,g3⟩,by simp [g4.1],fun j u hj=>?_⟩
    cases j with
    |zero=>simp at hj; subst hj; exact g2
    |succ j=>exact g4.2 j u (by simpa using hj)
theorem law_postS {f:FuncId} {fn:Func} {s:ChangeSpec} {apart fresh handsOn again:Bool} {tb:Nat} {S:List TypeId} {W:World} {args:Array Value} {ds gs:List (DataW H)} {before:List MemPlace}
    (hl:laidOutB P=true) (hres:fn.resultTypes=#[tb]) (htb:P.underlying tb=some .bool) (hS: ∀ t∈S,okS P S t=true) (hts: ∀ t∈fn.params.toList,t∈S∧P.readableRec t=true∧t < P.types.size)
    (hvars:s.vars=[]) (hs:s.fn H (ds++gs)={results:=[.lit (.bool true)],args:=ds})
    (hlaw: ∀ us,ShpB P fn.params.toList us→PureC P f us (.bool true))
    (hval: ∀ (j:Nat) t v,fn.params[j]?=some t→args[j]?=some v→Value.okWide P W .any 0 t v)
    (hW:DataW.Whole enc P fn.params.toList s.vars apart W args.toList ds gs before) (htab:TabZ W (fun b=>b < W.heap.size):=by intro p hp; simp [tabs] at hp):
    Calls P f args W fun e W'=> ∃ v,e=.returned v∧s.post enc P fn apart fresh handsOn again W args v W':=by
  have hW':=hW
  obtain ⟨p,q,hA,hV,rfl,hfz,hnd⟩:=hW
  rw [hvars] at hV
  obtain ⟨rfl,rfl⟩:=trodVars_none hV
  have hlt:=hW'.lt
  let x:Cx:=start {w:=W,Z:=fun b=>b < W.heap.size,σ:=fun _=>0,H:=H0} (fun b=>b < W.heap.size)
  have hx:Inv x:=start_ok (fun b hb=>hb) htab
  obtain ⟨us,g1,g2⟩:=open_allS (x:=x) (fun b hb=>hb) hS fn.params.toList args.toList ds p (fun t ht=>(hts t ht).1) (fun j t v h1 h2=>hval j t v (by simpa using h1) (by simpa using h2)) hA
  have hc:=(hlaw us g1 H0).2 x args.toList rfl hx g2
  rw [Array.toArray_toList] at hc
  refine Calls.mono (show Calls P f args W _ from hc) fun e W' h=>?_
  obtain ⟨c,y,rfl,rfl,h3,h4,h5,h6⟩:=h
  cases h5
  have hb:Below W.heap.size W y.w:=below_of_frame h6 (fun _=>rfl) rfl
  refine ⟨_,rfl,post_of_below (pa:=p) (pv:=[]) hW' (fun b sp hd=>?_) (fun sp hsp=>?_) (fun sp _=>?_) (by simp) hb ?_⟩
  · rw [hs,hres]
    exact trodAll_mk1 (shut_bool htb true)
  · rw [hs]
    exact trodAll_stays hl hb _ _ _ _ (fun t ht=>(hts t ht).2) hA (fun z hz=>hlt z (by simpa using hz)) (fun z hz=>hsp z (by simpa using hz))
  · rw [hs,hvars]; rfl
  · exact ok_one hres rfl (okWide_bool_mk htb true)
end
section
variable {P:Program} {n t:Nat} {vs:List V}
theorem shq_int {k:IntKind} (ht:P.underlying t=some (.int k)) (h:Shp P n t vs): ∃ m:Int,vs=[.int k m]:=by
  cases n with
  |zero=>exact h.elim
  |succ n=>exact shp_int ht h
theorem shq_u8 (ht:P.underlying t=some (.int .u8)) (h:Shp P n t vs): ∃ b:UInt8,vs=[.int .u8 ((b.toNat:Nat):Int)]:=by
  cases n with
  |zero=>exact h.elim
  | succ n =>
    simp only [Shp,ht] at h
    obtain ⟨m,rfl,hw⟩:=h
    have hw':0≤m∧m≤255:=by
      simp only [Lit.wf,Bool.and_eq_true,decide_eq_true_eq] at hw
      exact hw
    refine ⟨UInt8.ofNat m.toNat,?_⟩
    rw [UInt8.toNat_ofNat',show ((m.toNat % 2 ^ 8:Nat):Int)=m by omega]
theorem shq_slice {e:Nat} {α:Type} {f:α→List V} (ht:P.underlying t=some (.slice e)) (he: ∀ m vs,Shp P m e vs→ ∃ a,vs=f a) (h:Shp P n t vs): ∃ l:List α,vs=[.sl (l.map f)]:=by
  cases n with
  |zero=>exact h.elim
  |succ n=>exact shp_slice ht (he n) h
theorem shq_step {fs:Array Field} (ht:P.underlying t=some (.struct fs)) (h:Shp P n t vs): ∃ m,n=m+1∧ShpL (Shp P m) fs.toList vs:=by
  cases n with
  |zero=>exact h.elim
  |succ n=>exact ⟨n,rfl,shp_step ht h⟩
theorem shq_kids {e:Nat} {α:Type} {f:α→List V} {N:Nat} (ht:P.underlying t=some (.slice e)) (he: ∀ m,m < N→ ∀ vs,Shp P m e vs→ ∃ a,vs=f a) (hn:n < N) (h:Shp P n t vs): ∃ l:List α,vs=[.sl (l.map f)]:=by
  cases n with
  |zero=>exact h.elim
  |succ n=>exact shp_slice ht (he n (by omega)) h
theorem shpB_cons {ts:List TypeId} {us:List V} (h:ShpB P (t::ts) us): ∃ n a b,us=packV P t a::b∧Shp P n t a∧ShpB P ts b:=h
theorem shpB_nil {us:List V} (h:ShpB P [] us):us=[]:=h
end
end Go.Proofs.YteehaobohaecmaaDoor
namespace Go.Proofs.YteehaobohaecmaaDoor
open Go
abbrev cFm (f:Fm):List V:=[iV f.op,iV f.arg,.sl (f.kids.map cF)]
structure Tri where
  ia:List (List UInt8)
  oa:List (List UInt8)
  f:Fm
  s:List UInt8
end Go.Proofs.YteehaobohaecmaaDoor
namespace Go.Proofs.YteehaobohaecmaaDoor
open Go Go.Proofs Go.Proofs.YteehaobohaecmaaDoor
theorem gPow : Tryd.prog.globalNamed "internal/strconv.uint64pow10" = some 0 := by kernel_rfl
theorem door_met (os:Os) (args:Array Value):laidMetH Tryd.prog Rows.monitorTracesRow.laid ((World.doorLaid Tryd.prog 400 os).forCall (fun _ _=>0) ⟨#[],args,[]⟩).memory:=
  laidMetH_of_parts3 (fuel:=8) (laidMet_of_run' 8 (by kernel_rfl) (by kernel_rfl)) (by kernel_rfl) (by kernel_rfl)
theorem tabZ_of_laid {W:World} (h:laidMetH Tryd.prog Rows.monitorTracesRow.laid W):TabZ W (fun b=>b < W.heap.size):=by
  have h2 := laidMetH.filter (fun x => x.1 == "internal/strconv.uint64pow10") h
  rw [show Rows.monitorTracesRow.laid.filter (fun x => x.1 == "internal/strconv.uint64pow10") = [("internal/strconv.uint64pow10", Lib.tabData .u64 Lib.pow10Tab)] from by kernel_rfl] at h2
  rw [MakeChecks.laidMetH_plain _ _ _ (by kernel_rfl)] at h2
  have h3 : Lib.TabIs Tryd.prog W "internal/strconv.uint64pow10" .u64 Lib.pow10Tab := Lib.tabIs_of_head (n := 20) gPow (show (Tryd.prog.globals[0]?).map (·.type) = some 126 from by kernel_rfl) Tryd.underlying126 Tryd.underlying111 (by kernel_rfl) (by kernel_rfl) h2
  unfold Lib.TabIs World.var? at h3
  rw [gPow] at h3
  simp only [Option.bind_some] at h3
  intro p hp
  rw [show p=(0,p10C) from by simpa [tabs] using hp]
  revert h3
  cases hq:W.heap[0]? with
  |none=>intro h3; cases h3
  | some o =>
    cases o with
    | cells cs ty m =>
      intro h3
      injection h3 with h3
      refine ⟨?_,ty,m,by rw [h3]; rfl⟩
      obtain ⟨hlt,_⟩:=Array.getElem?_eq_some_iff.1 hq
      exact hlt
    |_=>intro h3; cases h3
end Go.Proofs.YteehaobohaecmaaDoor
namespace Go.Proofs.YteehaobohaecmaaDoor
open Go Go.Proofs Go.Proofs.YteehaobohaecmaaDoor Go.ChangeShapes Go.WideShapes Go.ChangeAt Go.RowKit
structure UT (P:Program):Prop where
  u3:P.underlying 3=some (.int .i64)
  u22:P.underlying 22=some (.slice 24)
  u24: ∃ f0 f1 f2:Field,P.underlying 24=some (.struct #[f0,f1,f2])∧f0.type=3∧f1.type=3∧f2.type=22
  u39:P.underlying 39=some (.slice 5)
  u5:P.underlying 5=some (.int .u8)
theorem sh3 {P:Program} (U:UT P): ∀ (n:Nat) (vs:List V),Shp P n 3 vs→ ∃ a:Int,vs=cI a:=fun _ _ h=>shq_int U.u3 h
theorem sh24 {P:Program} (U:UT P): ∀ (n:Nat) (vs:List V),Shp P n 24 vs→ ∃ a:Fm,vs=cF a:=by
  intro n
  induction n using Nat.strongRecOn with
  | ind n ih =>
    intro vs h
    obtain ⟨f0,f1,f2,hu,k0,k1,k2⟩:=U.u24
    obtain ⟨m,hm,h0⟩:=shq_step hu h
    obtain ⟨x0,u0,e0,h1⟩:=shpL_cons (c:=cI) (fun vs h=>sh3 U m vs (by rw [k0] at h; exact h)) h0
    obtain ⟨x1,u1,e1,h2⟩:=shpL_cons (c:=cI) (fun vs h=>sh3 U m vs (by rw [k1] at h; exact h)) h1
    obtain ⟨x2,u2,e2,h3⟩:=shpL_cons (c:=fun l:List Fm=>[V.sl (List.map cF l)]) (fun vs h=>shq_kids (N:=n) (n:=m) U.u22 ih (by omega) (by rw [k2] at h; exact h)) h2
    have e3:=shpL_nil h3
    exact ⟨(Fm.nd x0 x1 x2),by rw [e0,e1,e2,e3,cF_eq]; rfl⟩
theorem sh5 {P:Program} (U:UT P): ∀ (n:Nat) (vs:List V),Shp P n 5 vs→ ∃ a:UInt8,vs=bB a:=fun _ _ h=>shq_u8 U.u5 h
theorem sh39 {P:Program} (U:UT P): ∀ (n:Nat) (vs:List V),Shp P n 39 vs→ ∃ a:(List UInt8),vs=(fun l=>[V.sl (List.map bB l)]) a:=fun _ _ h=>shq_slice (f:=bB) U.u39 (sh5 U) h
theorem ut:UT Tryd.prog:=⟨by kernel_rfl,by kernel_rfl,⟨_,_,_,Tryd.underlying24,rfl,rfl,rfl⟩,by kernel_rfl,by kernel_rfl⟩
theorem args4 {P:Program} (U:UT P) {us:List V} (h:ShpB P [24,39] us): ∃ (d0:Fm) (d1:(List UInt8)),us=[V.agg (cFm d0),V.sl (List.map bB d1)]:=by
  obtain ⟨n0,a0,b0,e0,h0,h⟩:=shpB_cons h
  obtain ⟨d0,g0⟩:=sh24 U n0 a0 h0
  have q0:packV P 24 a0=V.agg (cFm d0):=by obtain ⟨_,_,_,hu,_⟩:=U.u24; rw [g0,cF_eq]; exact pack_struct hu _
  obtain ⟨n1,a1,b1,e1,h1,h⟩:=shpB_cons h
  obtain ⟨d1,g1⟩:=sh39 U n1 a1 h1
  have q1:packV P 39 a1=V.sl (List.map bB d1):=by rw [g1]; exact pack_other (fun fs h=>by rw [U.u39] at h; cases h) (fun m e h=>by rw [U.u39] at h; cases h)
  have e2:=shpB_nil h
  exact ⟨d0,d1,by rw [e0,q0,e1,q1,e2]⟩
theorem own4:ownKnob Tryd.prog.godebug=none:=by kernel_rfl
theorem okS4: ∀ t∈[3,5,22,24,39],okS Tryd.prog [3,5,22,24,39] t=true:=by
  intro t ht
  simp only [List.mem_cons,List.not_mem_nil,or_false] at ht
  rcases ht with rfl|rfl|rfl|rfl|rfl
  · kernel_rfl
  · kernel_rfl
  · kernel_rfl
  · kernel_rfl
  · kernel_rfl
set_option maxRecDepth 100000 in
theorem lifted4 (os:Os) (started:os.Started) (H:Type) (enc:TypeId×Value→H):
    ReturnsInHanded {} Tryd.checked os 4 .any (fun w args=>(Rows.monitorWordsSpec.pre enc Tryd.prog Tryd.f4 [] false w args∧laidMetH Tryd.prog Rows.monitorWordsRow.laid w)∧sizedMet enc Tryd.prog Tryd.f4 (OpenSpec.ofChange Rows.monitorWordsSpec) false w args)
      (Rows.monitorWordsSpec.post enc Tryd.prog Tryd.f4 false true false false):=by
  refine returnsInHanded_of_change_and (C:=Tryd.checked) (X:=fun w _=>laidMetH Tryd.prog Rows.monitorWordsRow.laid w) (fun _ _ _ hh h=>h.of_heap hh) own4 started (by kernel_rfl) Tryd.func4
    (ChangeSpec.witness_shaped (enc:=enc) (C:=Tryd.checked) (os:=os) (X:=fun w _=>laidMetH Tryd.prog Rows.monitorWordsRow.laid w) false (World.doorLaid Tryd.prog 400 os) #[.agg #[.int .i64 0,.int .i64 0,.slice none 0 0],.slice none 0 0] 8 rfl (World.shaped_of_RefB (by kernel_rfl) (by kernel_rfl)) (by kernel_rfl) (by kernel_rfl) (by kernel_rfl) (door_met os _)) ?_
  intro W base args ds gs before hval0 hW _ _ hL _
  refine law_postS (S:=[3,5,22,24,39]) (tb:=4) (by kernel_rfl) (by kernel_rfl) (by kernel_rfl) okS4 (fun t ht=>?_) rfl ?_ (fun us hu=>?_) hval0 hW (tabZ_of_laid hL)
  · have h:t∈[24,39]:=ht
    simp only [List.mem_cons,List.not_mem_nil,or_false] at h
    rcases h with rfl|rfl
    · exact ⟨of_decide_eq_true (by kernel_rfl),by kernel_rfl,of_decide_eq_true (by kernel_rfl)⟩
    · exact ⟨of_decide_eq_true (by kernel_rfl),by kernel_rfl,of_decide_eq_true (by kernel_rfl)⟩
  · obtain ⟨p,q,hA,hV,rfl,hfz,hnd⟩:=hW
    obtain ⟨rfl,rfl⟩:=trodVars_none hV
    change DataW.TrodAll enc Tryd.prog W 0 (fun _=>true) true [24,39] args.toList ds p at hA
    obtain ⟨v0,vs0,y0,ds0,pa0,pb0,hv0,rfl,rfl,_,hA⟩:=trodAll_cons hA
    obtain ⟨v1,vs1,y1,ds1,pa1,pb1,hv1,rfl,rfl,_,hA⟩:=trodAll_cons hA
    obtain ⟨_,rfl,rfl⟩:=trodAll_nil hA
    rfl
  · obtain ⟨d0,d1,rfl⟩:=args4 ut hu
    exact law4_pure d0 d1
theorem row4:Rows.MonitorWordsSaid:=
  OpenClaim.holds_of_wide 4 Tryd.f4 rfl rfl rfl rfl rfl rfl rfl ⟨rfl,rfl,rfl,rfl,rfl⟩ rfl rfl rfl rfl rfl (by kernel_rfl) Tryd.func4 (by kernel_rfl)
    (of_decide_eq_true (by kernel_rfl)) (by unfold Func.isWrapper; first|(rw [if_pos (by decide+kernel)]; kernel_rfl)|(rw [if_neg (by decide+kernel)]; exact ⟨rfl,rfl⟩))
    (fun os started H enc _=>lifted4 os started H enc)
theorem proved4 : Rows.MonitorWordsCardSaid :=
  Claim7.holds_tied_plain_at .later [] [.data, .data, .data] true (true, "9750cd835fc6be56c868f17598e48ee6da7fc37918f78c04b1a6e4f014a09322") false
    row4 (fun _ h=>by cases h) (by kernel_rfl) (fun _ h=>by cases h) monitorWords_row_tie rfl ⟨rfl,rfl⟩ (by kernel_rfl) rfl
    (fun f fn hf hfn=>by
      obtain rfl : f = 4 := Option.some.inj ((show Tryd.prog.funcNamed "learner/learnerlaw46.MonitorWords" = some 4 by kernel_rfl).symm.trans hf) |>.symm
      obtain rfl:fn=Tryd.f4:=(Option.some.inj (Tryd.func4.symm.trans hfn)).symm
      exact ⟨by kernel_rfl,fun j t ht=>by
        rw [Tryd.params4] at ht
        have hm:t∈[24,39]:=by simpa using Array.mem_of_getElem? ht
        have hall:([24,39].all fun u=> !Tryd.prog.wantsStandIn u)=true:=by kernel_rfl
        exact (show Tryd.prog.wantsStandIn t=false by simpa using List.all_eq_true.1 hall t hm)⟩)
    (by kernel_rfl)
end Go.Proofs.YteehaobohaecmaaDoor
