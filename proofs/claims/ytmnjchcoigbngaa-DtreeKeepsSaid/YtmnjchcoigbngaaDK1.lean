/- Contracts of the functions that the law DK reaches, and the law itself, for every input; no condition. -/
import Derived.KernelRfl
import Derived.Test.YtmnjchcoigbngaaProg
import Derived.Sort.Statements
import Derived.Shelf.SlSortCmp.KitK
import Derived.Shelf.SlSortCmp.Kit1
import Derived.Shelf.SlSortCmp.NoneTotal
import Derived.Test.YtmnjchcoigbngaaLay3
set_option linter.unusedSimpArgs false
set_option linter.unusedVariables false
namespace Go.Proofs.Ytmnjchcoigbngaa
open Go
def fe (e : Nat → Int) (k : Nat) : Nat → Int
  | 0 => 0
  | n + 1 => if e k = 0 then fe e (k + 1) n else e k
theorem fe_hit {e : Nat → Int} {k N : Nat} (h : e k ≠ 0) (hk : k < N) : fe e k (N - k) = e k := by
  obtain ⟨n, hn⟩ : ∃ n, N - k = n + 1 := ⟨N - k - 1, by omega⟩
  rw [hn]; simp [fe, h]
theorem fe_skip {e : Nat → Int} {k N : Nat} (h : e k = 0) (hk : k < N) : fe e k (N - k) = fe e (k + 1) (N - (k + 1)) := by
  obtain ⟨n, hn⟩ : ∃ n, N - k = n + 1 := ⟨N - k - 1, by omega⟩
  rw [hn, show N - (k + 1) = n by omega]; simp [fe, h]
theorem fe_end {e : Nat → Int} {k N : Nat} (hk : N ≤ k) : fe e k (N - k) = 0 := by
  rw [show N - k = 0 by omega]; rfl
theorem fe_zero_iff {e : Nat → Int} : ∀ {n k : Nat}, fe e k n = 0 ↔ ∀ j, k ≤ j → j < k + n → e j = 0 := by
  intro n
  induction n with
  | zero => intro k; simp only [fe, true_iff]; intro j h1 h2; omega
  | succ n ih =>
    intro k
    simp only [fe]
    split
    · rename_i h
      rw [ih]
      constructor
      · intro hh j h1 h2
        by_cases hj : j = k
        · subst hj; exact h
        · exact hh j (by omega) (by omega)
      · intro hh j h1 h2; exact hh j (by omega) (by omega)
    · rename_i h
      constructor
      · intro hh; exact (h hh).elim
      · intro hh; exact hh k (Nat.le_refl _) (by omega)
def fi (p : Nat → Bool) (k : Nat) : Nat → Int
  | 0 => -1
  | n + 1 => if p k then k else fi p (k + 1) n
theorem fi_hit {p : Nat → Bool} {k N : Nat} (h : p k = true) (hk : k < N) : fi p k (N - k) = k := by
  obtain ⟨n, hn⟩ : ∃ n, N - k = n + 1 := ⟨N - k - 1, by omega⟩
  rw [hn]; simp [fi, h]
theorem fi_skip {p : Nat → Bool} {k N : Nat} (h : p k = false) (hk : k < N) : fi p k (N - k) = fi p (k + 1) (N - (k + 1)) := by
  obtain ⟨n, hn⟩ : ∃ n, N - k = n + 1 := ⟨N - k - 1, by omega⟩
  rw [hn, show N - (k + 1) = n by omega]; simp [fi, h]
theorem fi_end {p : Nat → Bool} {k N : Nat} (hk : N ≤ k) : fi p k (N - k) = -1 := by
  rw [show N - k = 0 by omega]; rfl
theorem fi_fe (p : Nat → Bool) (c : Int) (hc : c ≠ 0) : ∀ n k, decide (0 ≤ fi p k n) = decide (fe (fun j => if p j then c else 0) k n = c) ∧ (fe (fun j => if p j then c else 0) k n = 0 ∨ fe (fun j => if p j then c else 0) k n = c) := by
  intro n
  induction n with
  | zero => intro k; simp [fi, fe, Ne.symm hc]
  | succ n ih =>
    intro k
    simp only [fi, fe]
    by_cases h : p k = true
    · simp [h, hc]
    · simp only [h, if_false, if_true]
      simpa using ih (k + 1)
theorem take_succ_nth {α : Type} [Inhabited α] {l : List α} {k : Nat} (h : k < l.length) : l.take (k + 1) = l.take k ++ [nth l k] := by
  rw [← nth_getElem h, List.take_succ_eq_append_getElem h]
def wE (w : List Int) (n : Int) (k : Nat) : Int := if nth w k < 0 ∨ n ≤ nth w k then 1 else 0
def wchk (w : List Int) (n : Int) : Int :=
  if n < 1 ∨ 1024 < n then 2 else if 1024 < w.length then 3 else fe (wE w n) 0 w.length
structure M where
  i : Int
  s : Int
  nx : List (List Int)
  ot : List (List Int)
def cell (l : List (List Int)) (s a : Int) : Int := nth (nth l s.toNat) a.toNat
def celE (m : M) (s a : Nat) : Int := if nth (nth m.nx s) a < 0 ∨ m.nx.length ≤ nth (nth m.nx s) a ∨ nth (nth m.ot s) a < 0 ∨ 1048576 < nth (nth m.ot s) a then 2 else 0
def rowE (m : M) (s : Nat) : Int :=
  if ((nth m.nx s).length : Int) ≠ m.i ∨ ((nth m.ot s).length : Int) ≠ m.i then 1
  else fe (celE m s) 0 m.i.toNat
def mval (m : M) : Int :=
  if m.i < 1 ∨ 64 < m.i then 2 else if m.nx.length = 0 then 19 else if 128 < m.nx.length then 11 else if m.s < 0 ∨ m.nx.length ≤ m.s then 2
  else if m.ot.length ≠ m.nx.length then 1 else fe (rowE m) 0 m.nx.length
def outs (m : M) : Int → List Int → List Int
  | _, [] => []
  | s, a :: w => cell m.ot s a :: outs m (cell m.nx s a) w
theorem mval_ok {m : M} (h : mval m = 0) : 1 ≤ m.i ∧ m.i ≤ 64 ∧ 0 < m.nx.length ∧ m.nx.length ≤ 128 ∧ 0 ≤ m.s ∧ m.s < m.nx.length ∧ m.ot.length = m.nx.length ∧
    (∀ s, s < m.nx.length → ((nth m.nx s).length : Int) = m.i ∧ ((nth m.ot s).length : Int) = m.i ∧ ∀ a : Nat, a < m.i → 0 ≤ nth (nth m.nx s) a ∧ nth (nth m.nx s) a < m.nx.length ∧ 0 ≤ nth (nth m.ot s) a ∧ nth (nth m.ot s) a ≤ 1048576) := by
  unfold mval at h
  split at h; · cases h
  rename_i h1
  split at h; · cases h
  rename_i h2
  split at h; · cases h
  rename_i h3
  split at h; · cases h
  rename_i h4
  split at h; · cases h
  rename_i h5
  refine ⟨by omega, by omega, by omega, by omega, by omega, by omega, by omega, fun s hs => ?_⟩
  have h6 := fe_zero_iff.1 h s (Nat.zero_le _) (by omega)
  unfold rowE at h6
  split at h6; · cases h6
  rename_i h7
  refine ⟨by omega, by omega, fun a ha => ?_⟩
  have h8 := fe_zero_iff.1 h6 a (Nat.zero_le _) (by omega)
  unfold celE at h8
  split at h8
  · cases h8
  · omega
def inE (w : List Int) (n : Int) (k : Nat) : Bool := decide (nth w k < 0 ∨ n ≤ nth w k)
theorem wE_in (w : List Int) (n : Int) : wE w n = fun j => if inE w n j then 1 else 0 := by
  funext j; simp [wE, inE]
theorem in_fe (w : List Int) (n : Int) (c k : Nat) : (0 ≤ fi (inE w n) k c ↔ fe (wE w n) k c = 1) ∧ (fe (wE w n) k c = 0 ∨ fe (wE w n) k c = 1) := by
  rw [wE_in]
  have h := fi_fe (inE w n) 1 (by decide) c k
  exact ⟨by simpa using decide_eq_decide.1 h.1, h.2⟩
structure Hy where
  m : M
  acc : List (List Int)
abbrev hC (h : Hy) : List V := [iV h.m.i, iV h.m.s, intss h.m.nx, intss h.m.ot, intss h.acc]
abbrev hV (h : Hy) : V := .agg (hC h)
abbrev hB (h : Hy) : Blk := ⟨1, true, false, 26, 5, [hC h]⟩
end Go.Proofs.Ytmnjchcoigbngaa
namespace Go.Proofs.Ytmnjchcoigbngaa
open Go
def cmn : List Int → List Int → Nat
  | a :: l, b :: m => if a = b then cmn l m + 1 else 0
  | _, _ => 0
theorem nth_zero {α : Type} [Inhabited α] (a : α) (l : List α) : nth (a :: l) 0 = a := rfl
theorem nth_succ {α : Type} [Inhabited α] (a : α) (l : List α) (k : Nat) : nth (a :: l) (k + 1) = nth l k := rfl
theorem cmn_spec : ∀ (a b : List Int), cmn a b ≤ a.length ∧ cmn a b ≤ b.length ∧ (∀ j, j < cmn a b → nth a j = nth b j) ∧ (cmn a b < a.length → cmn a b < b.length → nth a (cmn a b) ≠ nth b (cmn a b))
  | [], b => by simp [cmn]
  | a :: l, [] => by simp [cmn]
  | a :: l, b :: m => by
    obtain ⟨h1, h2, h3, h4⟩ := cmn_spec l m
    by_cases e : a = b
    · subst e
      simp only [cmn, if_true, List.length_cons]
      refine ⟨by omega, by omega, fun j hj => ?_, fun g1 g2 => by simpa [nth_succ] using h4 (by omega) (by omega)⟩
      cases j with
      | zero => rfl
      | succ j => simpa [nth_succ] using h3 j (by omega)
    · simp only [cmn, if_neg e, List.length_cons]
      exact ⟨by omega, by omega, fun j hj => by omega, fun _ _ => e⟩
theorem cmn_l (a b : List Int) : cmn a b ≤ a.length := (cmn_spec a b).1
theorem cmn_r (a b : List Int) : cmn a b ≤ b.length := (cmn_spec a b).2.1
theorem cmn_next {a b : List Int} {k : Nat} (hc : k ≤ cmn a b) (ha : k < a.length) (hb : k < b.length) (e : nth a k = nth b k) : k + 1 ≤ cmn a b := by
  obtain ⟨h1, h2, h3, h4⟩ := cmn_spec a b
  by_cases h : k = cmn a b
  · subst h; exact (h4 ha hb e).elim
  · omega
theorem cmn_at {a b : List Int} {k : Nat} (hc : k ≤ cmn a b) (h : a.length ≤ k ∨ b.length ≤ k ∨ nth a k ≠ nth b k) : cmn a b = k := by
  obtain ⟨h1, h2, h3, h4⟩ := cmn_spec a b
  by_cases e : k = cmn a b
  · exact e.symm
  · have h5 := h3 k (by omega)
    rcases h with h | h | h
    · omega
    · omega
    · exact (h h5).elim
theorem cmn_comm (a b : List Int) : cmn a b = cmn b a := by
  obtain ⟨h1, h2, h3, h4⟩ := cmn_spec b a
  refine cmn_at ?_ ?_
  · have : ∀ k, k ≤ cmn b a → k ≤ cmn a b := by
      intro k
      induction k with
      | zero => intro _; exact Nat.zero_le _
      | succ k ih => intro h; exact cmn_next (ih (by omega)) (by omega) (by omega) (h3 k (by omega)).symm
    exact this _ (Nat.le_refl _)
  · by_cases g1 : a.length ≤ cmn b a
    · exact .inl g1
    · by_cases g2 : b.length ≤ cmn b a
      · exact .inr (.inl g2)
      · exact .inr (.inr fun e => h4 (by omega) (by omega) e.symm)
theorem cmn_self (a : List Int) : cmn a a = a.length := by
  induction a with
  | nil => rfl
  | cons x l ih => simp [cmn, ih]
theorem nth_take {α : Type} [Inhabited α] {l : List α} {n j : Nat} (h : j < n) : nth (l.take n) j = nth l j := by
  simp only [nth, List.getD_eq_getElem?_getD, List.getElem?_take, if_pos h]
theorem nth_dropn {α : Type} [Inhabited α] {l : List α} {n j : Nat} : nth (l.drop n) j = nth l (n + j) := by
  simp only [nth, List.getD_eq_getElem?_getD, List.getElem?_drop]
theorem nth_app_l {α : Type} [Inhabited α] {l m : List α} {j : Nat} (h : j < l.length) : nth (l ++ m) j = nth l j := by
  simp only [nth, List.getD_eq_getElem?_getD, List.getElem?_append_left h]
theorem nth_app_r {α : Type} [Inhabited α] {l m : List α} {j : Nat} : nth (l ++ m) (l.length + j) = nth m j := by
  simp only [nth, List.getD_eq_getElem?_getD, List.getElem?_append_right (Nat.le_add_right _ _), Nat.add_sub_cancel_left]
theorem nth_map {α β : Type} [Inhabited α] [Inhabited β] {f : α → β} {l : List α} {j : Nat} (h : j < l.length) : nth (l.map f) j = f (nth l j) := by
  rw [← nth_getElem (by simpa using h), ← nth_getElem h, List.getElem_map]
theorem nth_mem {α : Type} [Inhabited α] {l : List α} {j : Nat} (h : j < l.length) : nth l j ∈ l := by
  rw [← nth_getElem h]; exact List.getElem_mem h
theorem mem_nth {α : Type} [Inhabited α] {l : List α} {x : α} (h : x ∈ l) : ∃ j, j < l.length ∧ nth l j = x := by
  obtain ⟨j, hj, e⟩ := List.getElem_of_mem h
  exact ⟨j, hj, by rw [← nth_getElem hj]; exact e⟩
theorem nth_ext {α : Type} [Inhabited α] {l m : List α} (h1 : l.length = m.length) (h2 : ∀ j, j < l.length → nth l j = nth m j) : l = m := by
  refine List.ext_getElem h1 fun j g1 g2 => ?_
  rw [nth_getElem g1, nth_getElem g2]; exact h2 j g1
def lexI (a b : List Int) : Int :=
  if cmn a b = a.length ∧ cmn a b = b.length then 0
  else if cmn a b = a.length ∨ (cmn a b < b.length ∧ nth a (cmn a b) < nth b (cmn a b)) then -1 else 1
def slx (a b : List Int) : Int := if a.length < b.length then -1 else if b.length < a.length then 1 else lexI a b
def cmpI (x y : Int) : Int := if x < y then -1 else if y < x then 1 else 0
def orI : List Int → Int
  | [] => 0
  | x :: l => if x = 0 then orI l else x
theorem orI_drop {l : List Int} {k : Nat} (h : k < l.length) : orI (l.drop k) = if nth l k = 0 then orI (l.drop (k + 1)) else nth l k := by
  rw [nth_drop h]; rfl
theorem cmpI_zero {x y : Int} : cmpI x y = 0 ↔ x = y := by
  unfold cmpI; split
  · omega
  · split <;> omega
theorem eq_of_cmn {a b : List Int} (h1 : cmn a b = a.length) (h2 : cmn a b = b.length) : a = b :=
  nth_ext (by omega) fun j hj => (cmn_spec a b).2.2.1 j (by omega)
theorem lexI_zero {a b : List Int} : lexI a b = 0 ↔ a = b := by
  unfold lexI
  constructor
  · intro h
    split at h
    · rename_i g; exact eq_of_cmn g.1 g.2
    · split at h <;> omega
  · intro e; subst e; rw [cmn_self]; simp
theorem slx_zero {a b : List Int} : slx a b = 0 ↔ a = b := by
  unfold slx
  split
  · rename_i h; constructor
    · intro h; omega
    · intro e; subst e; omega
  · split
    · rename_i h; constructor
      · intro h; omega
      · intro e; subst e; omega
    · exact lexI_zero
theorem lexI_neg {a b : List Int} (h : lexI a b < 0) : 0 < lexI b a := by
  unfold lexI at h ⊢
  obtain ⟨h1, h2, h3, h4⟩ := cmn_spec a b
  rw [cmn_comm b a]
  split at h
  · omega
  · split at h
    · rename_i g1 g2
      rw [if_neg (by omega), if_neg (by omega)]; omega
    · omega
theorem slx_neg {a b : List Int} (h : slx a b < 0) : 0 < slx b a := by
  unfold slx at h ⊢
  split at h
  · rw [if_neg (by omega), if_pos (by omega)]; omega
  · split at h
    · omega
    · rw [if_neg (by omega), if_neg (by omega)]; exact lexI_neg h
theorem lexI_tot (a b : List Int) : lexI a b = 0 ∨ lexI a b = -1 ∨ lexI a b = 1 := by
  unfold lexI; split
  · simp
  · split <;> simp
theorem lexI_pos {a b : List Int} (h : 0 < lexI a b) : lexI b a < 0 := by
  unfold lexI at h ⊢
  obtain ⟨h1, h2, h3, h4⟩ := cmn_spec a b
  rw [cmn_comm b a]
  split at h
  · omega
  · split at h
    · omega
    · rename_i g1 g2
      rw [if_neg (by omega), if_pos]; · omega
      by_cases g3 : cmn a b = b.length
      · exact .inl g3
      · have := h4 (by omega) (by omega); right; omega
theorem slx_pos {a b : List Int} (h : 0 < slx a b) : slx b a < 0 := by
  unfold slx at h ⊢
  split at h
  · omega
  · split at h
    · rw [if_pos (by omega)]; omega
    · rw [if_neg (by omega), if_neg (by omega)]; exact lexI_pos h
theorem cmn_min {a b c : List Int} : min (cmn a b) (cmn b c) ≤ cmn a c := by
  have : ∀ k, k ≤ min (cmn a b) (cmn b c) → k ≤ cmn a c := by
    intro k
    induction k with
    | zero => intro _; exact Nat.zero_le _
    | succ k ih =>
      intro h
      obtain ⟨g1, g2, g3, _⟩ := cmn_spec a b
      obtain ⟨f1, f2, f3, _⟩ := cmn_spec b c
      exact cmn_next (ih (by omega)) (by omega) (by omega) ((g3 k (by omega)).trans (f3 k (by omega)))
  exact this _ (Nat.le_refl _)
theorem lexI_trans {a b c : List Int} (h1 : lexI a b < 0) (h2 : lexI b c < 0) : lexI a c < 0 := by
  obtain ⟨g1, g2, g3, g4⟩ := cmn_spec a b
  obtain ⟨f1, f2, f3, f4⟩ := cmn_spec b c
  obtain ⟨e1, e2, e3, e4⟩ := cmn_spec a c
  have m := cmn_min (a := a) (b := b) (c := c)
  unfold lexI at h1 h2 ⊢
  split at h1; · omega
  split at h1
  · split at h2; · omega
    split at h2
    · rename_i p1 p2 p3 p4
      by_cases q : cmn a b < cmn b c
      · -- the first difference is that of a and b
        have hb : cmn a b < b.length := by omega
        have e : cmn a c = cmn a b := by
          refine cmn_at (by omega) ?_
          by_cases r : a.length ≤ cmn a b
          · exact .inl r
          · refine .inr (.inr ?_)
            rw [← f3 _ q]; exact g4 (by omega) hb
        rw [if_neg (by omega), if_pos]; · omega
        rw [e]
        by_cases r : cmn a b = a.length
        · exact .inl r
        · right
          refine ⟨by omega, ?_⟩
          rw [← f3 _ q]
          omega
      · by_cases q' : cmn b c < cmn a b
        · have e : cmn a c = cmn b c := by
            refine cmn_at (by omega) ?_
            by_cases r : c.length ≤ cmn b c
            · exact .inr (.inl r)
            · refine .inr (.inr ?_)
              rw [g3 _ q']; exact f4 (by omega) (by omega)
          rw [if_neg (by omega), if_pos]; · omega
          rw [e]; right
          refine ⟨by omega, ?_⟩
          rw [g3 _ q']; omega
        · have e0 : cmn a b = cmn b c := by omega
          by_cases r : cmn a b = a.length
          · rw [if_neg, if_pos]; · omega
            · left; omega
            · intro hh
              omega
          · have hlt : nth a (cmn a b) < nth c (cmn a b) := by
              have x1 : nth a (cmn a b) < nth b (cmn a b) := by omega
              have x2 : nth b (cmn a b) < nth c (cmn a b) := by rw [e0] at x1 ⊢; omega
              omega
            have e : cmn a c = cmn a b := cmn_at (by omega) (.inr (.inr (by omega)))
            rw [if_neg (by omega), if_pos]; · omega
            right; rw [e]; exact ⟨by omega, hlt⟩
    · omega
  · omega
theorem slx_trans {a b c : List Int} (h1 : slx a b < 0) (h2 : slx b c < 0) : slx a c < 0 := by
  unfold slx at h1 h2 ⊢
  split at h1
  · split at h2
    · rw [if_pos (by omega)]; omega
    · split at h2
      · omega
      · rw [if_pos (by omega)]; omega
  · split at h1
    · omega
    · split at h2
      · rw [if_pos (by omega)]; omega
      · split at h2
        · omega
        · rw [if_neg (by omega), if_neg (by omega)]; exact lexI_trans h1 h2
theorem slx_tr {a b c : List Int} (h1 : slx a b ≤ 0) (h2 : slx b c ≤ 0) : slx a c ≤ 0 := by
  by_cases e1 : slx a b = 0
  · rw [slx_zero.1 e1]; exact h2
  · by_cases e2 : slx b c = 0
    · rw [← slx_zero.1 e2]; exact h1
    · have := slx_trans (a := a) (b := b) (c := c) (by omega) (by omega); omega
theorem slx_anti {a b : List Int} (h1 : slx a b ≤ 0) (h2 : slx b a ≤ 0) : a = b := by
  by_cases e : slx a b = 0
  · exact slx_zero.1 e
  · have := slx_neg (a := a) (b := b) (by omega); omega
def exB (p : Nat → Bool) (k : Nat) : Nat → Bool
  | 0 => false
  | n + 1 => exB p k n || p (k + n)
structure Tr where
  ni : List Int
  no : List Int
  deriving Inhabited
abbrev cT (t : Tr) : List V := [ints t.ni, ints t.no]
@[simp] theorem canonLL_trs (l : List Tr) : canonLL (l.map cT) = true := canonLL_map _ _ fun a => by simp [cT]
structure Ob where
  i : Int
  tr : List Tr
  deriving Inhabited
def hp (w p : List Int) : Bool := decide (cmn w p = p.length)
theorem hp_iff {w p : List Int} : hp w p = true ↔ ∃ x, w = p ++ x := by
  simp only [hp, decide_eq_true_eq]
  constructor
  · intro h
    refine ⟨w.drop p.length, ?_⟩
    have e : w.take p.length = p := by
      have hl := cmn_l w p
      refine nth_ext (by simp; omega) fun j hj => ?_
      simp at hj
      rw [nth_take (by omega)]
      exact (cmn_spec w p).2.2.1 j (by omega)
    conv => lhs; rw [← List.take_append_drop p.length w, e]
  · rintro ⟨x, rfl⟩
    refine cmn_at ?_ (.inr (.inl (Nat.le_refl _)))
    have : ∀ k, k ≤ p.length → k ≤ cmn (p ++ x) p := by
      intro k
      induction k with
      | zero => intro _; exact Nat.zero_le _
      | succ k ih => intro h; exact cmn_next (ih (by omega)) (by simp; omega) (by omega) (nth_app_l (by omega))
    exact this _ (Nat.le_refl _)
def outE (t : Tr) (k : Nat) : Int := if nth t.no k < 0 ∨ 1048576 < nth t.no k then 2 else 0
def prE (t : Tr) (n : Int) : Int := if wchk t.ni n ≠ 0 then wchk t.ni n else if t.no.length ≠ t.ni.length then 1 else fe (outE t) 0 t.no.length
def dfE (a b : Tr) (k : Nat) : Bool := decide (nth a.no k ≠ nth b.no k)
def df (a b : Tr) : Int := fi (dfE a b) 0 (cmn a.ni b.ni)
structure Proper (t : Tr) (n : Int) : Prop where
  len : t.no.length = t.ni.length
  lel : t.ni.length ≤ 1024
  sym : ∀ k, k < t.ni.length → 0 ≤ nth t.ni k ∧ nth t.ni k < n
  out : ∀ k, k < t.no.length → 0 ≤ nth t.no k ∧ nth t.no k ≤ 1048576
theorem fi_iff {p : Nat → Bool} : ∀ {n k : Nat}, 0 ≤ fi p k n ↔ ∃ j, k ≤ j ∧ j < k + n ∧ p j = true
  | 0, k => by simp [fi]; omega
  | n + 1, k => by
    simp only [fi]
    split
    · rename_i h
      constructor
      · intro _; exact ⟨k, by omega, by omega, h⟩
      · intro _; omega
    · rename_i h
      rw [fi_iff]
      constructor
      · rintro ⟨j, h1, h2, h3⟩; exact ⟨j, by omega, by omega, h3⟩
      · rintro ⟨j, h1, h2, h3⟩
        by_cases e : j = k
        · subst e; exact (h h3).elim
        · exact ⟨j, by omega, by omega, h3⟩
theorem fi_val {p : Nat → Bool} : ∀ {n k : Nat}, 0 ≤ fi p k n → k ≤ (fi p k n).toNat ∧ (fi p k n).toNat < k + n ∧ p (fi p k n).toNat = true ∧ ∀ j, k ≤ j → j < (fi p k n).toNat → p j = false
  | 0, k => by simp [fi]
  | n + 1, k => by
    simp only [fi]
    split
    · rename_i h; intro _; simp only [Int.toNat_natCast]; exact ⟨by omega, by omega, h, fun j h1 h2 => by omega⟩
    · rename_i h
      intro h0
      obtain ⟨h1, h2, h3, h4⟩ := fi_val h0
      refine ⟨by omega, by omega, h3, fun j g1 g2 => ?_⟩
      by_cases e : j = k
      · subst e; simpa using h
      · exact h4 j (by omega) g2
theorem df_iff {a b : Tr} : 0 ≤ df a b ↔ ∃ j, j < cmn a.ni b.ni ∧ nth a.no j ≠ nth b.no j := by
  unfold df
  rw [fi_iff]
  constructor
  · rintro ⟨j, _, h2, h3⟩; exact ⟨j, by omega, by simpa [dfE] using h3⟩
  · rintro ⟨j, h2, h3⟩; exact ⟨j, by omega, by omega, by simpa [dfE] using h3⟩
structure OK (o : Ob) : Prop where
  hi : 1 ≤ o.i ∧ o.i ≤ 64
  len : o.tr.length ≤ 10000
  pr : ∀ k, k < o.tr.length → Proper (nth o.tr k) o.i ∧ 0 < (nth o.tr k).ni.length
  ord : ∀ k, k + 1 < o.tr.length → slx (nth o.tr k).ni (nth o.tr (k + 1)).ni < 0
  pre : ∀ i k, i < k → k < o.tr.length → hp (nth o.tr k).ni (nth o.tr i).ni = false
  cla : ∀ i k, i < k → k < o.tr.length → df (nth o.tr i) (nth o.tr k) < 0
def lngE (o : Ob) (k : Nat) : Int := if 100 < (nth o.tr k).ni.length ∨ 100 < (nth o.tr k).no.length then 1 else 0
def ogr (o : Ob) : Prop := 60 < o.tr.length ∨ fe (lngE o) 0 o.tr.length ≠ 0
instance (o : Ob) : Decidable (ogr o) := inferInstanceAs (Decidable (_ ∨ _))
def cat : List (List Int) → List Int
  | [] => []
  | w :: l => w ++ cat l
theorem cat_append : ∀ (l m : List (List Int)), cat (l ++ m) = cat l ++ cat m
  | [], _ => rfl
  | w :: l, m => by simp [cat, cat_append l m]
theorem cat_take {l : List (List Int)} {k : Nat} (h : k < l.length) : cat (l.take (k + 1)) = cat (l.take k) ++ nth l k := by
  rw [take_succ_nth h, cat_append]; simp [cat]
theorem cat_take_le {l : List (List Int)} {k : Nat} (h : k < l.length) : (cat (l.take k)).length + (nth l k).length ≤ (cat l).length := by
  have e : cat l = cat (l.take (k + 1)) ++ cat (l.drop (k + 1)) := by rw [← cat_append, List.take_append_drop]
  rw [e, cat_take h]; simp
end Go.Proofs.Ytmnjchcoigbngaa
namespace Go.Proofs.Ytmnjchcoigbngaa
open Go
section
variable {P : Program} {T : Nat → V} {H : Heap}
theorem resV_t {t : Nat} {u : V} (h : T t = u) : resV T H (.tmp t) = some u := by rw [← h]; rfl
theorem resV_c {t m id ver row off : Nat} {g : Bool} {u : V} {B : Blk} (ha : T t = .mp id ver row off) (hH : H id = B) (hl : ldB g m B ver row off = some u) : resV T H (.cell t g m) = some u := by
  subst hH
  simp only [resV, ha, ptr]
  unfold ldB at hl
  split at hl
  · rename_i hc
    rw [if_pos (show ok H id ver = true from hc)]
    cases hr : (H id).rows[row]? with
    | none => rw [hr] at hl; cases hl
    | some w => rw [hr] at hl; exact hl
  · cases hl
theorem RetC_2 {s1 s2 : SRes} {u1 u2 v1 v2 : V} {n : Nat} (h1 : resV T H s1 = some u1) (h2 : resV T H s2 = some u2) (g1 : fzv true H n u1 = v1) (g2 : fzv true H n u2 = v2) : Ret [s1, s2] (fun u G => fzv true G (n + 1) u = .tup [v1, v2]) .ret T H := by
  simp only [Ret, resT, mapO, h1, h2, onS_some, fzv, List.map_cons, List.map_nil, g1, g2]
end
end Go.Proofs.Ytmnjchcoigbngaa
namespace Go.Proofs.Ytmnjchcoigbngaa
open Go
def FinB (b b' : Blk) : Prop := b.ver ≤ b'.ver ∧ (b'.live = false ∨ b' = { b with ver := b'.ver })
def FinH (H H' : Heap) : Prop := ∀ j, FinB (H j) (H' j)
def FinX (S : List Nat) (H H' : Heap) : Prop := ∀ j, j ∉ S → FinB (H j) (H' j)
theorem FinB.refl (b : Blk) : FinB b b := ⟨Nat.le_refl _, .inr rfl⟩
theorem FinX.start {S : List Nat} {H Hi : Heap} (h : ∀ j, j ∉ S → H j = Hi j) : FinX S H Hi := fun j hj => by rw [h j hj]; exact .refl _
theorem FinX.put {S : List Nat} {H H' : Heap} {i : Nat} {b B : Blk} (h : FinX (i :: S) H H') (hi : H i = b) (hB : FinB b B) : FinX S H (upd H' i B) := fun j hj => by
  by_cases e : j = i
  · subst e; rw [upd_same, hi]; exact hB
  · rw [upd_ne _ _ e]; exact h j (by simp [e, hj])
theorem FinX.putv {S : List Nat} {H H' : Heap} {i n : Nat} {B : Blk} (h : FinX (i :: S) H H') (hi : (H i).ver = n) (hn : n ≤ B.ver) (hd : B.live = false) : FinX S H (upd H' i B) := h.put rfl ⟨by omega, .inl hd⟩
theorem FinX.fin {H H' : Heap} (h : FinX [] H H') : FinH H H' := fun j => h j (by simp)
theorem FinB.eq {b B : Blk} (h : b = B) : FinB b B := h ▸ .refl _
theorem FinB.up {v n : Nat} {l z : Bool} {ty : TypeId} {sz : Nat} {rows rows' : List (List V)} (h : v ≤ n) (hr : rows = rows') : FinB ⟨v, l, z, ty, sz, rows⟩ ⟨n, l, z, ty, sz, rows'⟩ := ⟨h, .inr (by subst hr; rfl)⟩
theorem FinB.own {b b' : Blk} (h : FinB b b') (ho : b'.own = true) : b' = { b with ver := b'.ver } ∧ b.own = true := by
  rcases h.2 with h1 | h1
  · have := own_live ho; rw [h1] at this; cases this
  · refine ⟨h1, ?_⟩
    rw [h1] at ho; exact ho
def finC (x : Cx) (H' : Heap) : Cx := { x with Z := fun b => x.Z b ∨ ∃ j, (x.H j).own = true ∧ (H' j).live = false ∧ b = x.σ j, H := H' }
theorem fin_step {x : Cx} (hx : Inv x) {H' : Heap} (h : FinH x.H H') : Inv (finC x H') ∧ Frame x (finC x H') := by
  generalize hy : finC x H' = y
  have ew : y.w = x.w := by rw [← hy]; rfl
  have eh : y.H = H' := by rw [← hy]; rfl
  have es : y.σ = x.σ := by rw [← hy]; rfl
  have ez : ∀ b, y.Z b ↔ x.Z b ∨ ∃ j, (x.H j).own = true ∧ (H' j).live = false ∧ b = x.σ j := fun b => by rw [← hy]; exact Iff.rfl
  have hf : Frame x y := by
    refine ⟨by rw [ew], by rw [ew], by rw [ew], by rw [ew]; exact Nat.le_refl _, fun _ _ _ => by rw [ew], fun b h => (ez b).2 (.inl h), fun b hb => ?_, fun i => ?_, fun i ho => ?_, by rw [ew]; exact Nat.le_refl _⟩
    · rcases (ez b).1 hb with h1 | ⟨j, h1, _, h3⟩
      · exact .inl h1
      · exact .inr (.inr ⟨j, h1, h3.symm⟩)
    rotate_left
    · rw [eh] at ho; rw [es]; exact .inl ⟨((h i).own ho).2, rfl⟩
    rw [eh, es, ew]
    refine ⟨(h i).1, fun hl hv => ?_⟩
    have e : H' i = x.H i := by
      rcases (h i).2 with h1 | h1
      · have : (H' i).live = true := hl
        rw [h1] at this; cases this
      · rw [h1]; show ({ x.H i with ver := (H' i).ver } : Blk) = x.H i; rw [show (H' i).ver = (x.H i).ver from hv]
    simp only [e]
    have hl' : (x.H i).live = true := by rw [← e]; exact hl
    exact ⟨hl', trivial, trivial, trivial, fun _ => ⟨trivial, trivial⟩⟩
  refine ⟨⟨fun b hb => ?_, fun b i hb ho => ?_, fun i ho => ?_, fun i j hi hj he => ?_⟩, hf⟩
  · rw [ew]
    rcases (ez b).1 hb with h1 | ⟨j, h1, _, h3⟩
    · exact hx.zlt b h1
    · rw [h3]; exact hx.lt h1
  · rw [eh] at ho; rw [es]
    have ho' := ((h i).own ho).2
    rcases (ez b).1 hb with h1 | ⟨j, h1, h2, h3⟩
    · exact hx.zown b i h1 ho'
    · intro q
      have := hx.inj i j ho' h1 (q.trans h3)
      subst this
      have := own_live ho; rw [h2] at this; cases this
  rotate_left
  · rw [eh] at hi hj; rw [es] at he
    exact hx.inj i j ((h i).own hi).2 ((h j).own hj).2 he
  rw [eh] at ho
  obtain ⟨e, ho'⟩ := (h i).own ho
  obtain ⟨dd, h1, h2, h3, h4⟩ := hx.blk i ho'
  have e1 : (y.H i).rows = (x.H i).rows := by rw [eh, e]
  have e2 : (y.H i).sz = (x.H i).sz := by rw [eh, e]
  have e3 : (y.H i).ty = (x.H i).ty := by rw [eh, e]
  rw [e1, e2, e3, ew, es]
  exact ⟨dd, h1, h2, h3, fun r row j v hr hj => (h4 r row j v hr hj).frame hx hf⟩
def FinV (H H' : Heap) (v v' : V) : Prop := ∀ (x : Cx) (c : Value), x.H = H → Inv x → R x v c → R (finC x H') v' c
theorem FinV.same {H H' : Heap} (h : FinH H H') (v : V) : FinV H H' v v := fun x c e hx r => by
  subst e; exact r.frame hx (fin_step hx h).2
theorem FinV.nil {H H' : Heap} : FinV H H' .nilsl (.sl []) := fun x c e hx r => by
  cases r; exact .slnil
theorem FinV.ms {H H' : Heap} (h : FinH H H') {id ver n off len : Nat} (hl : (H id).live = true) (hv : (H id).ver = ver) (hl' : (H' id).live = true) (hv' : (H' id).ver = n) : FinV H H' (.ms id ver off len) (.ms id n off len) := fun x c e hx r => by
  subst e
  have e : H' id = { x.H id with ver := n } := by
    rcases (h id).2 with h1 | h1
    · rw [h1] at hl'; cases hl'
    · rw [hv'] at h1; exact h1
  cases r with
  | ms id ver off len b m cap hv1 hh =>
    refine .ms _ _ _ _ _ _ _ (by rw [show (finC x H').H id = H' id from rfl, hv']; exact Nat.le_refl _) fun _ _ => ?_
    have := hh hv hl
    simp only [finC, e]
    exact this
theorem FinV.trans_eq {H H' : Heap} {a b b' : V} (h : FinV H H' a b) (e : b = b') : FinV H H' a b' := e ▸ h
section
variable {P : Program} {op : Opt} {k0 : Nat}
theorem CallOK_of_Wf {f : Nat} {fn : Func} {s : SF} (hf : P.funcs[f]? = some fn) (hs : slimF P op fn = some s) (hn : (fn.name == "runtime.NumGoroutine") = false) {args : List V} {H : Heap} {v : V} {H' : Heap}
    (hl : args.length ≤ s.n) (hW : bndL args = true → W P k0 s.body (Ret s.res fun u G => FinH G H' ∧ FinV G H' u v) (T0 args) H) : CallOK P f args H v H' := by
  refine ⟨callable_of hf hs hn, fun x cs hxH hx hr => ?_⟩
  subst hxH
  refine (calls_of_W hf hs hl (hW hr.bnd) hx hr).mono fun e w' h => ?_
  obtain ⟨c, u, y, h1, h2, ⟨h3, h4⟩, h5, h6, h7⟩ := h
  obtain ⟨z1, z2⟩ := fin_step h5 h3
  exact ⟨c, finC y H', h1, h2, rfl, z1, h4 y c rfl h5 h6, h7.trans z2⟩
variable {T : Nat → V} {H H' : Heap}
theorem RetF_1 {t : Nat} {u v : V} (h : T t = u) (hH : FinH H H') (hv : FinV H H' u v) : Ret [.tmp t] (fun u G => FinH G H' ∧ FinV G H' u v) .ret T H := by
  simp only [Ret, resT, mapO, resV, h, onS_some]; exact ⟨hH, hv⟩
theorem RetF_0 (hH : FinH H H') : Ret [] (fun u G => FinH G H' ∧ FinV G H' u (.tup [])) .ret T H := by
  simp only [Ret, resT, mapO, onS_some]; exact ⟨hH, .same hH _⟩
end
end Go.Proofs.Ytmnjchcoigbngaa
namespace Go.Proofs.Ytmnjchcoigbngaa
open Go
section
variable {P : Program} {k0 : Nat} {K : (Nat → V) → Heap → Prop} {T : Nat → V} {H : Heap} {r : List SO} {d : Nat} {a b c : SX} {v u : V}
theorem R_slice_ms_hi {e id ver off len n : Nat} {B : Blk} {k : IntKind} {x : SX} (ha : ev T a = .ms id ver off len) (hx : ev T x = .int k (n : Nat)) (hH : H id = B) (hok : okB B ver = true) (hs : B.sz = e) (hn : n ≤ len)
    (h : Ops P k0 r (upd T d (.ms id ver off n)) H K) : Ops P k0 (⟨none, some d, .slice e a none (some x)⟩ :: r) T H K := by
  subst hH
  refine stp (v := .ms id ver off n) (fun _ => rfl) ?_ h
  rw [ha]
  simp only [Option.map_some, Option.map_none, sliceV, boundV, natV, hx, Option.bind_some]
  have h0 : (0 : Int) ≤ (n : Int) := by omega
  rw [if_pos h0]
  simp only [Option.bind_some, Int.toNat_natCast]
  rw [if_pos (show ok H id ver = true from hok), if_pos hs, if_pos (Nat.zero_le _), if_pos hn]
  by_cases e : 0 < n
  · rw [if_pos e]; simp
  · rw [if_neg e, if_pos trivial, show n = 0 by omega]
theorem R_slice_ms_lo {e id ver off len n : Nat} {B : Blk} {k : IntKind} {x : SX} (ha : ev T a = .ms id ver off len) (hx : ev T x = .int k (n : Nat)) (hH : H id = B) (hok : okB B ver = true) (hs : B.sz = e) (hn : n < len)
    (h : Ops P k0 r (upd T d (.ms id ver (off + n) (len - n))) H K) : Ops P k0 (⟨none, some d, .slice e a (some x) none⟩ :: r) T H K := by
  subst hH
  refine stp (v := .ms id ver (off + n) (len - n)) (fun _ => rfl) ?_ h
  rw [ha]
  simp only [Option.map_some, Option.map_none, sliceV, boundV, natV, hx, Option.bind_some]
  have h0 : (0 : Int) ≤ (n : Int) := by omega
  rw [if_pos h0]
  simp only [Option.bind_some, Int.toNat_natCast]
  rw [if_pos (show ok H id ver = true from hok), if_pos hs, if_pos (by omega), if_pos (Nat.le_refl _), if_pos hn]
theorem R_clr {α : Type} {id ver ty sz m n : Nat} {lz : Bool} {f : α → List V} {l : List α} {z : List V} (ha : ev T a = .ms id ver m n) (hH : H id = ⟨ver, true, lz, ty, sz, l.map f⟩) (hz : z.length = sz) (hz0 : z.length ≠ 0) (hone : z.all V.one = true)
    (hm : m < l.length) (hn : m + n = l.length)
    (h : Ops P k0 r T (upd H id ⟨ver, true, lz, ty, sz, (l.take m).map f ++ List.replicate n z⟩) K) : Ops P k0 (⟨none, none, .clr z a⟩ :: r) T H K := by
  simp only [Ops, St]
  refine on_some (x := upd H id ⟨ver, true, lz, ty, sz, (l.take m).map f ++ List.replicate n z⟩) ?_ h
  rw [ha]
  simp only [clrV, hH]
  rw [if_pos (by simp), if_neg (by omega), if_pos ⟨hz, hz0⟩, if_pos hone, if_pos (by simp; omega)]
  rw [hn, List.drop_eq_nil_of_le (by simp), List.append_nil, List.map_take]
theorem R_appendZ {α : Type} {ty e bytes id ver n : Nat} {lz : Bool} {l : List α} {f : α → List V} {z : List V} (ha : ev T a = .ms id ver 0 n) (hH : H id = ⟨ver, true, lz, ty, e, l.map f⟩) (hn : n = l.length) (hb : ev T b = .sl [z]) (he : z.length = e) (h1 : z.all V.one = true)
    (h2 : (n + 1) * bytes ≤ 140737488355328) (h3 : n + 1 ≤ 9223372036854775807)
    (h : Ops P k0 r (upd T d (.ms id (ver + 1) 0 (n + 1))) (upd H id ⟨ver + 1, true, lz, ty, e, l.map f ++ List.replicate 1 z⟩) K) : Ops P k0 (⟨none, some d, .append ty e bytes a b⟩ :: r) T H K :=
  R_append ha hH (by simpa using hn) (new := [z]) (by rw [hb]; rfl) (by simp [fitRows, he, h1]) (by simpa using h2) (by simpa using h3) h
theorem putAt_full : ∀ (vs p r : List V), r.length = vs.length → putAt (p ++ r) p.length vs = p ++ vs
  | [], p, r, h => by cases r with
    | nil => rfl
    | cons a r => simp at h
  | v :: vs, p, r, h => by
    cases r with
    | nil => simp at h
    | cons a r =>
      have e : (p ++ a :: r).set p.length v = (p ++ [v]) ++ r := by simp
      rw [putAt, e, show p.length + 1 = (p ++ [v]).length by simp, putAt_full vs (p ++ [v]) r (by simpa using h)]
      simp
theorem stB_map {α : Type} [Inhabited α] {n ver ty sz i : Nat} {lz : Bool} {f : α → List V} {l : List α} {vs : List V} {x : α} (h : i < l.length) (hv : vs = f x) (hn : vs.length = n) (hs : (f (nth l i)).length = n) (ho : vs.all V.one = true) :
    stB ⟨ver, true, lz, ty, sz, l.map f⟩ ver i 0 n vs = some ⟨ver, true, lz, ty, sz, (l.set i x).map f⟩ := by
  subst hv
  unfold stB
  rw [if_pos (okB_map (by omega)), if_pos hn, if_pos ho]
  simp only [List.getElem?_map, nth_eq h, Option.map_some]
  rw [if_pos (by omega)]
  have := putAt_full (f x) [] (f (nth l i)) (by omega)
  simp only [List.nil_append, List.length_nil] at this
  rw [this, List.map_set]
theorem wrap_u64 {n : Int} (h0 : 0 ≤ n) (h : n < 18446744073709551616) : IntKind.u64.wrap n = n := by
  simp [IntKind.wrap, IntKind.bits, IntKind.signed]
  omega
theorem R_convU {kd : IntKind} {n : Nat} (ha : ev T a = .int kd (n : Nat)) (hn : n < 9223372036854775808) (h : Ops P k0 r (upd T d (.int .u64 (n : Nat))) H K) : Ops P k0 (⟨none, some d, .conv .u64 a⟩ :: r) T H K := by
  refine stp (v := .int .u64 (n : Nat)) (fun _ => rfl) ?_ h
  rw [ha]; simp only [convV, wrap_u64 (Int.natCast_nonneg n) (by omega)]
theorem R_convI {kd : IntKind} {n : Nat} (ha : ev T a = .int kd (n : Nat)) (hn : n < 9223372036854775808) (h : Ops P k0 r (upd T d (iV (n : Nat))) H K) : Ops P k0 (⟨none, some d, .conv .i64 a⟩ :: r) T H K := by
  refine stp (v := iV (n : Nat)) (fun _ => rfl) ?_ h
  rw [ha]; simp only [convV]; rw [wrap_in (by omega) (by omega)]
theorem R_shr1 {n : Nat} (ha : ev T a = .int .u64 (n : Nat)) (hb : ev T b = .int .u64 1) (h : Ops P k0 r (upd T d (.int .u64 ((n / 2 : Nat) : Int))) H K) : Ops P k0 (⟨none, some d, .bin .shr a b⟩ :: r) T H K := by
  refine R_bin ha hb ?_ h
  simp only [intBin, if_true]
  rw [if_neg (by decide)]
  congr 2
  show ((n : Nat) : Int).fdiv 2 = _
  rw [Int.fdiv_eq_ediv_of_nonneg _ (by decide)]
  omega
theorem R_idx_ms0 {e id ver len i : Nat} {B : Blk} {k : IntKind} (ha : ev T a = .ms id ver 0 len) (hb : ev T b = .int k (i : Nat)) (hH : H id = B) (hok : okB B ver = true) (hs : B.sz = e) (hi : i < len)
    (h : Ops P k0 r (upd T d (.mp id ver i 0)) H K) : Ops P k0 (⟨none, some d, .idx e a b⟩ :: r) T H K :=
  R_idx_ms ha hb hH hok hs hi (by rw [Nat.zero_add]; exact h)
theorem R_idxI_ms0 {e id ver len : Nat} {i : Int} {B : Blk} {k : IntKind} (ha : ev T a = .ms id ver 0 len) (hb : ev T b = .int k i) (hH : H id = B) (hok : okB B ver = true) (hs : B.sz = e) (h0 : 0 ≤ i) (hi : i < len)
    (h : Ops P k0 r (upd T d (.mp id ver i.toNat 0)) H K) : Ops P k0 (⟨none, some d, .idx e a b⟩ :: r) T H K :=
  R_idxI_ms ha hb hH hok hs h0 hi (by rw [Nat.zero_add]; exact h)
theorem R_mksm {α : Type} {ty e bytes i n : Nat} {z : List V} {f : α → List V} {x : α} {m q : Nat} (hi : k0 + d = i) (hv : (H i).ver = n) (ha : ev T a = iV (m : Nat)) (hb : ev T b = iV (q : Nat)) (hz : z = f x) (h1 : m ≤ q) (h2 : q * bytes ≤ 281474976710656) (h3 : q ≤ 9223372036854775807)
    (h : Ops P k0 r (upd T d (.ms i (n + 1) 0 m)) (upd H i ⟨n + 1, true, false, ty, e, (List.replicate m x).map f⟩) K) : Ops P k0 (⟨none, some d, .mks ty e bytes z a b⟩ :: r) T H K :=
  R_mks hi hv ha hb h1 h2 h3 (by rw [List.map_replicate, ← hz] at h; exact h)
theorem kill_self {id n : Nat} (h : (H id).ver = n) : (kill id H id).ver = n ∧ (kill id H id).live = false := by subst h; simp [kill]
theorem kill_dead {id j n : Nat} (h : (H j).ver = n ∧ (H j).live = false) : (kill id H j).ver = n ∧ (kill id H j).live = false := by
  by_cases e : j = id
  · subst e; exact kill_self h.1
  · simp only [kill, upd_ne _ _ e]; exact h
theorem fz_mst {α : Type} {n id ver len : Nat} {B : Blk} {f : α → List V} {l : List α} (hH : H id = B) (hok : (B.live && decide (B.ver = ver)) = true) (hr : B.rows.take len = l.map f) (hc : ∀ a, canonL (f a) = true) :
    fzv true H (n + 1) (.ms id ver 0 len) = .sl (l.map f) := by
  subst hH
  simp only [fzv]
  rw [if_pos hok, List.drop_zero, hr]
  congr 1
  rw [List.map_map]
  refine List.map_congr_left fun a _ => fzv_mapcanon n _ (hc a)
theorem take_map {α : Type} {len : Nat} {f : α → List V} {l : List α} (h : len = l.length) : (l.map f).take len = l.map f := by
  subst h; rw [show l.length = (l.map f).length by simp, List.take_length]
theorem take_zap {α : Type} {len : Nat} {f : α → List V} {l : List α} {r : List (List V)} (h : len = l.length) : (l.map f ++ r).take len = l.map f := by
  subst h; rw [show l.length = (l.map f).length by simp, List.take_left]
end
theorem nil_cell {H : Heap} {id ver ty : Nat} {lz : Bool} {α : Type} {l : List α} {f : α → List V} {x : α} (hH : H id = ⟨ver, true, lz, ty, 1, l.map f ++ List.replicate 1 [.nilsl]⟩) (hx : f x = [.sl []]) {K : (Nat → V) → Heap → Prop} {T : Nat → V}
    (h : G K T (upd H id ⟨ver, true, lz, ty, 1, (l ++ [x]).map f⟩)) : G K T H := by
  have hr : (H id).rows[l.length]? = some [.nilsl] := by
    rw [hH]; simp [List.getElem?_append]
  refine .cell id l.length 0 .nilsl (.sl []) [.nilsl] (by rw [hH]; simp [Blk.own]) hr rfl (fun x c r => by generalize hq : V.nilsl = q at r; cases r <;> cases hq; exact .slnil) ?_
  have e : ({ H id with rows := (H id).rows.set l.length (([.nilsl] : List V).set 0 (.sl [])) } : Blk) = ⟨ver, true, lz, ty, 1, (l ++ [x]).map f⟩ := by
    rw [hH]
    simp only [Blk.mk.injEq, true_and, List.map_append, List.map_cons, List.map_nil, hx]
    rw [List.set_append_right _ _ (by simp)]
    simp
  rw [e]; exact h
theorem fz_agg1 {H : Heap} {n : Nat} {u1 v1 : V} (g1 : fzv true H n u1 = v1) : fzv true H (n + 1) (.agg [u1]) = .agg [v1] := by
  simp only [fzv, List.map_cons, List.map_nil, g1]
theorem okB_zap {α : Type} {ver ty sz m : Nat} {lz : Bool} {f : α → List V} {l : List α} {z : List V} (h : 0 < l.length) : okB ⟨ver, true, lz, ty, sz, l.map f ++ List.replicate m z⟩ ver = true := by
  cases l with
  | nil => simp at h
  | cons a l => simp [okB, Blk.own]
theorem nth_zap {α : Type} [Inhabited α] {f : α → List V} {l : List α} {m i : Nat} {z : List V} (h : i < l.length) : (l.map f ++ List.replicate m z)[i]? = some (f (nth l i)) := by
  rw [List.getElem?_append_left (by simpa using h), List.getElem?_map, nth_eq h]; rfl
theorem ldB_zap {α : Type} [Inhabited α] {agg : Bool} {n ver ty sz i off m : Nat} {lz : Bool} {f : α → List V} {l : List α} {z : List V} {v : V} (h : i < l.length) (hg : ldV agg n ((f (nth l i)).drop off) = some v) :
    ldB agg n ⟨ver, true, lz, ty, sz, l.map f ++ List.replicate m z⟩ ver i off = some v := by
  unfold ldB
  rw [if_pos (show (_ && _) = true from okB_zap (by omega))]
  simp only [nth_zap h, Option.bind_some]
  exact hg
theorem stB_zap {α : Type} [Inhabited α] {n ver ty sz i m : Nat} {lz : Bool} {f : α → List V} {l : List α} {vs : List V} {x : α} {z : List V} (h : i < l.length) (hv : vs = f x) (hn : vs.length = n) (hs : (f (nth l i)).length = n) (ho : vs.all V.one = true) :
    stB ⟨ver, true, lz, ty, sz, l.map f ++ List.replicate m z⟩ ver i 0 n vs = some ⟨ver, true, lz, ty, sz, (l.set i x).map f ++ List.replicate m z⟩ := by
  subst hv
  unfold stB
  rw [if_pos (okB_zap (by omega)), if_pos hn, if_pos ho]
  simp only [nth_zap h]
  rw [if_pos (by omega)]
  have := putAt_full (f x) [] (f (nth l i)) (by omega)
  simp only [List.nil_append, List.length_nil] at this
  rw [this, List.map_set, List.set_append_left _ _ (by simpa using h)]
theorem fz_mstR {H : Heap} {α : Type} {n id ver len : Nat} {B : Blk} {f : α → List V} {l m : List α} (hH : H id = B) (hok : (B.live && decide (B.ver = ver)) = true) (hr : B.rows.take len = l.map f) (hc : ∀ a, canonL (f a) = true) (h : l = m) :
    fzv true H (n + 1) (.ms id ver 0 len) = .sl (m.map f) := by
  subst h; exact fz_mst hH hok hr hc
theorem stB_setc {α : Type} [Inhabited α] {n ver ty sz i : Nat} {lz : Bool} {f : α → List V} {l : List α} {vs : List V} (h : i < l.length) (hn : vs.length = n) (hs : (f (nth l i)).length = n) (ho : vs.all V.one = true) :
    stB ⟨ver, true, lz, ty, sz, l.map f⟩ ver i 0 n vs = some ⟨ver, true, lz, ty, sz, (l.map f).set i vs⟩ := by
  unfold stB
  rw [if_pos (okB_map (by omega)), if_pos hn, if_pos ho]
  simp only [List.getElem?_map, nth_eq h, Option.map_some]
  rw [if_pos (by omega)]
  have := putAt_full vs [] (f (nth l i)) (by omega)
  simp only [List.nil_append, List.length_nil] at this
  rw [this]
theorem R_quo2 {P : Program} {k0 : Nat} {K : (Nat → V) → Heap → Prop} {T : Nat → V} {H : Heap} {r : List SO} {d : Nat} {a b : SX} {n : Nat} (ha : ev T a = iV (n : Nat)) (hb : ev T b = iV 2) (hn : n < 9223372036854775808)
    (h : Ops P k0 r (upd T d (iV ((n / 2 : Nat) : Int))) H K) : Ops P k0 (⟨none, some d, .bin .quo a b⟩ :: r) T H K := by
  refine stp (v := iV ((n / 2 : Nat) : Int)) (fun _ => rfl) ?_ h
  rw [ha, hb]
  simp only [intBin, if_true]
  have e : (n : Int).tdiv 2 = ((n / 2 : Nat) : Int) := by rw [Int.tdiv_eq_ediv_of_nonneg (by omega)]; omega
  rw [if_neg (by decide), e, wrap_in (by omega) (by omega)]
theorem frz_cellg {H : Heap} {id id2 ver v2 ty ty2 i off len sz sz2 : Nat} {lz lz2 : Bool} {β : Type} {rows : List (List V)} {r : List V} {m : List β} {g : β → List V} (hne : id2 ≠ id) (h1 : H id = ⟨ver, true, lz, ty, sz, m.map g⟩) (h2 : H id2 = ⟨v2, true, lz2, ty2, sz2, rows.set i r⟩)
    (hi : i < rows.length) (hl : len = m.length) (hc : r[off]? = some (.ms id ver 0 len)) {K : (Nat → V) → Heap → Prop} {T : Nat → V} (h : G K (fzT id H T) (upd (kill id H) id2 ⟨v2, true, lz2, ty2, sz2, rows.set i (r.set off (.sl (m.map g)))⟩)) : G K T H := by
  subst hl
  have hr : (H id2).rows[i]? = some r := by rw [h2]; simp [hi]
  refine .frzCell id ver m.length id2 i off r hne (by rw [h1]) (by rw [h1]) (by rw [h2]; cases rows with
    | nil => simp at hi
    | cons a l => cases i <;> simp [Blk.own]) hr hc ?_
  have e : ({ H id2 with rows := (H id2).rows.set i (r.set off (.sl ((H id).rows.take m.length))) } : Blk) = ⟨v2, true, lz2, ty2, sz2, rows.set i (r.set off (.sl (m.map g)))⟩ := by
    rw [h2, h1]
    simp only [Blk.mk.injEq, true_and, List.set_set]
    rw [show m.length = (m.map g).length by simp, List.take_length]
  rw [e]; exact h
theorem nth_setc {α : Type} [Inhabited α] {f : α → List V} {l : List α} {i j : Nat} {r : List V} (h : i < l.length) (hne : i ≠ j) : ((l.map f).set j r)[i]? = some (f (nth l i)) := by
  rw [List.getElem?_set_ne (Ne.symm hne), List.getElem?_map, nth_eq h]; rfl
theorem own_setc {α : Type} {ver ty sz j : Nat} {lz : Bool} {f : α → List V} {l : List α} {r : List V} (h : 0 < l.length) : okB ⟨ver, true, lz, ty, sz, (l.map f).set j r⟩ ver = true := by
  cases l with
  | nil => simp at h
  | cons a l => cases j <;> simp [okB, Blk.own]
theorem ldB_setc {α : Type} [Inhabited α] {agg : Bool} {n ver ty sz i j off : Nat} {lz : Bool} {f : α → List V} {l : List α} {r : List V} {v : V} (h : i < l.length) (hne : i ≠ j) (hg : ldV agg n ((f (nth l i)).drop off) = some v) :
    ldB agg n ⟨ver, true, lz, ty, sz, (l.map f).set j r⟩ ver i off = some v := by
  unfold ldB
  rw [if_pos (show (_ && _) = true from own_setc (by omega))]
  simp only [nth_setc h hne, Option.bind_some]
  exact hg
theorem ldB_setr {agg : Bool} {n ver ty sz i off : Nat} {lz : Bool} {rows : List (List V)} {r : List V} {v : V} (h : i < rows.length) (hg : ldV agg n (r.drop off) = some v) :
    ldB agg n ⟨ver, true, lz, ty, sz, rows.set i r⟩ ver i off = some v := by
  have ho : okB ⟨ver, true, lz, ty, sz, rows.set i r⟩ ver = true := by
    cases rows with
    | nil => simp at h
    | cons a l => cases i <;> simp [okB, Blk.own]
  unfold ldB
  rw [if_pos (show (_ && _) = true from ho)]
  simp only [List.getElem?_set_self h, Option.bind_some]
  exact hg
theorem stB_setr {n ver ty sz i off : Nat} {lz : Bool} {rows : List (List V)} {r vs : List V} (h : i < rows.length) (hn : vs.length = n) (ho : vs.all V.one = true) (hf : off + n ≤ r.length) :
    stB ⟨ver, true, lz, ty, sz, rows.set i r⟩ ver i off n vs = some ⟨ver, true, lz, ty, sz, rows.set i (putAt r off vs)⟩ := by
  have hok : okB ⟨ver, true, lz, ty, sz, rows.set i r⟩ ver = true := by
    cases rows with
    | nil => simp at h
    | cons a l => cases i <;> simp [okB, Blk.own]
  unfold stB
  rw [if_pos hok, if_pos hn, if_pos ho]
  simp only [List.getElem?_set_self h]
  rw [if_pos hf, List.set_set]
theorem RetFC_1 {T : Nat → V} {H H' : Heap} {s1 : SRes} {u v : V} (h1 : resV T H s1 = some u) (hH : FinH H H') (hv : FinV H H' u v) : Ret [s1] (fun u G => FinH G H' ∧ FinV G H' u v) .ret T H := by
  simp only [Ret, resT, mapO, h1, onS_some]; exact ⟨hH, hv⟩
theorem FinV.agg1 {H H' : Heap} {a a' : V} (h1 : FinV H H' a a') : FinV H H' (.agg [a]) (.agg [a']) := fun x c e hx r => by
  cases r with
  | agg _ cs hs hr =>
    refine .agg _ cs (by simpa using hs) fun j v hj => ?_
    match j, hj with
    | 0, hj => cases hj; exact h1 x _ e hx (hr 0 a rfl)
    | n + 1, hj => simp at hj
end Go.Proofs.Ytmnjchcoigbngaa
namespace Go.Proofs.Ytmnjchcoigbngaa
open Go
abbrev sO (d : Nat) (x : X) : SO := ⟨none, some d, x⟩
abbrev sN (x : X) : SO := ⟨none, none, x⟩
abbrev bk (v : Nat) (ty sz : Nat) (rows : List (List V)) : Blk := ⟨v, true, false, ty, sz, rows⟩
abbrev bz (v : Nat) (ty sz : Nat) (rows : List (List V)) : Blk := ⟨v, true, true, ty, sz, rows⟩
section
variable {P : Program} {k0 d : Nat} {r : List SO} {T : Nat → V} {H : Heap} {K : (Nat → V) → Heap → Prop} {a b : SX} {v : V}
theorem R_callc {f : Nat} {args : List SX} {as0 : List V} (he : evs T args = as0) (hc : PureC P f as0 v) (h : Ops P k0 r (upd T d v) H K)
    (h1 : canonL as0 = true := by simp [-List.map_take, -List.map_drop, -List.map_append, -List.map_reverse]) (h2 : pureL as0 = true := by simp [-List.map_take, -List.map_drop, -List.map_append, -List.map_reverse]) :
    Ops P k0 (⟨none, some d, .call false f args⟩ :: r) T H K := R_call he hc (fzv_mapcanon _ _ h1) h2 (.inl h2) h
theorem R_cpyd {α : Type} {n id ver ty : Nat} {lz : Bool} {rows : List (List V)} {f : α → List V} {l : List α} (ha : ev T a = .ms id ver 0 l.length) (hb : ev T b = .sl (l.map f)) (hH : H id = ⟨ver, true, lz, ty, n, rows⟩) (hlen : rows.length = l.length)
    (hf : ∀ q, (f q).length = n ∧ (f q).all V.one = true)
    (h : Ops P k0 r (upd T d (iV l.length)) (upd H id ⟨ver, true, lz, ty, n, l.map f⟩) K) : Ops P k0 (⟨none, some d, .cpy n a b⟩ :: r) T H K := by
  simp only [Ops, St]
  refine on_some (x := (l.length, upd H id ⟨ver, true, lz, ty, n, l.map f⟩)) ?_ h
  rw [ha, hb]
  have hft : fitRows n (l.map f) = true := by
    unfold fitRows
    rw [List.all_eq_true]
    intro q hq
    obtain ⟨p, _, rfl⟩ := List.mem_map.1 hq
    simp [(hf p).1, (hf p).2]
  simp only [cpyV, hH, rowsOf]
  rw [if_pos (by simp), if_pos ⟨trivial, hlen.symm, trivial⟩, if_pos (by simp), if_pos hft]
theorem R_appendN {α : Type} {ty e bytes id ver n : Nat} {lz : Bool} {l : List α} {f : α → List V} {z : List (List V)} (ha : ev T a = .ms id ver 0 n) (hH : H id = ⟨ver, true, lz, ty, e, l.map f⟩) (hn : n = l.length) (hb : ev T b = .sl z) (hz : fitRows e z = true)
    (h2 : (n + z.length) * bytes ≤ 140737488355328) (h3 : n + z.length ≤ 9223372036854775807)
    (h : Ops P k0 r (upd T d (.ms id (ver + 1) 0 (n + z.length))) (upd H id ⟨ver + 1, true, lz, ty, e, l.map f ++ z⟩) K) : Ops P k0 (⟨none, some d, .append ty e bytes a b⟩ :: r) T H K :=
  R_append ha hH (by simpa using hn) (new := z) (by rw [hb]; rfl) hz h2 h3 h
end
def nz : V → V
  | .nilsl => .sl []
  | v => v
theorem nz_up {x : Cx} {v : V} {c : Value} (r : R x v c) : R x (nz v) c := by
  cases v <;> first | exact r | (generalize hq : V.nilsl = q at r; cases r <;> cases hq; exact .slnil)
theorem row_up {K : (Nat → V) → Heap → Prop} {T : Nat → V} {id i : Nat} {r : List V} : ∀ (j : Nat) {H : Heap} {pre suf : List V}, r = pre ++ suf → suf.length = j → (H id).own = true → (H id).rows[i]? = some (pre.map nz ++ suf) →
    G K T (upd H id { H id with rows := (H id).rows.set i (r.map nz) }) → G K T H := by
  intro j
  induction j with
  | zero =>
    intro H pre suf he hl ho hr h
    have := List.length_eq_zero_iff.1 hl
    subst this
    have e : ({ H id with rows := (H id).rows.set i (r.map nz) } : Blk) = H id := by
      rw [he, List.append_nil]
      rw [List.append_nil] at hr
      have : (H id).rows.set i (pre.map nz) = (H id).rows := by
        have hi := (List.getElem?_eq_some_iff.1 hr).1
        have := (List.getElem?_eq_some_iff.1 hr).2
        rw [← this, List.set_getElem_self]
      rw [this]
    rw [e] at h
    have e2 : upd H id (H id) = H := funext fun k => by unfold upd; split <;> simp_all
    rw [e2] at h; exact h
  | succ j ih =>
    intro H pre suf he hl ho hr h
    cases suf with
    | nil => simp at hl
    | cons v s =>
      refine .cell id i pre.length v (nz v) (pre.map nz ++ v :: s) ho hr (by simp) (fun x c r => nz_up r) ?_
      have hi := (List.getElem?_eq_some_iff.1 hr).1
      have e1 : (pre.map nz ++ v :: s).set pre.length (nz v) = (pre ++ [v]).map nz ++ s := by
        rw [List.set_append_right _ _ (by simp)]
        simp
      have ho2 : ({ H id with rows := (H id).rows.set i ((pre.map nz ++ v :: s).set pre.length (nz v)) } : Blk).own = true := by
        unfold Blk.own at ho ⊢
        cases hq : (H id).rows with
        | nil => rw [hq] at hi; simp at hi
        | cons a l => rw [hq] at ho; cases i <;> simpa using ho
      refine ih (H := upd H id { H id with rows := (H id).rows.set i ((pre.map nz ++ v :: s).set pre.length (nz v)) }) (pre := pre ++ [v]) (suf := s) (by rw [he]; simp) (by simpa using hl) (by rw [upd_same]; exact ho2) (by rw [upd_same, e1]; simp [hi]) ?_
      rw [upd_same]
      have e3 : upd (upd H id { H id with rows := (H id).rows.set i ((pre.map nz ++ v :: s).set pre.length (nz v)) }) id { H id with rows := ((H id).rows.set i ((pre.map nz ++ v :: s).set pre.length (nz v))).set i (r.map nz) } = upd H id { H id with rows := (H id).rows.set i (r.map nz) } := by
        funext k
        by_cases e : k = id
        · subst e; simp only [upd_same, List.set_set]
        · simp only [upd_ne _ _ e]
      rw [e3]; exact h
theorem own_ne {ver ty sz : Nat} {lz : Bool} {rows : List (List V)} (h : rows ≠ []) : (⟨ver, true, lz, ty, sz, rows⟩ : Blk).own = true := by
  cases rows with
  | nil => exact (h rfl).elim
  | cons a l => simp [Blk.own]
theorem nzs_map {K : (Nat → V) → Heap → Prop} {T : Nat → V} {H : Heap} {id i ver ty sz : Nat} {lz : Bool} {rows : List (List V)} {r r' : List V} (hH : H id = ⟨ver, true, lz, ty, sz, rows.set i r⟩) (hi : i < rows.length) (hr : r.map nz = r')
    (h : G K T (upd H id ⟨ver, true, lz, ty, sz, rows.set i r'⟩)) : G K T H := by
  refine row_up (id := id) (i := i) (r := r) r.length (pre := []) (suf := r) rfl rfl ?_ ?_ ?_
  · rw [hH]
    refine own_ne fun e => ?_
    have := congrArg List.length e
    simp at this; subst this; simp at hi
  · rw [hH]; simp [hi]
  · rw [hH]; simp only [List.set_set]; rw [hr]; exact h
theorem nza_raw {K : (Nat → V) → Heap → Prop} {T : Nat → V} {id ver ty sz : Nat} {lz : Bool} : ∀ {raw : List (List V)} {H : Heap} {pre : List (List V)}, H id = ⟨ver, true, lz, ty, sz, pre ++ raw⟩ →
    G K T (upd H id ⟨ver, true, lz, ty, sz, pre ++ raw.map (List.map nz)⟩) → G K T H := by
  intro raw
  induction raw with
  | nil =>
    intro H pre hH h
    have e2 : upd H id (H id) = H := funext fun k => by unfold upd; split <;> simp_all
    rw [List.map_nil, ← hH, e2] at h; exact h
  | cons r raw ih =>
    intro H pre hH h
    refine row_up (id := id) (i := pre.length) (r := r) r.length (pre := []) (suf := r) rfl rfl (by rw [hH]; exact own_ne (by simp)) (by rw [hH]; simp) ?_
    refine ih (pre := pre ++ [r.map nz]) (by rw [upd_same, hH]; simp only [Blk.mk.injEq, true_and]; rw [List.set_append_right _ _ (Nat.le_refl _)]; simp) ?_
    have e3 : ∀ b c : Blk, upd (upd H id b) id c = upd H id c := fun b c => funext fun k => by
      by_cases e : k = id
      · subst e; simp only [upd_same]
      · simp only [upd_ne _ _ e]
    rw [e3]
    simpa using h
theorem nza_map {α : Type} {K : (Nat → V) → Heap → Prop} {T : Nat → V} {H : Heap} {id ver ty sz : Nat} {lz : Bool} {l m : List α} {f : α → List V} {raw : List (List V)} (hH : H id = ⟨ver, true, lz, ty, sz, l.map f ++ raw⟩) (hr : raw.map (List.map nz) = m.map f)
    (h : G K T (upd H id ⟨ver, true, lz, ty, sz, (l ++ m).map f⟩)) : G K T H := by
  refine nza_raw hH ?_
  rw [hr, ← List.map_append]; exact h
end Go.Proofs.Ytmnjchcoigbngaa
namespace Go.Proofs.Ytmnjchcoigbngaa
open Go
section
variable {P : Program} {k0 : Nat} {Q : Ex → (Nat → V) → Heap → Prop} {T : Nat → V} {H : Heap}
theorem W_r {ops : List SO} {b : SC} (h : Ops P k0 ops T H fun T H => W P k0 b Q T H) : W P k0 (.seq (.reg ops) b) Q T H :=
  ⟨k0, Ops_mono (fun _ _ h => .done h) h⟩
theorem W_t {ops : List SO} (h : Ops P k0 ops T H fun T H => Q .norm T H) : W P k0 (.reg ops) Q T H := ⟨k0, h⟩
theorem W_d {ops : List SO} {b : SC} {late : List Nat} (hl : ∀ d ∈ late, (H (k0 + d)).live = false) (h : Ops P k0 ops T H fun T H => W P k0 b Q T H) : W P k0 (.seq (.dreg late ops) b) Q T H :=
  ⟨k0, hl, Ops_mono (fun _ _ h => .done h) h⟩
theorem W_dt {ops : List SO} {late : List Nat} (hl : ∀ d ∈ late, (H (k0 + d)).live = false) (h : Ops P k0 ops T H fun T H => Q .norm T H) : W P k0 (.dreg late ops) Q T H := ⟨k0, hl, h⟩
end
theorem lateN {H : Heap} {k0 : Nat} : ∀ d ∈ ([] : List Nat), (H (k0 + d)).live = false := fun _ h => by simp at h
theorem lateC {H : Heap} {k0 d : Nat} {l : List Nat} (h : (H (k0 + d)).live = false) (hl : ∀ d ∈ l, (H (k0 + d)).live = false) : ∀ x ∈ d :: l, (H (k0 + x)).live = false := by
  intro x hx
  rcases List.mem_cons.1 hx with rfl | hx
  · exact h
  · exact hl _ hx
theorem oB {ver ty sz : Nat} {rows : List (List V)} : okB ⟨ver, true, false, ty, sz, rows⟩ ver = true := by simp [okB, Blk.own]
theorem lB {agg : Bool} {n ver row off : Nat} {B : Blk} {r : List V} {v : V} (ho : okB B ver = true) (hr : B.rows[row]? = some r) (hv : ldV agg n (r.drop off) = some v) : ldB agg n B ver row off = some v := by
  unfold ldB; rw [if_pos (show (B.own && decide (B.ver = ver)) = true from ho), hr]; exact hv
theorem sB {n ver row off : Nat} {B B' : Blk} {r vs : List V} (ho : okB B ver = true) (hn : vs.length = n) (ha : vs.all V.one = true) (hr : B.rows[row]? = some r) (hl : Nat.ble (off + n) r.length = true) (hB : { B with rows := B.rows.set row (putAt r off vs) } = B') : stB B ver row off n vs = some B' := by
  unfold stB; rw [if_pos ho, if_pos hn, if_pos ha, hr]; dsimp only; rw [if_pos (Nat.le_of_ble_eq_true hl), hB]
theorem R_e {P : Program} {k0 : Nat} {T : Nat → V} {H : Heap} {K : (Nat → V) → Heap → Prop} (h : K T H) : Ops P k0 [] T H K := h
end Go.Proofs.Ytmnjchcoigbngaa
namespace Go.Proofs.Ytmnjchcoigbngaa
open Go
theorem pW {P : Program} {op : Opt} {f : Nat} {fn : Func} {s : SF} {args : List V} {v : V} {B : Prop} (hf : P.funcs[f]? = some fn) (hs : slimF P op fn = some s)
    (hW : B → W P 0 s.body (Ret s.res fun u G => fzv true G 6 u = v) (T0 args) H0) (hn : (fn.name == "runtime.NumGoroutine") = false := by kernel_rfl)
    (hl : Nat.ble args.length s.n = true := by rfl) (ha : pureL args = true := by simp) (hv : v.pure = true := by simp)
    (hb : bndL args = true → B := by intro hB; first | (simp only [bnd_map, bnd_int, bnd_bool, bnd_str, bnd_agg, bnd_pp, bnd_nil, bnd_cons, implies_true, and_true, true_and] at hB; exact hB) | exact (fun _ => trivial) hB) : PureC P f args v :=
  pure_of_Wb true 6 hf hs hn (Nat.le_of_ble_eq_true hl) ha hv fun h => hW (hb h)
theorem eW {P : Program} {op : Opt} {k0 f : Nat} {fn : Func} {s : SF} {args : List V} {H : Heap} {v : V} {H' : Heap} {B : Prop} (hf : P.funcs[f]? = some fn) (hs : slimF P op fn = some s)
    (hW : B → W P k0 s.body (Ret s.res fun u G => FinH G H' ∧ FinV G H' u v) (T0 args) H) (hn : (fn.name == "runtime.NumGoroutine") = false := by kernel_rfl)
    (hl : Nat.ble args.length s.n = true := by rfl)
    (hb : bndL args = true → B := by intro hB; first | (simp only [bnd_map, bnd_int, bnd_bool, bnd_str, bnd_agg, bnd_pp, bnd_nil, bnd_cons, implies_true, and_true, true_and] at hB; exact hB) | exact (fun _ => trivial) hB) : CallOK P f args H v H' :=
  CallOK_of_Wf hf hs hn (Nat.le_of_ble_eq_true hl) fun h => hW (hb h)
theorem edT {x : V} {p : Prop} [Decidable p] (h : p) (hx : x = V.bool (decide p)) : x = V.bool true := by rw [hx]; simp [h]
theorem edF {x : V} {p : Prop} [Decidable p] (h : ¬p) (hx : x = V.bool (decide p)) : x = V.bool false := by rw [hx]; simp [h]
theorem ebT {x : V} {b : Bool} (h : b = true) (hx : x = V.bool b) : x = V.bool true := by rw [hx, h]
theorem ebF {x : V} {b : Bool} (h : ¬b = true) (hx : x = V.bool b) : x = V.bool false := by rw [hx, Bool.eq_false_iff.2 h]
theorem G_n {P : Program} {k0 d t : Nat} {r : List SO} {T : Nat → V} {H : Heap} {K : (Nat → V) → Heap → Prop} {w : Bool} {q : X} (ht : T t = .bool (!w)) (h : Ops P k0 r (upd T d (.raw undef)) H K) :
    Ops P k0 (⟨some (t, w), some d, q⟩ :: r) T H K := G_no ht (by cases w <;> decide) h
theorem stB_sets {n ver ty sz i : Nat} {lz : Bool} {rows : List (List V)} {r vs : List V} (hi : rows[i]? = some r) (hr : r.length = n) (hn : vs.length = n) (ho : vs.all V.one = true) :
    stB ⟨ver, true, lz, ty, sz, rows⟩ ver i 0 n vs = some ⟨ver, true, lz, ty, sz, rows.set i vs⟩ := by
  have hok : okB ⟨ver, true, lz, ty, sz, rows⟩ ver = true := by
    cases rows with
    | nil => simp at hi
    | cons a l => simp [okB, Blk.own]
  have hp : putAt r 0 vs = vs := putAt_full vs [] r (by rw [hr, hn])
  unfold stB
  rw [if_pos hok, if_pos hn, if_pos ho, hi]
  dsimp only
  rw [if_pos (by omega), hp]
theorem sets_back {α : Type} [Inhabited α] {f : α → List V} {l : List α} {i j : Nat} {r s : List V} (hi : i < l.length) (hne : i ≠ j) (hs : s = f (nth l i)) : ((l.map f).set j r).set i s = (l.map f).set j r := by
  have h := nth_setc (f := f) (r := r) hi hne
  obtain ⟨h1, h2⟩ := List.getElem?_eq_some_iff.1 h
  rw [hs, ← h2, List.set_getElem_self]
section
variable {P : Program} {k0 : Nat} {Q : Ex → (Nat → V) → Heap → Prop} {T : Nat → V} {H : Heap}
theorem W_rk (k1 : Nat) {ops : List SO} {b : SC} (h : Ops P k1 ops T H fun T H => W P k0 b Q T H) : W P k0 (.seq (.reg ops) b) Q T H := ⟨k1, Ops_mono (fun _ _ h => .done h) h⟩
theorem W_dtk (k1 : Nat) {ops : List SO} {late : List Nat} (hl : ∀ d ∈ late, (H (k1 + d)).live = false) (h : Ops P k1 ops T H fun T H => Q .norm T H) : W P k0 (.dreg late ops) Q T H := ⟨k1, hl, h⟩
end
end Go.Proofs.Ytmnjchcoigbngaa
namespace Go.Proofs.Ytmnjchcoigbngaa
open Go Go.Proofs
def r3_4 : List SO := [
 sO 20 (.load true 1 (.t 2)),
 sO 21 (.fld 0 (.t 3)),
 sO 22 (.load false 1 (.t 21)),
 sO 23 (.fld 1 (.t 3)),
 sO 24 (.load false 1 (.t 23)),
 sO 25 (.fld 2 (.t 3)),
 sO 26 (.load false 1 (.t 25)),
 sO 27 (.fld 3 (.t 3)),
 sO 28 (.load false 1 (.t 27)),
 sO 29 (.fld 4 (.t 3)),
 sO 30 (.load false 1 (.t 29)),
 sO 31 (.call false 8 [.t 20, .t 22, .t 24, .t 26, .t 28, .t 30]),
 sO 19 (.mv (.t 31)),
 sO 32 (.ext (.t 19) 0),
 sO 33 (.ext (.t 19) 1),
 sO 6 (.alloc 24 [.nilsl]),
 sN (.store 1 (.t 6) (.t 32)),
 sO 7 (.mv (.t 33))]
def r3_5 : List SO := [
 sO 35 (.load true 1 (.t 2)),
 sO 36 (.fld 0 (.t 3)),
 sO 37 (.load false 1 (.t 36)),
 sO 38 (.fld 2 (.t 3)),
 sO 39 (.load false 1 (.t 38)),
 sO 40 (.fld 3 (.t 3)),
 sO 41 (.load false 1 (.t 40)),
 sO 42 (.call false 9 [.t 35, .t 37, .t 39, .t 41]),
 sO 34 (.mv (.t 42)),
 sO 43 (.ext (.t 34) 0),
 sO 44 (.ext (.t 34) 1),
 sO 8 (.alloc 24 [.nilsl]),
 sN (.store 1 (.t 8) (.t 43)),
 sO 9 (.mv (.t 44))]
def r3_6 : List SO := [
 sO 45 (.mv (.t 7)),
 sO 46 (.bin .eql (.t 45) (.c (.int .i64 0))),
 sO 47 (.mv (.t 46)),
 ⟨some (47, true), some 48, .load true 1 (.t 6)⟩,
 ⟨some (47, true), some 49, .call false 10 [.t 48]⟩,
 ⟨some (47, true), some 50, .bin .neq (.t 49) (.c (.int .i64 0))⟩,
 ⟨some (47, true), some 51, .mv (.t 50)⟩,
 ⟨some (51, false), some 52, .mv (.t 5)⟩,
 ⟨some (51, false), some 53, .load true 1 (.t 6)⟩,
 ⟨some (51, false), some 54, .call false 7 [.t 53]⟩,
 ⟨some (51, false), some 55, .fld 3 (.t 3)⟩,
 ⟨some (51, false), some 56, .load false 1 (.t 55)⟩,
 ⟨some (51, false), some 57, .call false 11 [.t 52, .t 54, .t 56]⟩,
 ⟨some (51, false), some 58, .un .not (.t 57)⟩,
 ⟨some (47, true), some 59, .pick (.t 51) (.c (.bool true)) (.t 58)⟩,
 sO 60 (.pick (.t 47) (.t 59) (.c (.bool false)))]
def r3_8 : List SO := [
 sO 61 (.mv (.t 9)),
 sO 62 (.bin .eql (.t 61) (.c (.int .i64 0))),
 sO 63 (.mv (.t 62)),
 ⟨some (63, true), some 64, .load true 1 (.t 8)⟩,
 ⟨some (63, true), some 65, .call false 10 [.t 64]⟩,
 ⟨some (63, true), some 66, .bin .neq (.t 65) (.c (.int .i64 0))⟩,
 ⟨some (63, true), some 67, .mv (.t 66)⟩,
 ⟨some (67, false), some 68, .mv (.t 5)⟩,
 ⟨some (67, false), some 69, .load true 1 (.t 8)⟩,
 ⟨some (67, false), some 70, .call false 7 [.t 69]⟩,
 ⟨some (67, false), some 71, .fld 3 (.t 3)⟩,
 ⟨some (67, false), some 72, .load false 1 (.t 71)⟩,
 ⟨some (67, false), some 73, .call false 11 [.t 68, .t 70, .t 72]⟩,
 ⟨some (67, false), some 74, .un .not (.t 73)⟩,
 ⟨some (63, true), some 75, .pick (.t 67) (.c (.bool true)) (.t 74)⟩,
 sO 76 (.pick (.t 63) (.t 75) (.c (.bool false)))]
def r3_10 : List SO := [
 sO 77 (.mv (.t 7)),
 sO 78 (.bin .neq (.t 77) (.c (.int .i64 0))),
 sO 79 (.mv (.t 78)),
 ⟨some (79, false), some 80, .mv (.t 9)⟩,
 ⟨some (79, false), some 81, .bin .neq (.t 80) (.c (.int .i64 0))⟩,
 sO 82 (.pick (.t 79) (.c (.bool true)) (.t 81)),
 sO 83 (.mv (.t 82)),
 ⟨some (83, true), some 84, .call false 6 []⟩,
 sO 85 (.pick (.t 83) (.t 84) (.c (.bool false))),
 sO 4 (.mv (.t 85))]
def s3 : SF := ⟨86, [.tmp 4], .seq (.reg [sO 2 (.box 24 1 (.t 0)), sO 3 (.box 27 5 (.t 1)), sO 4 (.mv (.c (.bool false)))]) (.seq (.seq (.reg [sO 10 (.load true 1 (.t 2)), sO 11 (.call false 4 [.t 10]), sO 12 (.mv (.t 11)), ⟨some (12, false), some 13, .load true 5 (.t 3)⟩, ⟨some (12, false), some 14, .call false 5 [.t 13]⟩, sO 15 (.pick (.t 12) (.c (.bool true)) (.t 14))]) (.cond (.t 15) (.seq (.reg [sO 16 (.call false 6 []), sO 4 (.mv (.t 16))]) (.ret)) (.skip))) (.seq (.reg [sO 17 (.load true 1 (.t 2)), sO 18 (.call false 7 [.t 17]), sO 5 (.mv (.t 18))]) (.seq (.reg r3_4) (.seq (.reg r3_5) (.seq (.seq (.reg r3_6) (.cond (.t 60) (.seq (.reg [sO 4 (.mv (.c (.bool false)))]) (.ret)) (.skip))) (.seq (.seq (.reg r3_8) (.cond (.t 76) (.seq (.reg [sO 4 (.mv (.c (.bool false)))]) (.ret)) (.skip))) (.seq (.reg r3_10) (.ret))))))))⟩
theorem s3_ok : slimF Try.prog ⟨[22, 25, 26, 31, 32, 67, 68, 69, 73, 79, 81, 86], []⟩ Try.f3 = some s3 := by kernel_rfl
def r4_6 : List SO := [
 sO 17 (.fld 0 (.t 1)),
 sO 18 (.load false 1 (.t 17)),
 sO 19 (.mv (.t 3)),
 sO 20 (.idx 5 (.t 18) (.t 19)),
 sO 21 (.load true 5 (.t 20)),
 sO 4 (.alloc 41 [.bool false, .nilsl, .nilsl, .nilsl, .nilsl]),
 sN (.store 5 (.t 4) (.t 21))]
def r4_7 : List SO := [
 sO 22 (.fld 1 (.t 4)),
 sO 23 (.load false 1 (.t 22)),
 sO 24 (.len (.t 23)),
 sO 25 (.bin .gtr (.t 24) (.c (.int .i64 1100))),
 sO 26 (.mv (.t 25)),
 ⟨some (26, false), some 27, .fld 2 (.t 4)⟩,
 ⟨some (26, false), some 28, .load false 1 (.t 27)⟩,
 ⟨some (26, false), some 29, .len (.t 28)⟩,
 ⟨some (26, false), some 30, .bin .gtr (.t 29) (.c (.int .i64 1100))⟩,
 sO 31 (.pick (.t 26) (.c (.bool true)) (.t 30)),
 sO 32 (.mv (.t 31)),
 ⟨some (32, false), some 33, .fld 3 (.t 4)⟩,
 ⟨some (32, false), some 34, .load false 1 (.t 33)⟩,
 ⟨some (32, false), some 35, .len (.t 34)⟩,
 ⟨some (32, false), some 36, .bin .gtr (.t 35) (.c (.int .i64 40))⟩,
 sO 37 (.pick (.t 32) (.c (.bool true)) (.t 36)),
 sO 38 (.mv (.t 37)),
 ⟨some (38, false), some 39, .fld 4 (.t 4)⟩,
 ⟨some (38, false), some 40, .load false 1 (.t 39)⟩,
 ⟨some (38, false), some 41, .len (.t 40)⟩,
 ⟨some (38, false), some 42, .bin .gtr (.t 41) (.c (.int .i64 40))⟩,
 sO 43 (.pick (.t 38) (.c (.bool true)) (.t 42))]
def r4_12 : List SO := [
 sO 51 (.fld 3 (.t 4)),
 sO 52 (.load false 1 (.t 51)),
 sO 53 (.mv (.t 5)),
 sO 54 (.idx 1 (.t 52) (.t 53)),
 sO 55 (.load false 1 (.t 54)),
 sO 56 (.len (.t 55)),
 sO 57 (.bin .gtr (.t 56) (.c (.int .i64 1100)))]
def b4_1 : SC := .seq (.seq (.reg [sO 44 (.mv (.t 5)), sO 45 (.fld 3 (.t 4)), sO 46 (.load false 1 (.t 45)), sO 47 (.len (.t 46)), sO 48 (.bin .lss (.t 44) (.t 47))]) (.cond (.t 48) (.skip) (.exit 2))) (.seq (.block 3 (.seq (.reg r4_12) (.cond (.t 57) (.seq (.reg [sO 2 (.mv (.c (.bool true)))]) (.ret)) (.skip)))) (.reg [sO 49 (.mv (.t 5)), sO 50 (.bin .add (.t 49) (.c (.int .i64 1))), sO 5 (.mv (.t 50))]))
def b4_0 : SC := .seq (.seq (.reg [sO 10 (.mv (.t 3)), sO 11 (.fld 0 (.t 1)), sO 12 (.load false 1 (.t 11)), sO 13 (.len (.t 12)), sO 14 (.bin .lss (.t 10) (.t 13))]) (.cond (.t 14) (.skip) (.exit 0))) (.seq (.block 1 (.seq (.reg r4_6) (.seq (.seq (.reg r4_7) (.cond (.t 43) (.seq (.reg [sO 2 (.mv (.c (.bool true)))]) (.ret)) (.skip))) (.seq (.reg [sO 5 (.mv (.c (.int .i64 0)))]) (.block 2 (.loop b4_1)))))) (.reg [sO 15 (.mv (.t 3)), sO 16 (.bin .add (.t 15) (.c (.int .i64 1))), sO 3 (.mv (.t 16))]))
def s4 : SF := ⟨58, [.tmp 2], .seq (.reg [sO 1 (.box 24 1 (.t 0)), sO 2 (.mv (.c (.bool false)))]) (.seq (.seq (.reg [sO 6 (.fld 0 (.t 1)), sO 7 (.load false 1 (.t 6)), sO 8 (.len (.t 7)), sO 9 (.bin .gtr (.t 8) (.c (.int .i64 40)))]) (.cond (.t 9) (.seq (.reg [sO 2 (.mv (.c (.bool true)))]) (.ret)) (.skip))) (.seq (.seq (.reg [sO 3 (.mv (.c (.int .i64 0)))]) (.block 0 (.loop b4_0))) (.seq (.reg [sO 2 (.mv (.c (.bool false)))]) (.ret))))⟩
theorem s4_ok : slimF Try.prog ⟨[22, 25, 26, 31, 32, 67, 68, 69, 73, 79, 81, 86], []⟩ Try.f4 = some s4 := by kernel_rfl
end Go.Proofs.Ytmnjchcoigbngaa
namespace Go.Proofs.Ytmnjchcoigbngaa
open Go
theorem hp_len {a p : List Int} (h : hp a p = true) : p.length ≤ a.length := by
  simp only [hp, decide_eq_true_eq] at h
  have := cmn_l a p; omega
def ansL : List Tr → List Int → Option (List Int)
  | [], _ => none
  | t :: l, w => if hp t.ni w then some (t.no.take w.length) else ansL l w
def ans (o : Ob) (w : List Int) : Option (List Int) := if w = [] then some [] else ansL o.tr w
theorem OK.mem {o : Ob} (ok : OK o) {t : Tr} (ht : t ∈ o.tr) : Proper t o.i ∧ 0 < t.ni.length := by
  obtain ⟨k, hk, rfl⟩ := mem_nth ht; exact ok.pr k hk
theorem OK.same {o : Ob} (ok : OK o) {s t : Tr} (hs : s ∈ o.tr) (ht : t ∈ o.tr) {j : Nat} (hj : j < cmn s.ni t.ni) : nth s.no j = nth t.no j := by
  obtain ⟨a, ha, rfl⟩ := mem_nth hs
  obtain ⟨b, hb, rfl⟩ := mem_nth ht
  have key : ∀ a b, a < b → b < o.tr.length → ∀ j, j < cmn (nth o.tr a).ni (nth o.tr b).ni → nth (nth o.tr a).no j = nth (nth o.tr b).no j := by
    intro a b hab hb j hj
    by_cases e : nth (nth o.tr a).no j = nth (nth o.tr b).no j
    · exact e
    · have h1 := ok.cla a b hab hb
      have h2 := df_iff.2 ⟨j, hj, e⟩
      omega
  by_cases e : a = b
  · subst e; rfl
  · by_cases h : a < b
    · exact key a b h hb j hj
    · rw [cmn_comm] at hj
      exact (key b a (by omega) ha j hj).symm
def Ap (o : Ob) (u v x : List Int) : Prop :=
  x ≠ [] ∧ ∃ s ∈ o.tr, ∃ t ∈ o.tr, hp s.ni (u ++ x) = true ∧ hp t.ni (v ++ x) = true ∧ nth s.no (u.length + x.length - 1) ≠ nth t.no (v.length + x.length - 1)
theorem Ap.symm {o : Ob} {u v x : List Int} (h : Ap o u v x) : Ap o v u x := by
  obtain ⟨h1, s, hs, t, ht, h2, h3, h4⟩ := h
  exact ⟨h1, t, ht, s, hs, h3, h2, fun e => h4 e.symm⟩
structure Covers (o : Ob) (u v : List Int) (l : List (List Int)) : Prop where
  sound : ∀ x ∈ l, Ap o u v x
  full : ∀ x, Ap o u v x → ∃ y ∈ l, slx y x ≤ 0
end Go.Proofs.Ytmnjchcoigbngaa
namespace Go.Proofs.Ytmnjchcoigbngaa
open Go Go.Sort
theorem sorted_uniq {α : Type} {le : α → α → Prop} : ∀ {l m : List α}, (∀ a ∈ l, ∀ b ∈ l, le a b → le b a → a = b) → l.Perm m → l.Pairwise le → m.Pairwise le → l = m
  | [], m, _, hp, _, _ => (List.perm_nil.1 hp.symm).symm
  | a :: l, [], _, hp, _, _ => (List.cons_ne_nil _ _ (List.perm_nil.1 hp)).elim
  | a :: l, b :: m, anti, hp, h1, h2 => by
    have hb : b ∈ a :: l := hp.mem_iff.2 (List.mem_cons_self ..)
    have ha : a ∈ b :: m := hp.mem_iff.1 (List.mem_cons_self ..)
    have e : a = b := by
      rcases List.mem_cons.1 hb with e | hb'
      · exact e.symm
      · rcases List.mem_cons.1 ha with e | ha'
        · exact e
        · exact anti a (List.mem_cons_self ..) b hb ((List.pairwise_cons.1 h1).1 b hb') ((List.pairwise_cons.1 h2).1 a ha')
    subst e
    rw [sorted_uniq (fun x hx y hy => anti x (List.mem_cons_of_mem _ hx) y (List.mem_cons_of_mem _ hy)) (List.Perm.cons_inv hp) (List.pairwise_cons.1 h1).2 (List.pairwise_cons.1 h2).2]
def srt {α : Type} (cmp : α → α → Int) (l : List α) : List α := l.mergeSort fun a b => decide (¬cmp b a < 0)
theorem srt_perm {α : Type} (cmp : α → α → Int) (l : List α) : (srt cmp l).Perm l := List.mergeSort_perm l _
theorem srt_sorted {α : Type} {cmp : α → α → Int} (hO : SWO fun a b => decide (cmp a b < 0)) (l : List α) : (srt cmp l).Pairwise fun a b => ¬cmp b a < 0 := by
  have := List.pairwise_mergeSort (le := fun a b => decide (¬cmp b a < 0)) (fun a b c h1 h2 => by
    have h := hO.ntrans c b a (by simpa using h2) (by simpa using h1)
    simpa using h) (fun a b => by
    cases h : decide (cmp b a < 0) with
    | false => simp at h; simp [h]
    | true =>
      cases h' : decide (cmp a b < 0) with
      | false => simp at h'; simp [h']
      | true =>
        have := hO.trans a b a h' h
        rw [hO.irrefl a] at this; cases this) l
  exact this.imp fun h => by simpa using h
end Go.Proofs.Ytmnjchcoigbngaa
namespace Go.Proofs.Ytmnjchcoigbngaa
open Go Go.Sort
theorem srt_len {α : Type} (cmp : α → α → Int) (l : List α) : (srt cmp l).length = l.length := by simp [srt]
theorem OK.lt_of {o : Ob} (h : ∀ k, k + 1 < o.tr.length → slx (nth o.tr k).ni (nth o.tr (k + 1)).ni < 0) : ∀ {i k : Nat}, i < k → k < o.tr.length → slx (nth o.tr i).ni (nth o.tr k).ni < 0 := by
  intro i k hik hk
  induction k with
  | zero => omega
  | succ k ih =>
    by_cases e : i = k
    · subst e; exact h i hk
    · exact slx_trans (ih (by omega) (by omega)) (h k hk)
end Go.Proofs.Ytmnjchcoigbngaa
namespace Go.Proofs.Ytmnjchcoigbngaa
open Go.Sort
theorem slx_le {a b : List Int} : ¬slx a b < 0 ↔ slx b a ≤ 0 := by
  constructor
  · intro h
    by_cases e : slx a b = 0
    · rw [slx_zero.1 e, slx_zero.2 rfl]; omega
    · have := slx_pos (a := a) (b := b) (by omega); omega
  · intro h q
    have := slx_neg q; omega
theorem slx_swo : SWO fun a b : List Int => decide (slx a b < 0) where
  irrefl a := by rw [slx_zero.2 rfl]; decide
  trans a b c h1 h2 := by simp only [decide_eq_true_eq] at *; exact slx_trans h1 h2
  ntrans a b c h1 h2 := by
    simp only [decide_eq_false_iff_not, slx_le] at *
    exact slx_tr h2 h1
theorem slx_same {a b : List Int} (h1 : ¬slx a b < 0) (h2 : ¬slx b a < 0) : a = b := slx_anti (slx_le.1 h2) (slx_le.1 h1)
theorem slx_irr (a : List Int) : ¬slx a a < 0 := by rw [slx_zero.2 rfl]; omega
def SrtW (l : List (List Int)) : Prop := l.Pairwise fun a b => slx a b < 0
theorem srtW_ext : ∀ {l m : List (List Int)}, SrtW l → SrtW m → (∀ u, u ∈ l ↔ u ∈ m) → l = m
  | [], [], _, _, _ => rfl
  | [], b :: m, _, _, h => by have := (h b).2 (by simp); simp at this
  | a :: l, [], _, _, h => by have := (h a).1 (by simp); simp at this
  | a :: l, b :: m, hl, hm, h => by
    obtain ⟨l1, l2⟩ := List.pairwise_cons.1 hl
    obtain ⟨m1, m2⟩ := List.pairwise_cons.1 hm
    have e : a = b := by
      rcases List.mem_cons.1 ((h a).1 (by simp)) with e | e
      · exact e
      · rcases List.mem_cons.1 ((h b).2 (by simp)) with g | g
        · exact g.symm
        · exact (slx_irr a (slx_trans (l1 b g) (m1 a e))).elim
    subst e
    rw [srtW_ext l2 m2 fun u => ?_]
    constructor
    · intro hu
      rcases List.mem_cons.1 ((h u).1 (List.mem_cons_of_mem _ hu)) with e | e
      · subst e; exact (slx_irr _ (l1 _ hu)).elim
      · exact e
    · intro hu
      rcases List.mem_cons.1 ((h u).2 (List.mem_cons_of_mem _ hu)) with e | e
      · subst e; exact (slx_irr _ (m1 _ hu)).elim
      · exact e
def plP (w u : List Int) : Bool := decide (slx u w < 0)
def plN (l : List (List Int)) (w : List Int) : Nat := (l.takeWhile (plP w)).length
theorem pl_cons {w a : List Int} {l : List (List Int)} : plN (a :: l) w = if plP w a = true then plN l w + 1 else 0 := by
  unfold plN; rw [List.takeWhile_cons]; split <;> rfl
theorem pl_le {w : List Int} : ∀ l : List (List Int), plN l w ≤ l.length
  | [] => Nat.le_refl _
  | a :: l => by rw [pl_cons]; have := pl_le (w := w) l; split <;> simp <;> omega
theorem pl_iff {w : List Int} : ∀ {l : List (List Int)} (_ : SrtW l) {k : Nat}, k < l.length → (slx (nth l k) w < 0 ↔ k < plN l w)
  | [], _, k, hk => by simp at hk
  | a :: l, h, k, hk => by
    rw [pl_cons]
    obtain ⟨h1, h2⟩ := List.pairwise_cons.1 h
    by_cases e : plP w a = true
    · rw [if_pos e]
      cases k with
      | zero => rw [nth_zero]; simp only [plP, decide_eq_true_eq] at e; exact ⟨fun _ => by omega, fun _ => e⟩
      | succ k => rw [nth_succ, pl_iff h2 (by simpa using hk)]; omega
    · rw [if_neg e]
      simp only [plP, decide_eq_true_eq] at e
      refine ⟨fun h3 => ?_, fun h3 => by omega⟩
      cases k with
      | zero => exact (e h3).elim
      | succ k =>
        rw [nth_succ] at h3
        exact (e (slx_trans (h1 _ (nth_mem (by simpa using hk))) h3)).elim
def wiH (l : List (List Int)) (w : List Int) : Prop := plN l w < l.length ∧ nth l (plN l w) = w
instance (l : List (List Int)) (w : List Int) : Decidable (wiH l w) := inferInstanceAs (Decidable (_ ∧ _))
def wiW (l : List (List Int)) (w : List Int) : List (List Int) := if wiH l w then l else l.take (plN l w) ++ w :: l.drop (plN l w)
def sdW (l : List (List Int)) : List (List Int) := l.foldl wiW []
theorem sdW_take {l : List (List Int)} {k : Nat} (h : k < l.length) : sdW (l.take (k + 1)) = wiW (sdW (l.take k)) (nth l k) := by
  unfold sdW; rw [take_succ_nth h, List.foldl_append]; rfl
theorem mem_wiW {l : List (List Int)} {w u : List Int} : u ∈ wiW l w ↔ u ∈ l ∨ u = w := by
  unfold wiW
  split
  · rename_i h
    refine ⟨.inl, fun q => q.elim id fun e => ?_⟩
    rw [e]
    have := nth_mem h.1
    rwa [h.2] at this
  · have e : ∀ u, u ∈ l ↔ u ∈ l.take (plN l w) ∨ u ∈ l.drop (plN l w) := fun u => by rw [← List.mem_append, List.take_append_drop]
    rw [List.mem_append, List.mem_cons, e]
    exact ⟨fun h => h.elim (fun h => .inl (.inl h)) fun h => h.elim .inr fun h => .inl (.inr h), fun h => h.elim (fun h => h.elim .inl fun h => .inr (.inr h)) fun h => .inr (.inl h)⟩
theorem wiW_srt {l : List (List Int)} (h : SrtW l) (w : List Int) : SrtW (wiW l w) := by
  unfold wiW
  split
  · exact h
  · rename_i hn
    have hsp := h
    unfold SrtW at hsp
    rw [← List.take_append_drop (plN l w) l, List.pairwise_append] at hsp
    obtain ⟨p1, p2, p3⟩ := hsp
    have hle := pl_le (w := w) l
    have lo : ∀ a ∈ l.take (plN l w), slx a w < 0 := fun a ha => by
      obtain ⟨j, hj, rfl⟩ := mem_nth ha
      rw [List.length_take] at hj
      rw [nth_take (by omega)]
      exact (pl_iff h (by omega)).2 (by omega)
    have hi : ∀ b ∈ l.drop (plN l w), slx w b < 0 := fun b hb => by
      obtain ⟨j, hj, rfl⟩ := mem_nth hb
      rw [List.length_drop] at hj
      rw [nth_dropn]
      have h1 : ¬slx (nth l (plN l w + j)) w < 0 := fun q => by
        have := (pl_iff h (show plN l w + j < l.length by omega)).1 q; omega
      by_cases e : slx w (nth l (plN l w + j)) < 0
      · exact e
      · exfalso
        have heq := slx_same h1 e
        have h0 : plN l w < l.length := by omega
        by_cases ej : j = 0
        · subst ej; exact hn ⟨h0, by simpa using heq⟩
        · have hlt : slx (nth l (plN l w)) (nth l (plN l w + j)) < 0 := by
            have := (List.pairwise_iff_getElem.1 h) (plN l w) (plN l w + j) h0 (by omega) (by omega)
            rwa [nth_getElem, nth_getElem] at this
          rw [heq] at hlt
          have := (pl_iff h h0).1 hlt; omega
    rw [SrtW, List.pairwise_append]
    refine ⟨p1, List.pairwise_cons.2 ⟨hi, p2⟩, fun a ha b hb => ?_⟩
    rcases List.mem_cons.1 hb with rfl | hb
    · exact lo a ha
    · exact p3 a ha b hb
theorem sdW_spec : ∀ (l kept : List (List Int)), SrtW kept → SrtW (l.foldl wiW kept) ∧ ∀ u, u ∈ l.foldl wiW kept ↔ u ∈ kept ∨ u ∈ l
  | [], kept, h => ⟨h, fun u => by simp⟩
  | w :: l, kept, h => by
    obtain ⟨h1, h2⟩ := sdW_spec l (wiW kept w) (wiW_srt h w)
    refine ⟨h1, fun u => ?_⟩
    rw [List.foldl_cons, h2, mem_wiW, List.mem_cons]
    exact or_assoc
theorem sdW_srt (l : List (List Int)) : SrtW (sdW l) := (sdW_spec l [] List.Pairwise.nil).1
theorem mem_sdW (l : List (List Int)) (u : List Int) : u ∈ sdW l ↔ u ∈ l := by
  unfold sdW; rw [(sdW_spec l [] List.Pairwise.nil).2 u]; simp
def ddK (L : List (List Int)) : Nat → List (List Int)
  | 0 => []
  | j + 1 => if j = 0 ∨ nth L j ≠ nth L (j - 1) then ddK L j ++ [nth L j] else ddK L j
def ddL (L : List (List Int)) (j : Nat) : List (List Int) := ddK L j ++ L.drop (ddK L j).length
theorem ddK_le (L : List (List Int)) : ∀ j, (ddK L j).length ≤ j
  | 0 => Nat.le_refl _
  | j + 1 => by
    have := ddK_le L j
    simp only [ddK]; split <;> simp <;> omega
theorem ddL_len {L : List (List Int)} {j : Nat} (h : j ≤ L.length) : (ddL L j).length = L.length := by
  have := ddK_le L j
  unfold ddL; rw [List.length_append, List.length_drop]; omega
theorem ddL_nth {L : List (List Int)} {j k : Nat} (h : (ddK L j).length ≤ k) : nth (ddL L j) k = nth L k := by
  unfold ddL
  have e : nth (ddK L j ++ L.drop (ddK L j).length) ((ddK L j).length + (k - (ddK L j).length)) = nth (L.drop (ddK L j).length) (k - (ddK L j).length) := nth_app_r
  rw [nth_dropn] at e
  rw [show (ddK L j).length + (k - (ddK L j).length) = k by omega] at e
  exact e
theorem ddK_keep {L : List (List Int)} {j : Nat} (h : j = 0 ∨ nth L j ≠ nth L (j - 1)) : ddK L (j + 1) = ddK L j ++ [nth L j] := if_pos h
theorem ddK_skip {L : List (List Int)} {j : Nat} (h : ¬(j = 0 ∨ nth L j ≠ nth L (j - 1))) : ddK L (j + 1) = ddK L j := if_neg h
theorem ddL_skip {L : List (List Int)} {j : Nat} (h : ¬(j = 0 ∨ nth L j ≠ nth L (j - 1))) : ddL L (j + 1) = ddL L j := by unfold ddL; rw [ddK_skip h]
theorem set_app_drop {α : Type} {a l : List α} {x : α} (h : a.length < l.length) : (a ++ l.drop a.length).set a.length x = a ++ [x] ++ l.drop (a.length + 1) := by
  rw [List.drop_eq_getElem_cons h]
  rw [List.set_append_right _ _ (Nat.le_refl _), Nat.sub_self, List.set_cons_zero]; simp
theorem ddL_keep {L : List (List Int)} {j : Nat} (hj : j < L.length) (h : j = 0 ∨ nth L j ≠ nth L (j - 1)) : (ddL L j).set (ddK L j).length (nth L j) = ddL L (j + 1) := by
  have := ddK_le L j
  unfold ddL
  rw [ddK_keep h, set_app_drop (by omega)]
  simp
theorem ddK_all {L : List (List Int)} : ∀ {j : Nat}, j ≤ L.length → (∀ i, 1 ≤ i → i < j → nth L i ≠ nth L (i - 1)) → ddK L j = L.take j
  | 0, _, _ => by simp [ddK]
  | j + 1, hj, h => by
    rw [ddK_keep (by by_cases e : j = 0; exact .inl e; exact .inr (h j (by omega) (by omega))), ddK_all (by omega) fun i h1 h2 => h i h1 (by omega), take_succ_nth (by omega)]
theorem ddK_mem {L : List (List Int)} : ∀ {j : Nat}, j ≤ L.length → ∀ u, u ∈ ddK L j ↔ u ∈ L.take j
  | 0, _, u => by simp [ddK]
  | j + 1, hj, u => by
    have ih := ddK_mem (L := L) (j := j) (by omega) u
    rw [take_succ_nth (by omega), List.mem_append, List.mem_singleton]
    by_cases h : j = 0 ∨ nth L j ≠ nth L (j - 1)
    · rw [ddK_keep h, List.mem_append, List.mem_singleton, ih]
    · rw [ddK_skip h, ih]
      refine ⟨.inl, fun q => q.elim id fun e => ?_⟩
      have e2 : nth L j = nth L (j - 1) := by
        by_cases e3 : nth L j = nth L (j - 1)
        · exact e3
        · exact (h (.inr e3)).elim
      have : nth (L.take j) (j - 1) = u := by rw [nth_take (by omega), ← e2, e]
      rw [← this]
      exact nth_mem (by rw [List.length_take]; omega)
theorem ddK_srt {L : List (List Int)} (hs : L.Pairwise fun a b => ¬slx b a < 0) : ∀ {j : Nat}, j ≤ L.length → SrtW (ddK L j)
  | 0, _ => List.Pairwise.nil
  | j + 1, hj => by
    have ih := ddK_srt hs (j := j) (by omega)
    by_cases h : j = 0 ∨ nth L j ≠ nth L (j - 1)
    · rw [ddK_keep h, SrtW, List.pairwise_append]
      refine ⟨ih, by simp, fun a ha b hb => ?_⟩
      rw [List.mem_singleton.1 hb]
      have ha' := (ddK_mem (L := L) (by omega) a).1 ha
      obtain ⟨i, hi, rfl⟩ := mem_nth ha'
      rw [List.length_take] at hi
      rw [nth_take (by omega)]
      have le : ∀ p q, p < q → q < L.length → slx (nth L p) (nth L q) ≤ 0 := fun p q h1 h2 => by
        have := (List.pairwise_iff_getElem.1 hs) p q (by omega) h2 h1
        rw [nth_getElem, nth_getElem] at this
        exact slx_le.1 this
      have h1 := le i j (by omega) (by omega)
      by_cases e : slx (nth L i) (nth L j) < 0
      · exact e
      · exfalso
        have heq := slx_zero.1 (show slx (nth L i) (nth L j) = 0 by omega)
        have h2 : slx (nth L (j - 1)) (nth L j) ≤ 0 := le (j - 1) j (by omega) (by omega)
        have h3 : slx (nth L j) (nth L (j - 1)) ≤ 0 := by
          rw [← heq]
          by_cases ei : i = j - 1
          · rw [ei, slx_zero.2 rfl]; omega
          · exact le i (j - 1) (by omega) (by omega)
        have := slx_anti h2 h3
        rcases h with h | h
        · omega
        · exact h this.symm
    · rw [ddK_skip h]; exact ih
def sdP (l : List (List Int)) : List (List Int) := ddK (srt slx l) (srt slx l).length
theorem sdP_eq (l : List (List Int)) : sdP l = sdW l := by
  refine srtW_ext (ddK_srt (srt_sorted slx_swo l) (Nat.le_refl _)) (sdW_srt l) fun u => ?_
  unfold sdP
  rw [ddK_mem (Nat.le_refl _), List.take_length, mem_sdW]
  exact (srt_perm slx l).mem_iff
theorem sdW_len (l : List (List Int)) : (sdW l).length ≤ l.length := by
  rw [← sdP_eq]
  have := ddK_le (srt slx l) (srt slx l).length
  unfold sdP; rw [srt_len] at this ⊢; exact this
end Go.Proofs.Ytmnjchcoigbngaa
namespace Go.Proofs.Ytmnjchcoigbngaa
open Go
def clA (l : List Tr) (t : Tr) : Nat → Nat × Int
  | 0 => (t.ni.length, 0)
  | n + 1 => if 0 ≤ df (nth l n) t ∧ df (nth l n) t < ((clA l t n).1 : Nat) then ((df (nth l n) t).toNat, nth (nth l n).no (df (nth l n) t).toNat) else clA l t n
def clB (o : Ob) (t : Tr) : Prop := prE t o.i = 0 ∧ (clA o.tr t o.tr.length).1 ≠ t.ni.length
instance (o : Ob) (t : Tr) : Decidable (clB o t) := by unfold clB; infer_instance
end Go.Proofs.Ytmnjchcoigbngaa
namespace Go.Proofs.Ytmnjchcoigbngaa
def Srt (l : List Tr) : Prop := l.Pairwise fun a b => slx a.ni b.ni < 0
def inP (l : List Tr) (t : Tr) (j : Nat) : Bool := hp (nth l j).ni t.ni
def inL (l : List Tr) (t : Tr) : Prop := exB (inP l t) 0 l.length = true ∨ t.ni.length = 0
instance (l : List Tr) (t : Tr) : Decidable (inL l t) := inferInstanceAs (Decidable (_ ∨ _))
theorem OK.srt {o : Ob} (h : OK o) : Srt o.tr := by
  rw [Srt, List.pairwise_iff_getElem]
  intro i j hi hj hij
  rw [nth_getElem hi, nth_getElem hj]
  exact OK.lt_of h.ord hij hj
def okR (a b : Tr) : Prop := slx a.ni b.ni < 0 ∧ hp b.ni a.ni = false ∧ df a b < 0
theorem OK.of {i : Int} {l : List Tr} (hi : 1 ≤ i ∧ i ≤ 64) (hl : l.length ≤ 10000) (hm : ∀ t ∈ l, Proper t i ∧ 0 < t.ni.length) (h : l.Pairwise okR) : OK ⟨i, l⟩ := by
  rw [List.pairwise_iff_getElem] at h
  have h' : ∀ a b, a < b → b < l.length → okR (nth l a) (nth l b) := fun a b hab hb => by
    have := h a b (by omega) hb hab
    rwa [nth_getElem, nth_getElem] at this
  exact ⟨hi, hl, fun k hk => hm _ (nth_mem hk), fun k hk => (h' k (k + 1) (by omega) hk).1, fun a b hab hb => (h' a b hab hb).2.1, fun a b hab hb => (h' a b hab hb).2.2⟩
section
variable {l : List Tr} {t : Tr} {k : Nat}
end
theorem hp_eq {a b : List Int} (h1 : hp a b = true) (h2 : a.length ≤ b.length) : a = b := by
  obtain ⟨x, rfl⟩ := hp_iff.1 h1
  have : x = [] := by cases x with
    | nil => rfl
    | cons c x => simp at h2; omega
  simp [this]
end Go.Proofs.Ytmnjchcoigbngaa
namespace Go.Proofs.Ytmnjchcoigbngaa
theorem Tr.eq_iff {a b : Tr} : a = b ↔ a.ni = b.ni ∧ a.no = b.no := by cases a; cases b; simp
theorem Ob.eq_iff {a b : Ob} : a = b ↔ a.i = b.i ∧ a.tr = b.tr := by cases a; cases b; simp
instance : DecidableEq Tr := fun _ _ => decidable_of_iff _ Tr.eq_iff.symm
instance : DecidableEq Ob := fun _ _ => decidable_of_iff _ Ob.eq_iff.symm
end Go.Proofs.Ytmnjchcoigbngaa
namespace Go.Proofs.Ytmnjchcoigbngaa
theorem OK.anti {o : Ob} (h : OK o) {u v : Tr} (hu : u ∈ o.tr) (hv : v ∈ o.tr) (e : hp v.ni u.ni = true) : v = u := by
  obtain ⟨a, ha, rfl⟩ := mem_nth hu
  obtain ⟨b, hb, rfl⟩ := mem_nth hv
  rcases Nat.lt_trichotomy a b with q | q | q
  · rw [h.pre a b q hb] at e; cases e
  · rw [q]
  · have h1 := OK.lt_of h.ord q ha
    have h2 := hp_len e
    unfold slx at h1
    split at h1
    · omega
    · split at h1
      · omega
      · rw [hp_eq e (by omega), lexI_zero.2 rfl] at h1; omega
end Go.Proofs.Ytmnjchcoigbngaa
namespace Go.Proofs.Ytmnjchcoigbngaa
theorem nd_le : ∀ {l m : List Int}, l.Nodup → (∀ a ∈ l, a ∈ m) → l.length ≤ m.length
  | [], _, _, _ => Nat.zero_le _
  | a :: l, m, hn, hs => by
    obtain ⟨h1, h2⟩ := List.nodup_cons.1 hn
    have ha : a ∈ m := hs a (by simp)
    have := nd_le (m := m.erase a) h2 fun b hb => (List.mem_erase_of_ne (fun e => h1 (by rw [← e]; exact hb))).2 (hs b (List.mem_cons_of_mem _ hb))
    rw [List.length_erase_of_mem ha] at this
    have := List.length_pos_of_mem ha
    simp only [List.length_cons]; omega
def cB (b : Bool) : List V := [.bool b]
abbrev RS := List Int × List Bool
def stpR (P : RS) (a : Int) : RS := if nth P.2 a.toNat = true then P else (P.1 ++ [a], P.2.set a.toNat true)
def rowR (m : M) (P : RS) (k : Nat) : RS := (nth m.nx (nth P.1 k).toNat).foldl stpR P
structure RI (n : Nat) (P : RS) : Prop where
  blen : P.2.length = n
  rng : ∀ a ∈ P.1, 0 ≤ a ∧ a < n
  mem : ∀ a : Int, 0 ≤ a → a < n → (nth P.2 a.toNat = true ↔ a ∈ P.1)
  nd : P.1.Nodup
theorem nth_set {α : Type} [Inhabited α] {l : List α} {i j : Nat} {x : α} (hi : i < l.length) : nth (l.set i x) j = if i = j then x else nth l j := by
  unfold nth
  by_cases e : i = j
  · subst e; simp [hi]
  · rw [if_neg e]
    simp [List.getElem?_set, e]
theorem RI.step {n : Nat} {P : RS} (h : RI n P) {a : Int} (h0 : 0 ≤ a) (h1 : a < n) : RI n (stpR P a) := by
  unfold stpR
  split
  · exact h
  · rename_i g
    have hna : a ∉ P.1 := fun q => g ((h.mem a h0 h1).2 q)
    have hlt : a.toNat < P.2.length := by rw [h.blen]; omega
    refine ⟨by simp [h.blen], fun b hb => ?_, fun b b0 b1 => ?_, ?_⟩
    · rcases List.mem_append.1 hb with hb | hb
      · exact h.rng b hb
      · rw [List.mem_singleton.1 hb]; exact ⟨h0, h1⟩
    · rw [nth_set hlt, List.mem_append, List.mem_singleton]
      by_cases e : a.toNat = b.toNat
      · rw [if_pos e]; exact ⟨fun _ => .inr (by omega), fun _ => rfl⟩
      · rw [if_neg e, h.mem b b0 b1]
        exact ⟨.inl, fun q => q.resolve_right fun q => e (by rw [q])⟩
    · rw [List.nodup_append]
      refine ⟨h.nd, by simp, fun x hx y hy => ?_⟩
      rw [List.mem_singleton.1 hy]; intro e; exact hna (e ▸ hx)
theorem RI.fold {n : Nat} : ∀ {w : List Int} {P : RS}, RI n P → (∀ a ∈ w, 0 ≤ a ∧ a < n) → RI n (w.foldl stpR P)
  | [], _, h, _ => h
  | a :: w, P, h, hw => by
    rw [List.foldl_cons]
    exact RI.fold (h.step (hw a (by simp)).1 (hw a (by simp)).2) fun b hb => hw b (List.mem_cons_of_mem _ hb)
theorem RI.len {n : Nat} {P : RS} (h : RI n P) : P.1.length ≤ n := by
  have := nd_le (m := (List.range n).map Int.ofNat) h.nd fun a ha => by
    obtain ⟨h0, h1⟩ := h.rng a ha
    exact List.mem_map.2 ⟨a.toNat, List.mem_range.2 (by omega), by simp; omega⟩
  simpa using this
theorem row_in {m : M} (h : mval m = 0) {s : Int} (h0 : 0 ≤ s) (h1 : s < m.nx.length) : ∀ a ∈ nth m.nx s.toNat, 0 ≤ a ∧ a < m.nx.length := fun a ha => by
  obtain ⟨j, hj, rfl⟩ := mem_nth ha
  obtain ⟨g1, _, g3⟩ := (mval_ok h).2.2.2.2.2.2.2 s.toNat (by omega)
  have := g3 j (by omega)
  exact ⟨this.1, this.2.1⟩
theorem RI.row {m : M} (h : mval m = 0) {P : RS} (hP : RI m.nx.length P) {k : Nat} (hk : k < P.1.length) : RI m.nx.length (rowR m P k) := by
  obtain ⟨h0, h1⟩ := hP.rng _ (nth_mem hk)
  exact RI.fold hP (row_in h h0 h1)
end Go.Proofs.Ytmnjchcoigbngaa
namespace Go.Proofs.Ytmnjchcoigbngaa
structure Nd where
  lf : Bool
  ac : List Int
  sf : List Int
  ou : List (List Int)
  kd : List Int
  deriving Inhabited
abbrev cN (x : Nd) : List V := [.bool x.lf, ints x.ac, ints x.sf, intss x.ou, ints x.kd]
structure Dt where
  nd : List Nd
  deriving Inhabited
abbrev cD (t : Dt) : List V := [.sl (t.nd.map cN)]
@[simp] theorem canonLL_nds (l : List Nd) : canonLL (l.map cN) = true := canonLL_map _ _ fun a => by simp [cN]
theorem Nd.eq_iff {a b : Nd} : a = b ↔ a.lf = b.lf ∧ a.ac = b.ac ∧ a.sf = b.sf ∧ a.ou = b.ou ∧ a.kd = b.kd := by cases a; cases b; simp
theorem Dt.eq_iff {a b : Dt} : a = b ↔ a.nd = b.nd := by cases a; cases b; simp
instance : DecidableEq Nd := fun _ _ => decidable_of_iff _ Nd.eq_iff.symm
instance : DecidableEq Dt := fun _ _ => decidable_of_iff _ Dt.eq_iff.symm
def ouE (w : List Int) (k : Nat) : Int := if nth w k < 0 ∨ 1048576 < nth w k then 2 else 0
def vlE (outs suffix : List Int) : Int := if outs.length ≠ suffix.length then 1 else fe (ouE outs) 0 outs.length
def lfE (x : Nd) : Int := if 0 < x.sf.length + x.ou.length + x.kd.length then 1 else wchk x.ac 64
def chE (x : Nd) (n : Nat) (k : Nat) : Int := if vlE (nth x.ou k) x.sf ≠ 0 then vlE (nth x.ou k) x.sf else if 0 < k ∧ 0 ≤ lexI (nth x.ou (k - 1)) (nth x.ou k) then 10 else if nth x.kd k < 0 ∨ (n : Int) ≤ nth x.kd k then 2 else 0
def inE2 (x : Nd) (n : Nat) : Int :=
  if 0 < x.ac.length then 1 else if x.sf.length = 0 then 19 else if wchk x.sf 64 ≠ 0 then wchk x.sf 64 else if x.ou.length ≠ x.kd.length then 1 else fe (chE x n) 0 x.ou.length
def ndE (x : Nd) (n : Nat) : Int := if x.lf = true then lfE x else inE2 x n
def acL (l : List Nd) : List (List Int) := (l.filter (·.lf)).map (·.ac)
theorem acL_take {l : List Nd} {k : Nat} (h : k < l.length) : acL (l.take (k + 1)) = acL (l.take k) ++ if (nth l k).lf = true then [(nth l k).ac] else [] := by
  unfold acL; rw [take_succ_nth h, List.filter_append, List.map_append]
  cases e : (nth l k).lf <;> simp [e]
theorem acL_len (l : List Nd) : (acL l).length ≤ l.length := by
  unfold acL; rw [List.length_map]; exact List.length_filter_le _ _
def qS (t : Dt) (P : List Int) (i : Nat) : List Int := P ++ (nth t.nd (nth P i).toNat).kd
structure KI (t : Dt) : Prop where
  pos : 0 < t.nd.length
  rng : ∀ k, k < t.nd.length → ∀ a ∈ (nth t.nd k).kd, 0 ≤ a ∧ a < t.nd.length
def whI : RS → List Int → Option RS
  | P, [] => some P
  | P, a :: w => if nth P.2 a.toNat = true then none else whI (P.1 ++ [a], P.2.set a.toNat true) w
def whN (t : Dt) : Nat → Nat → RS → Option RS
  | 0, _, P => some P
  | n + 1, i, P => if i < P.1.length then (whI P (nth t.nd (nth P.1 i).toNat).kd).bind (whN t n (i + 1)) else some P
def wh0 (t : Dt) : RS := ([0], (List.replicate t.nd.length false).set 0 true)
def whB (t : Dt) : Bool := match whN t t.nd.length 0 (wh0 t) with
  | some P => decide (P.1.length = t.nd.length)
  | none => false
def coN (t : Dt) : Nat → Nat → RS → Option RS
  | 0, _, P => some P
  | n + 1, i, P => if i < P.1.length then if nth P.2 (nth P.1 i).toNat = true then none else if t.nd.length < (qS t P.1 i).length then none else
      coN t n (i + 1) (qS t P.1 i, P.2.set (nth P.1 i).toNat true) else some P
def co0 (t : Dt) : RS := ([0], List.replicate t.nd.length false)
def coB (t : Dt) : Bool := match coN t (t.nd.length + 1) 0 (co0 t) with
  | some P => decide (P.1.length = t.nd.length)
  | none => false
inductive Ln (t : Dt) : Nat → List Int → Prop where
  | zero : Ln t 0 [0]
  | step {i : Nat} {P : List Int} (h : Ln t i P) (hi : i < P.length) : Ln t (i + 1) (qS t P i)
theorem Ln.rng {t : Dt} (hk : KI t) : ∀ {i : Nat} {P : List Int}, Ln t i P → ∀ a ∈ P, 0 ≤ a ∧ a < t.nd.length := by
  intro i P h
  induction h with
  | zero => intro a ha; rw [List.mem_singleton.1 ha]; have := hk.pos; omega
  | step h hi ih =>
    intro a ha
    rcases List.mem_append.1 ha with ha | ha
    · exact ih a ha
    · have := ih _ (nth_mem hi)
      exact hk.rng _ (by omega) a ha
theorem Ln.le {t : Dt} : ∀ {i : Nat} {P : List Int}, Ln t i P → i ≤ P.length := by
  intro i P h
  induction h with
  | zero => simp
  | step h hi ih => unfold qS; rw [List.length_append]; omega
def Whole (t : Dt) : Prop := ∃ P : List Int, Ln t P.length P ∧ P.Nodup ∧ P.length = t.nd.length
theorem Ln.uniq {t : Dt} : ∀ {i : Nat} {P Q : List Int}, Ln t i P → Ln t i Q → P = Q := by
  intro i P Q h
  induction h generalizing Q with
  | zero => intro h; cases h; rfl
  | step h hi ih =>
    intro h'
    cases h' with
    | step h2 hi2 => rw [ih h2]
theorem Ln.pre {t : Dt} : ∀ {i : Nat} {P : List Int}, Ln t i P → ∀ {j : Nat} {Q : List Int}, Ln t j Q → i ≤ j → ∃ x, Q = P ++ x := by
  intro i P h j Q h2 hij
  induction h2 with
  | zero =>
    have : i = 0 := by omega
    subst this; exact ⟨[], by rw [h.uniq .zero]; rfl⟩
  | step h3 hi ih =>
    rename_i j Q
    by_cases e : i = j + 1
    · subst e; exact ⟨[], by rw [h.uniq (.step h3 hi)]; simp⟩
    · obtain ⟨x, hx⟩ := ih (by omega)
      exact ⟨x ++ (nth t.nd (nth Q j).toNat).kd, by unfold qS; rw [hx, List.append_assoc]⟩
theorem nd_bound {t : Dt} {P : List Int} (h : ∀ a ∈ P, 0 ≤ a ∧ a < t.nd.length) (hn : P.Nodup) : P.length ≤ t.nd.length := by
  have := nd_le (m := (List.range t.nd.length).map Int.ofNat) hn fun a ha => by
    obtain ⟨h0, h1⟩ := h a ha
    exact List.mem_map.2 ⟨a.toNat, List.mem_range.2 (by omega), by simp; omega⟩
  simpa using this
def Mk (n : Nat) (B : List Bool) (l : List Int) : Prop := B.length = n ∧ ∀ a : Int, 0 ≤ a → a < n → (nth B a.toNat = true ↔ a ∈ l)
theorem Mk.set {n : Nat} {B : List Bool} {l : List Int} (h : Mk n B l) {a : Int} (h0 : 0 ≤ a) (h1 : a < n) : Mk n (B.set a.toNat true) (l ++ [a]) := by
  refine ⟨by simp [h.1], fun b b0 b1 => ?_⟩
  rw [nth_set (by rw [h.1]; omega), List.mem_append, List.mem_singleton]
  by_cases e : a.toNat = b.toNat
  · rw [if_pos e]; exact ⟨fun _ => .inr (by omega), fun _ => rfl⟩
  · rw [if_neg e, h.2 b b0 b1]
    exact ⟨.inl, fun q => q.resolve_right fun q => e (by rw [q])⟩
theorem Mk.none (n : Nat) : Mk n (List.replicate n false) [] := by
  refine ⟨by simp, fun a h0 h1 => ?_⟩
  have : nth (List.replicate n false) a.toNat = false := by
    rw [← nth_getElem (by simp; omega)]; simp
  rw [this]; simp
theorem whI_spec {n : Nat} : ∀ {w : List Int} {P : RS}, Mk n P.2 P.1 → P.1.Nodup → (∀ a ∈ w, 0 ≤ a ∧ a < n) →
    match whI P w with
    | some Q => Q.1 = P.1 ++ w ∧ Mk n Q.2 Q.1 ∧ Q.1.Nodup
    | none => ¬(P.1 ++ w).Nodup
  | [], P, h, hn, _ => by simp only [whI]; exact ⟨by simp, h, hn⟩
  | a :: w, P, h, hn, hw => by
    obtain ⟨h0, h1⟩ := hw a (by simp)
    simp only [whI]
    by_cases e : nth P.2 a.toNat = true
    · rw [if_pos e]
      intro q
      have := (h.2 a h0 h1).1 e
      rw [List.nodup_append] at q
      exact q.2.2 a this a (by simp) rfl
    · rw [if_neg e]
      have hna : a ∉ P.1 := fun q => e ((h.2 a h0 h1).2 q)
      have hnd : (P.1 ++ [a]).Nodup := by
        rw [List.nodup_append]
        exact ⟨hn, by simp, fun x hx y hy => by rw [List.mem_singleton.1 hy]; intro q; exact hna (q ▸ hx)⟩
      have ih := whI_spec (w := w) (P := (P.1 ++ [a], P.2.set a.toNat true)) (h.set h0 h1) hnd fun b hb => hw b (List.mem_cons_of_mem _ hb)
      have ea : P.1 ++ [a] ++ w = P.1 ++ a :: w := by simp
      simp only [ea] at ih
      exact ih
theorem whN_spec {t : Dt} (hk : KI t) : ∀ (n i : Nat) (P : RS), Ln t i P.1 → Mk t.nd.length P.2 P.1 → P.1.Nodup → t.nd.length ≤ i + n →
    match whN t n i P with
    | some Q => Ln t Q.1.length Q.1 ∧ Q.1.Nodup
    | none => ∃ j L, Ln t j L ∧ ¬L.Nodup
  | 0, i, P, hl, hm, hn, hi => by
    simp only [whN]
    have h1 := hl.le
    have h2 := nd_bound (hl.rng hk) hn
    have : P.1.length = i := by omega
    exact ⟨by rw [this]; exact hl, hn⟩
  | n + 1, i, P, hl, hm, hn, hi => by
    simp only [whN]
    by_cases h : i < P.1.length
    · rw [if_pos h]
      have hr := hl.rng hk _ (nth_mem h)
      have hw := whI_spec (w := (nth t.nd (nth P.1 i).toNat).kd) hm hn (hk.rng _ (by omega))
      cases hq : whI P (nth t.nd (nth P.1 i).toNat).kd with
      | none =>
        rw [hq] at hw
        simp only [Option.bind_none]
        exact ⟨i + 1, _, .step hl h, hw⟩
      | some Q =>
        rw [hq] at hw
        simp only [Option.bind_some]
        obtain ⟨g1, g2, g3⟩ := hw
        exact whN_spec hk n (i + 1) Q (by rw [g1]; exact .step hl h) g2 g3 (by omega)
    · rw [if_neg h]
      have := hl.le
      have : P.1.length = i := by omega
      exact ⟨by rw [this]; exact hl, hn⟩
theorem whB_iff {t : Dt} (hk : KI t) : whB t = true ↔ Whole t := by
  have h0 : Mk t.nd.length (wh0 t).2 (wh0 t).1 := by
    have := (Mk.none t.nd.length).set (a := 0) (by omega) (by have := hk.pos; omega)
    exact this
  have h := whN_spec hk t.nd.length 0 (wh0 t) .zero h0 (by simp [wh0]) (by omega)
  unfold whB
  cases hq : whN t t.nd.length 0 (wh0 t) with
  | none =>
    rw [hq] at h
    obtain ⟨j, L, g1, g2⟩ := h
    simp only [Bool.false_eq_true, false_iff]
    rintro ⟨P, p1, p2, p3⟩
    have hj : j ≤ P.length := by
      have := g1.le
      by_cases e : j ≤ P.length
      · exact e
      · exfalso
        obtain ⟨x, hx⟩ := p1.pre g1 (by omega)
        -- the line ends with P: no step leads beyond it
        have key : ∀ {j : Nat} {L : List Int}, Ln t j L → P.length < j → False := by
          intro j L hL
          induction hL with
          | zero => intro q; omega
          | step h2 hi ih =>
            rename_i a b
            intro q
            by_cases e2 : P.length < a
            · exact ih e2
            · have : a = P.length := by omega
              subst this
              rw [h2.uniq p1] at hi; omega
        exact key g1 (by omega)
    obtain ⟨x, hx⟩ := g1.pre p1 hj
    rw [hx, List.nodup_append] at p2
    exact g2 p2.1
  | some Q =>
    rw [hq] at h
    obtain ⟨g1, g2⟩ := h
    simp only [decide_eq_true_eq]
    constructor
    · intro e; exact ⟨Q.1, g1, g2, e⟩
    · rintro ⟨P, p1, p2, p3⟩
      have key : ∀ {j : Nat} {L : List Int}, Ln t j L → ∀ {P : List Int}, Ln t P.length P → j ≤ P.length := by
        intro j L hL P p1
        induction hL with
        | zero => omega
        | step h2 hi ih =>
          rename_i a b
          by_cases e : a = P.length
          · subst e; rw [h2.uniq p1] at hi; omega
          · omega
      have a1 := key g1 p1
      have a2 := key p1 g1
      omega
theorem coN_spec {t : Dt} (hk : KI t) : ∀ (n i : Nat) (P : RS), Ln t i P.1 → Mk t.nd.length P.2 (P.1.take i) → (P.1.take i).Nodup → P.1.length ≤ t.nd.length → t.nd.length < i + n →
    match coN t n i P with
    | some Q => Ln t Q.1.length Q.1 ∧ Q.1.Nodup ∧ Q.1.length ≤ t.nd.length
    | none => ∃ j L, Ln t j L ∧ (¬(L.take (j + 1)).Nodup ∨ t.nd.length < L.length)
  | 0, i, P, hl, hm, hn, hb, hi => by
    have := hl.le; omega
  | n + 1, i, P, hl, hm, hn, hb, hi => by
    simp only [coN]
    by_cases h : i < P.1.length
    · rw [if_pos h]
      obtain ⟨r0, r1⟩ := hl.rng hk _ (nth_mem h)
      by_cases e : nth P.2 (nth P.1 i).toNat = true
      · rw [if_pos e]
        refine ⟨i, P.1, hl, .inl ?_⟩
        have hin := (hm.2 _ r0 r1).1 e
        rw [take_succ_nth h]
        intro q
        rw [List.nodup_append] at q
        exact q.2.2 _ hin _ (by simp) rfl
      · rw [if_neg e]
        by_cases g : t.nd.length < (qS t P.1 i).length
        · rw [if_pos g]; exact ⟨i + 1, _, .step hl h, .inr g⟩
        · rw [if_neg g]
          have hpre : (qS t P.1 i).take (i + 1) = P.1.take i ++ [nth P.1 i] := by
            unfold qS; rw [List.take_append_of_le_length (by omega), take_succ_nth h]
          refine coN_spec hk n (i + 1) (qS t P.1 i, P.2.set (nth P.1 i).toNat true) (.step hl h) ?_ ?_ (by simp only; omega) (by omega)
          · simp only [hpre]; exact hm.set r0 r1
          · simp only [hpre]
            rw [List.nodup_append]
            refine ⟨hn, by simp, fun x hx y hy => ?_⟩
            rw [List.mem_singleton.1 hy]; intro q
            exact e ((hm.2 _ r0 r1).2 (q ▸ hx))
    · rw [if_neg h]
      have := hl.le
      have hi' : P.1.length = i := by omega
      refine ⟨by rw [hi']; exact hl, ?_, hb⟩
      rw [← hi', List.take_length] at hn; exact hn
theorem coB_iff {t : Dt} (hk : KI t) : coB t = true ↔ Whole t := by
  have h := coN_spec hk (t.nd.length + 1) 0 (co0 t) .zero (Mk.none _) (by simp [co0]) (by have := hk.pos; simp [co0]; omega) (by omega)
  have key : ∀ {j : Nat} {L : List Int}, Ln t j L → ∀ {P : List Int}, Ln t P.length P → j ≤ P.length := by
    intro j L hL P p1
    induction hL with
    | zero => omega
    | step h2 hi ih =>
      rename_i a b
      by_cases e : a = P.length
      · subst e; rw [h2.uniq p1] at hi; omega
      · omega
  unfold coB
  cases hq : coN t (t.nd.length + 1) 0 (co0 t) with
  | none =>
    rw [hq] at h
    obtain ⟨j, L, g1, g2⟩ := h
    simp only [Bool.false_eq_true, false_iff]
    rintro ⟨P, p1, p2, p3⟩
    obtain ⟨x, hx⟩ := g1.pre p1 (key g1 p1)
    rcases g2 with g2 | g2
    · apply g2
      rw [hx, List.nodup_append] at p2
      exact p2.1.sublist (List.take_sublist _ _)
    · have : P.length = L.length + x.length := by rw [hx, List.length_append]
      omega
  | some Q =>
    rw [hq] at h
    obtain ⟨g1, g2, g3⟩ := h
    simp only [decide_eq_true_eq]
    constructor
    · intro e; exact ⟨Q.1, g1, g2, e⟩
    · rintro ⟨P, p1, p2, p3⟩
      have a1 := key g1 p1
      have a2 := key p1 g1
      omega
theorem co_wh {t : Dt} (hk : KI t) : coB t = whB t := by
  have := (coB_iff hk).trans (whB_iff hk).symm
  cases h1 : coB t <;> cases h2 : whB t <;> simp_all
def dvE (t : Dt) : Int :=
  if t.nd.length = 0 then 19 else if 4096 < t.nd.length then 11 else if fe (fun k => ndE (nth t.nd k) t.nd.length) 0 t.nd.length ≠ 0 then fe (fun k => ndE (nth t.nd k) t.nd.length) 0 t.nd.length else
    if whB t = false then 1 else if (sdW (acL t.nd)).length ≠ (acL t.nd).length then 7 else 0
end Go.Proofs.Ytmnjchcoigbngaa
namespace Go.Proofs.Ytmnjchcoigbngaa
def SrtL (l : List (List Int)) : Prop := l.Pairwise fun a b => lexI a b < 0
def lxP (w u : List Int) : Bool := decide (lexI u w < 0)
def lxN (l : List (List Int)) (w : List Int) : Nat := (l.takeWhile (lxP w)).length
theorem lexI_irr (a : List Int) : ¬lexI a a < 0 := by rw [lexI_zero.2 rfl]; omega
theorem lx_cons {w a : List Int} {l : List (List Int)} : lxN (a :: l) w = if lxP w a = true then lxN l w + 1 else 0 := by
  unfold lxN; rw [List.takeWhile_cons]; split <;> rfl
theorem lx_le {w : List Int} : ∀ l : List (List Int), lxN l w ≤ l.length
  | [] => Nat.le_refl _
  | a :: l => by rw [lx_cons]; have := lx_le (w := w) l; split <;> simp <;> omega
theorem lx_iff {w : List Int} : ∀ {l : List (List Int)} (_ : SrtL l) {k : Nat}, k < l.length → (lexI (nth l k) w < 0 ↔ k < lxN l w)
  | [], _, k, hk => by simp at hk
  | a :: l, h, k, hk => by
    rw [lx_cons]
    obtain ⟨h1, h2⟩ := List.pairwise_cons.1 h
    by_cases e : lxP w a = true
    · rw [if_pos e]
      cases k with
      | zero => rw [nth_zero]; simp only [lxP, decide_eq_true_eq] at e; exact ⟨fun _ => by omega, fun _ => e⟩
      | succ k => rw [nth_succ, lx_iff h2 (by simpa using hk)]; omega
    · rw [if_neg e]
      simp only [lxP, decide_eq_true_eq] at e
      refine ⟨fun h3 => ?_, fun h3 => by omega⟩
      cases k with
      | zero => exact (e h3).elim
      | succ k =>
        rw [nth_succ] at h3
        exact (e (lexI_trans (h1 _ (nth_mem (by simpa using hk))) h3)).elim
def lxH (l : List (List Int)) (w : List Int) : Prop := lxN l w < l.length ∧ lexI (nth l (lxN l w)) w = 0
instance (l : List (List Int)) (w : List Int) : Decidable (lxH l w) := inferInstanceAs (Decidable (_ ∧ _))
theorem srtL_lt {l : List (List Int)} (h : SrtL l) {i j : Nat} (hij : i < j) (hj : j < l.length) : lexI (nth l i) (nth l j) < 0 := by
  have := (List.pairwise_iff_getElem.1 h) i j (by omega) hj hij
  rwa [nth_getElem, nth_getElem] at this
theorem lxH_iff {l : List (List Int)} (hs : SrtL l) {w : List Int} {k : Nat} (hk : k < l.length) (h : nth l k = w) : lxN l w = k ∧ lxH l w := by
  have h1 : ¬k < lxN l w := fun q => lexI_irr w (by have := (lx_iff hs hk).2 q; rwa [h] at this)
  have h2 : ¬lxN l w < k := fun q => by
    have g := srtL_lt hs q hk
    rw [h] at g
    have := (lx_iff hs (show lxN l w < l.length by omega)).1 g; omega
  have e : lxN l w = k := by omega
  exact ⟨e, by rw [lxH, e]; exact ⟨hk, lexI_zero.2 h⟩⟩
end Go.Proofs.Ytmnjchcoigbngaa
namespace Go.Proofs.Ytmnjchcoigbngaa
theorem in_nth {α : Type} [Inhabited α] {l : List α} {a : α} (h : a ∈ l) : ∃ k, k < l.length ∧ nth l k = a := by
  obtain ⟨k, hk, e⟩ := List.mem_iff_getElem.1 h
  exact ⟨k, hk, by rw [← nth_getElem hk]; exact e⟩
theorem nd_inj {l : List Int} (h : l.Nodup) {i j : Nat} (hi : i < l.length) (hj : j < l.length) (e : nth l i = nth l j) : i = j := by
  have hp := List.pairwise_iff_getElem.1 h
  rcases Nat.lt_trichotomy i j with q | q | q
  · exact (hp i j hi hj q (by rw [nth_getElem, nth_getElem]; exact e)).elim
  · exact q
  · exact (hp j i hj hi q (by rw [nth_getElem, nth_getElem]; exact e.symm)).elim
theorem srtL_of {l : List (List Int)} (h : ∀ a b, a < b → b < l.length → lexI (nth l a) (nth l b) < 0) : SrtL l :=
  List.pairwise_iff_getElem.2 fun i j hi hj hij => by rw [nth_getElem, nth_getElem]; exact h i j hij hj
theorem dv_ok {t : Dt} (h : dvE t = 0) : 0 < t.nd.length ∧ t.nd.length ≤ 4096 ∧ (∀ k, k < t.nd.length → ndE (nth t.nd k) t.nd.length = 0) ∧ whB t = true ∧ (sdW (acL t.nd)).length = (acL t.nd).length := by
  unfold dvE at h
  split at h
  · omega
  · split at h
    · omega
    · split at h
      · rename_i q; exact (q h).elim
      · rename_i q
        split at h
        · omega
        · rename_i w
          split at h
          · omega
          · refine ⟨by omega, by omega, fun k hk => ?_, by simpa using w, by omega⟩
            have := fe_zero_iff.1 (Decidable.not_not.1 q) k (Nat.zero_le _) (by omega)
            exact this
structure InOk (x : Nd) (n : Nat) : Prop where
  ac : x.ac = []
  s0 : 0 < x.sf.length
  sw : wchk x.sf 64 = 0
  len : x.ou.length = x.kd.length
  ov : ∀ k, k < x.ou.length → vlE (nth x.ou k) x.sf = 0
  srt : SrtL x.ou
  kr : ∀ a ∈ x.kd, 0 ≤ a ∧ a < n
structure LfOk (x : Nd) : Prop where
  sf : x.sf = []
  ou : x.ou = []
  kd : x.kd = []
  aw : wchk x.ac 64 = 0
theorem ch_ok {x : Nd} {n k : Nat} (h : chE x n k = 0) : vlE (nth x.ou k) x.sf = 0 ∧ (0 < k → lexI (nth x.ou (k - 1)) (nth x.ou k) < 0) ∧ 0 ≤ nth x.kd k ∧ nth x.kd k < n := by
  unfold chE at h
  split at h
  · rename_i q; exact (q h).elim
  · split at h
    · omega
    · split at h
      · omega
      · exact ⟨by omega, fun hk => by omega, by omega, by omega⟩
theorem ch_lt {x : Nd} {n : Nat} : ∀ {i : Nat}, (∀ j, j < i → chE x n j = 0) → ∀ a b, a < b → b < i → lexI (nth x.ou a) (nth x.ou b) < 0 := by
  intro i h a b
  induction b with
  | zero => intro q; omega
  | succ b ih =>
    intro q hb
    have h1 := (ch_ok (h (b + 1) hb)).2.1 (by omega)
    rw [Nat.add_sub_cancel] at h1
    rcases Nat.lt_or_ge a b with g | g
    · exact lexI_trans (ih g (by omega)) h1
    · rw [show a = b by omega]; exact h1
theorem in_ok {x : Nd} {n : Nat} (h : inE2 x n = 0) : InOk x n := by
  unfold inE2 at h
  split at h
  · omega
  · split at h
    · omega
    · split at h
      · rename_i q; exact (q h).elim
      · split at h
        · omega
        · rename_i h1 h2 h3 h4
          have hc := fe_zero_iff.1 h
          have hc' : ∀ j, j < x.ou.length → chE x n j = 0 := fun j hj => hc j (Nat.zero_le _) (by omega)
          refine ⟨List.eq_nil_of_length_eq_zero (by omega), by omega, by omega, by omega, fun k hk => (ch_ok (hc' k hk)).1, srtL_of fun a b hab hb => ch_lt hc' a b hab hb, fun a ha => ?_⟩
          obtain ⟨k, hk, rfl⟩ := in_nth ha
          exact (ch_ok (hc' k (by omega))).2.2
theorem lf_ok {x : Nd} (h : lfE x = 0) : LfOk x := by
  unfold lfE at h
  split at h
  · omega
  · exact ⟨List.eq_nil_of_length_eq_zero (by omega), List.eq_nil_of_length_eq_zero (by omega), List.eq_nil_of_length_eq_zero (by omega), h⟩
theorem nd_in {t : Dt} (h : dvE t = 0) {k : Nat} (hk : k < t.nd.length) (hl : (nth t.nd k).lf = false) : InOk (nth t.nd k) t.nd.length := by
  have := (dv_ok h).2.2.1 k hk
  unfold ndE at this
  rw [hl, if_neg (by simp)] at this
  exact in_ok this
theorem nd_lf {t : Dt} (h : dvE t = 0) {k : Nat} (hk : k < t.nd.length) (hl : (nth t.nd k).lf = true) : LfOk (nth t.nd k) := by
  have := (dv_ok h).2.2.1 k hk
  unfold ndE at this
  rw [hl, if_pos rfl] at this
  exact lf_ok this
theorem nds_ki {t : Dt} (h0 : 0 < t.nd.length) (h : ∀ k, k < t.nd.length → ndE (nth t.nd k) t.nd.length = 0) : KI t := by
  refine ⟨h0, fun k hk a ha => ?_⟩
  have := h k hk
  unfold ndE at this
  split at this
  · rw [(lf_ok this).kd] at ha; cases ha
  · exact (in_ok this).kr a ha
theorem dv_ki {t : Dt} (h : dvE t = 0) : KI t := nds_ki (dv_ok h).1 (dv_ok h).2.2.1
def Plc (t : Dt) (P : List Int) : Prop := Ln t P.length P ∧ P.Nodup ∧ P.length = t.nd.length
theorem dv_line {t : Dt} (h : dvE t = 0) : ∃ P, Plc t P := (whB_iff (dv_ki h)).1 (dv_ok h).2.2.2.1
theorem Ln.kid {t : Dt} : ∀ {i : Nat} {P : List Int}, Ln t i P → ∀ {a : Int} {j : Nat}, j < i → a ∈ (nth t.nd (nth P j).toNat).kd → ∃ s, j < s ∧ s < P.length ∧ nth P s = a := by
  intro i P h
  induction h with
  | zero => intro a j hj; omega
  | step h hi ih =>
    rename_i i P
    intro a j hj ha
    have hle := h.le
    have e : nth (qS t P i) j = nth P j := by unfold qS; exact nth_app_l (by omega)
    rw [e] at ha
    have hl : (qS t P i).length = P.length + (nth t.nd (nth P i).toNat).kd.length := by unfold qS; rw [List.length_append]
    rcases Nat.lt_or_ge j i with q | q
    · obtain ⟨s, h1, h2, h3⟩ := ih q ha
      exact ⟨s, h1, by omega, by unfold qS; rw [nth_app_l h2]; exact h3⟩
    · have : j = i := by omega
      subst this
      obtain ⟨c, hc, hv⟩ := in_nth ha
      exact ⟨P.length + c, by omega, by omega, by unfold qS; rw [nth_app_r]; exact hv⟩
theorem Ln.par {t : Dt} : ∀ {i : Nat} {P : List Int}, Ln t i P → ∀ {s : Nat}, 0 < s → s < P.length → ∃ j, j < s ∧ nth P s ∈ (nth t.nd (nth P j).toNat).kd := by
  intro i P h
  induction h with
  | zero => intro s h0 h1; simp at h1; omega
  | step h hi ih =>
    rename_i i P
    intro s h0 h1
    have hl : (qS t P i).length = P.length + (nth t.nd (nth P i).toNat).kd.length := by unfold qS; rw [List.length_append]
    rcases Nat.lt_or_ge s P.length with q | q
    · obtain ⟨j, g1, g2⟩ := ih h0 q
      refine ⟨j, g1, ?_⟩
      unfold qS; rw [nth_app_l q, nth_app_l (by omega)]; exact g2
    · refine ⟨i, by omega, ?_⟩
      have e : s = P.length + (s - P.length) := by omega
      unfold qS
      rw [nth_app_l hi, e, nth_app_r]
      exact nth_mem (by omega)
theorem Plc.head {t : Dt} {P : List Int} (h : Plc t P) : nth P 0 = 0 ∧ (0 < t.nd.length → 0 < P.length) := by
  have : ∀ {i : Nat} {P : List Int}, Ln t i P → nth P 0 = 0 := by
    intro i P h
    induction h with
    | zero => rfl
    | step h hi ih => unfold qS; rw [nth_app_l (by omega)]; exact ih
  exact ⟨this h.1, fun q => by rw [h.2.2]; exact q⟩
theorem Plc.kid {t : Dt} {P : List Int} (h : Plc t P) {s : Nat} (hs : s < P.length) {a : Int} (ha : a ∈ (nth t.nd (nth P s).toNat).kd) : ∃ s', s < s' ∧ s' < P.length ∧ nth P s' = a := h.1.kid hs ha
theorem Plc.all {t : Dt} (hk : KI t) {P : List Int} (h : Plc t P) {a : Int} (h0 : 0 ≤ a) (h1 : a < t.nd.length) : ∃ s, s < P.length ∧ nth P s = a := by
  by_cases e : a ∈ P
  · exact in_nth e
  · have := nd_bound (t := t) (P := a :: P) (fun b hb => by
      rcases List.mem_cons.1 hb with rfl | hb
      · exact ⟨h0, h1⟩
      · exact h.1.rng hk b hb) (List.nodup_cons.2 ⟨e, h.2.1⟩)
    have := h.2.2
    simp at *; omega
theorem Plc.one {t : Dt} (hk : KI t) {P : List Int} (h : Plc t P) : ∀ {m m' a : Int}, 0 ≤ m → m < t.nd.length → 0 ≤ m' → m' < t.nd.length → a ∈ (nth t.nd m.toNat).kd → a ∈ (nth t.nd m'.toNat).kd → m = m' := by
  intro m m' a h0 h1 h2 h3 ha hb
  obtain ⟨i, hi, ei⟩ := h.all hk h0 h1
  obtain ⟨j, hj, ej⟩ := h.all hk h2 h3
  have key : ∀ {n : Nat} {Q : List Int}, Ln t n Q → Q.Nodup → ∀ {i j : Nat}, i < j → j < n → a ∈ (nth t.nd (nth Q i).toNat).kd → a ∈ (nth t.nd (nth Q j).toNat).kd → False := by
    intro n Q hq
    induction hq with
    | zero => intro _ i j _ hj; omega
    | step h hi ih =>
      rename_i n Q
      intro hnd i j hij hj ha hb
      have hle := h.le
      have e1 : nth (qS t Q n) i = nth Q i := by unfold qS; exact nth_app_l (by omega)
      have e2 : nth (qS t Q n) j = nth Q j := by unfold qS; exact nth_app_l (by omega)
      rw [e1] at ha; rw [e2] at hb
      have hn2 : (Q ++ (nth t.nd (nth Q n).toNat).kd).Nodup := hnd
      rw [List.nodup_append] at hn2
      rcases Nat.lt_or_ge j n with q | q
      · exact ih hn2.1 hij q ha hb
      · have : j = n := by omega
        subst this
        obtain ⟨s, _, g2, g3⟩ := h.kid hij ha
        exact hn2.2.2 a (g3 ▸ nth_mem g2) a hb rfl
  rw [← ei] at ha; rw [← ej] at hb
  rcases Nat.lt_trichotomy i j with q | q | q
  · exact (key h.1 h.2.1 q hj ha hb).elim
  · rw [← ei, ← ej, q]
  · exact (key h.1 h.2.1 q hi hb ha).elim
def Rk (t : Dt) (f n : Nat) : Prop := ∃ P s, Plc t P ∧ s < P.length ∧ nth P s = (n : Int) ∧ t.nd.length ≤ f + s
theorem Rk.pos {t : Dt} {f n : Nat} (h : Rk t f n) : 0 < f := by
  obtain ⟨P, s, hP, hs, _, h3⟩ := h
  have := hP.2.2; omega
theorem Rk.lt {t : Dt} (hv : dvE t = 0) {f n : Nat} (h : Rk t f n) : n < t.nd.length := by
  obtain ⟨P, s, hP, hs, h2, _⟩ := h
  have := hP.1.rng (dv_ki hv) _ (nth_mem hs)
  omega
theorem Rk.step {t : Dt} {f n : Nat} (h : Rk t f n) {a : Int} (ha : a ∈ (nth t.nd n).kd) (h0 : 0 ≤ a) : Rk t (f - 1) a.toNat := by
  have hp := h.pos
  obtain ⟨P, s, hP, hs, h2, h3⟩ := h
  obtain ⟨s', g1, g2, g3⟩ := hP.kid hs (a := a) (by rw [h2]; simpa using ha)
  exact ⟨P, s', hP, g2, by rw [g3]; omega, by omega⟩
section
variable {t : Dt} {o : Ob} {w : List Int} {f n : Nat}
end
def par (t : Dt) (n : Int) : Int := fi (fun k => decide (n ∈ (nth t.nd k).kd)) 0 t.nd.length
def Up (t : Dt) (f : Nat) (n : Int) : Prop := ∃ P s, Plc t P ∧ s < P.length ∧ nth P s = n ∧ s ≤ f
theorem Up.of {t : Dt} (h : dvE t = 0) {n : Int} (h0 : 0 ≤ n) (h1 : n < t.nd.length) : Up t t.nd.length n := by
  obtain ⟨P, hP⟩ := dv_line h
  obtain ⟨s, hs, e⟩ := hP.all (dv_ki h) h0 h1
  exact ⟨P, s, hP, hs, e, by have := hP.2.2; omega⟩
theorem Up.pos {t : Dt} {f : Nat} {n : Int} (h : Up t f n) (hn : n ≠ 0) : 0 < f := by
  obtain ⟨P, s, hP, hs, h2, h3⟩ := h
  rcases Nat.eq_zero_or_pos s with e | e
  · subst e; rw [hP.head.1] at h2; exact (hn h2.symm).elim
  · omega
theorem Up.rng {t : Dt} (hv : dvE t = 0) {f : Nat} {n : Int} (h : Up t f n) : 0 ≤ n ∧ n < t.nd.length := by
  obtain ⟨P, s, hP, hs, h2, _⟩ := h
  rw [← h2]; exact hP.1.rng (dv_ki hv) _ (nth_mem hs)
theorem par_of {t : Dt} (hv : dvE t = 0) {m n : Int} (h0 : 0 ≤ m) (h1 : m < t.nd.length) (h : n ∈ (nth t.nd m.toNat).kd) : par t n = m := by
  obtain ⟨P, hP⟩ := dv_line hv
  have hn : 0 ≤ par t n := fi_iff.2 ⟨m.toNat, Nat.zero_le _, by omega, decide_eq_true h⟩
  obtain ⟨_, g2, g3, _⟩ := fi_val hn
  refine hP.one (dv_ki hv) hn ?_ h0 h1 (of_decide_eq_true g3) h
  have : (par t n).toNat < 0 + t.nd.length := g2
  omega
theorem Up.par {t : Dt} (hv : dvE t = 0) {f : Nat} {n : Int} (h : Up t f n) (hn : n ≠ 0) : Up t (f - 1) (par t n) ∧ 0 ≤ par t n ∧ par t n < t.nd.length ∧ n ∈ (nth t.nd (par t n).toNat).kd := by
  have hp := h.pos hn
  have h' := h
  obtain ⟨P, s, hP, hs, h2, h3⟩ := h
  have hs0 : 0 < s := by
    rcases Nat.eq_zero_or_pos s with e | e
    · subst e; rw [hP.head.1] at h2; exact (hn h2.symm).elim
    · exact e
  obtain ⟨j, g1, g2⟩ := hP.1.par hs0 hs
  rw [h2] at g2
  have hr := hP.1.rng (dv_ki hv) _ (nth_mem (show j < P.length by omega))
  have e := par_of hv hr.1 hr.2 g2
  rw [e]
  exact ⟨⟨P, j, hP, by omega, rfl, by omega⟩, hr.1, hr.2, g2⟩
end Go.Proofs.Ytmnjchcoigbngaa
namespace Go.Proofs.Ytmnjchcoigbngaa
set_option linter.unusedSectionVars false
section
variable {α : Type} [Inhabited α]
def rvL (l : List α) (k : Nat) : List α := (List.range l.length).map fun m => if m < k ∨ l.length ≤ m + k then nth l (l.length - 1 - m) else nth l m
theorem rv_len (l : List α) (k : Nat) : (rvL l k).length = l.length := by simp [rvL]
theorem rv_nth {l : List α} {k m : Nat} (h : m < l.length) : nth (rvL l k) m = if m < k ∨ l.length ≤ m + k then nth l (l.length - 1 - m) else nth l m := by
  unfold rvL
  rw [← nth_getElem (by simpa using h)]
  simp
theorem rv_zero (l : List α) : rvL l 0 = l := by
  refine nth_ext (rv_len l 0) fun m hm => ?_
  rw [rv_len] at hm
  rw [rv_nth hm, if_neg (by omega)]
theorem nth_set' {l : List α} {i j : Nat} {x : α} (hi : i < l.length) (hj : j < l.length) : nth (l.set i x) j = if i = j then x else nth l j := by
  rw [← nth_getElem (by simpa using hj), List.getElem_set, nth_getElem]
theorem rv_step {l : List α} {k j : Nat} (hj : k + j + 1 = l.length) (h : k < j) : ((rvL l k).set k (nth (rvL l k) j)).set j (nth (rvL l k) k) = rvL l (k + 1) := by
  have hl := rv_len l k
  refine nth_ext (by rw [List.length_set, List.length_set, hl, rv_len]) fun m hm => ?_
  rw [List.length_set, List.length_set, hl] at hm
  rw [nth_set' (by rw [List.length_set, hl]; omega) (by rw [List.length_set, hl]; omega), nth_set' (by rw [hl]; omega) (by rw [hl]; omega), rv_nth hm, rv_nth hm, rv_nth (show j < l.length by omega), rv_nth (show k < l.length by omega)]
  by_cases e1 : j = m
  · subst e1
    rw [if_pos rfl, if_neg (by omega), if_pos (by omega)]
    congr 1; omega
  · rw [if_neg e1]
    by_cases e2 : k = m
    · subst e2
      rw [if_pos rfl, if_neg (by omega), if_pos (by omega)]
      congr 1; omega
    · rw [if_neg e2]
      by_cases e3 : m < k ∨ l.length ≤ m + k
      · rw [if_pos e3, if_pos (by omega)]
      · rw [if_neg e3, if_neg (by omega)]
theorem rv_end {l : List α} {k : Nat} (h : l.length ≤ 2 * k + 1) (hk : 2 * k ≤ l.length + 1) : rvL l k = l.reverse := by
  refine nth_ext (by rw [rv_len, List.length_reverse]) fun m hm => ?_
  rw [rv_len] at hm
  have e : nth l.reverse m = nth l (l.length - 1 - m) := by
    rw [← nth_getElem (by rw [List.length_reverse]; exact hm), List.getElem_reverse, nth_getElem]
  rw [rv_nth hm, e]
  split
  · rfl
  · congr 1; omega
def inW (p : Nat) (x : α) (l : List α) : List α := l.take p ++ x :: l.drop p
theorem inW_len (p : Nat) (x : α) (l : List α) : (inW p x l).length = l.length + 1 := by
  unfold inW; simp; omega
theorem mem_inW {p : Nat} {x y : α} {l : List α} : y ∈ inW p x l ↔ y = x ∨ y ∈ l := by
  have e : l = l.take p ++ l.drop p := (List.take_append_drop p l).symm
  unfold inW
  constructor
  · intro h
    rcases List.mem_append.1 h with h | h
    · exact .inr (List.mem_of_mem_take h)
    · rcases List.mem_cons.1 h with h | h
      · exact .inl h
      · exact .inr (List.mem_of_mem_drop h)
  · intro h
    rcases h with h | h
    · subst h; exact List.mem_append_right _ (by simp)
    · rw [e] at h
      rcases List.mem_append.1 h with h | h
      · exact List.mem_append_left _ h
      · exact List.mem_append_right _ (List.mem_cons_of_mem _ h)
end
def gNd (x : Nd) (outs : List Int) (kid : Int) : Nd := ⟨x.lf, x.ac, x.sf, inW (lxN x.ou outs) outs x.ou, inW (lxN x.ou outs) kid x.kd⟩
def noE (t : Dt) (n : Int) (leaf : Bool) : Int := if n < 0 ∨ (t.nd.length : Int) ≤ n then 2 else if (nth t.nd n.toNat).lf ≠ leaf then 10 else 0
def fsE (t : Dt) (w : List Int) : Int := if wchk w 64 ≠ 0 then wchk w 64 else if w ∈ acL t.nd then 7 else 0
def grE (t : Dt) (n : Int) (outs w : List Int) : Int :=
  if dvE t ≠ 0 then dvE t else if noE t n false ≠ 0 then noE t n false else if vlE outs (nth t.nd n.toNat).sf ≠ 0 then vlE outs (nth t.nd n.toNat).sf else
  if lxH (nth t.nd n.toNat).ou outs then 7 else if fsE t w ≠ 0 then fsE t w else if 4096 ≤ t.nd.length then 11 else 0
def lfN (w : List Int) : Nd := ⟨true, w, [], [], []⟩
def grT (t : Dt) (n : Int) (outs w : List Int) : Dt := if grE t n outs w = 0 then ⟨t.nd.set n.toNat (gNd (nth t.nd n.toNat) outs t.nd.length) ++ [lfN w]⟩ else t
structure Ct where
  lf : Int
  sf : List Int
  ou : List Int
  ac : List Int
  ot : List Int
  deriving Inhabited
abbrev cCt (c : Ct) : List V := [iV c.lf, ints c.sf, ints c.ou, ints c.ac, ints c.ot]
def spsE (t : Dt) (n : Int) (sf outs w other : List Int) : Int :=
  if noE t n true ≠ 0 then noE t n true else if sf.length = 0 then 19 else if wchk sf 64 ≠ 0 then wchk sf 64 else if vlE outs sf ≠ 0 then vlE outs sf else
  if fsE t w ≠ 0 then fsE t w else if vlE other sf ≠ 0 then vlE other sf else if outs = other then 15 else if 4094 < t.nd.length then 11 else 0
def spE (t : Dt) (n : Int) (sf outs w other : List Int) : Int := if dvE t ≠ 0 then dvE t else spsE t n sf outs w other
def spO (outs other : List Int) : List (List Int) := if 0 < lexI outs other then [other, outs] else [outs, other]
def spK (outs other : List Int) (n : Nat) : List Int := if 0 < lexI outs other then [(n : Int) + 1, n] else [(n : Int), (n : Int) + 1]
def spN (sf outs other : List Int) (n : Nat) : Nd := ⟨false, [], sf, spO outs other, spK outs other n⟩
def spT (t : Dt) (n : Int) (sf outs w other : List Int) : Dt :=
  if spE t n sf outs w other = 0 then ⟨t.nd.set n.toNat (spN sf outs other t.nd.length) ++ [nth t.nd n.toNat, lfN w]⟩ else t
end Go.Proofs.Ytmnjchcoigbngaa
namespace Go.Proofs.Ytmnjchcoigbngaa
structure Tree (t : Dt) : Prop where
  d1 : ∀ k, k < t.nd.length → (nth t.nd k).kd.Nodup
  d2 : ∀ j k, j < t.nd.length → k < t.nd.length → j ≠ k → ∀ a ∈ (nth t.nd j).kd, a ∉ (nth t.nd k).kd
  d3 : ∀ k, k < t.nd.length → (0 : Int) ∉ (nth t.nd k).kd
  d4 : ∀ a : Int, 0 < a → a < t.nd.length → ∃ k, k < t.nd.length ∧ a ∈ (nth t.nd k).kd
  rk : ∃ r : Int → Nat, ∀ k : Nat, k < t.nd.length → ∀ a ∈ (nth t.nd k).kd, r k < r a
def kO (t : Dt) (a : Int) : List Int := (nth t.nd a.toNat).kd
theorem ln_flat {t : Dt} : ∀ {i : Nat} {P : List Int}, Ln t i P → P = 0 :: (P.take i).flatMap (kO t) := by
  intro i P h
  induction h with
  | zero => rfl
  | step h hi ih =>
    rename_i i P
    have e : (qS t P i).take (i + 1) = P.take i ++ [nth P i] := by
      unfold qS; rw [List.take_append_of_le_length (by omega), take_succ_nth hi]
    rw [e, List.flatMap_append, ← List.cons_append, ← ih]
    simp [qS, kO]
theorem whole_tree {t : Dt} (hk : KI t) (h : Whole t) : Tree t := by
  obtain ⟨P, hP⟩ := h
  have hP : Plc t P := hP
  have hf := ln_flat hP.1
  rw [List.take_length] at hf
  have hn := hP.2.1
  rw [hf, List.nodup_cons] at hn
  have hn2 : (P.flatMap (kO t)).Pairwise (· ≠ ·) := hn.2
  rw [List.pairwise_flatMap] at hn2
  have hall : ∀ k : Nat, k < t.nd.length → ∃ s, s < P.length ∧ nth P s = (k : Int) := fun k hk' => hP.all hk (by omega) (by omega)
  refine ⟨fun k hk' => ?_, fun j k hj hk' hne a ha hb => ?_, fun k hk' h0 => ?_, fun a h0 h1 => ?_, ?_⟩
  · obtain ⟨s, hs, e⟩ := hall k hk'
    have := hn2.1 (k : Int) (e ▸ nth_mem hs)
    have h2 : (kO t (k : Int)).Nodup := this
    simpa only [kO, Int.toNat_natCast] using h2
  · have := hP.one hk (m := (j : Int)) (m' := (k : Int)) (by omega) (by omega) (by omega) (by omega) (by simpa using ha) (by simpa using hb)
    omega
  · obtain ⟨s, hs, e⟩ := hall k hk'
    obtain ⟨s', g1, g2, g3⟩ := hP.kid hs (a := 0) (by rw [e]; simpa using h0)
    have := nd_inj hP.2.1 g2 (show 0 < P.length by omega) (by rw [g3, hP.head.1])
    omega
  · obtain ⟨s, hs, e⟩ := hP.all hk (a := a) (by omega) h1
    have hs0 : 0 < s := by
      rcases Nat.eq_zero_or_pos s with q | q
      · subst q; rw [hP.head.1] at e; omega
      · exact q
    obtain ⟨j, g1, g2⟩ := hP.1.par hs0 hs
    have := hP.1.rng hk _ (nth_mem (show j < P.length by omega))
    exact ⟨(nth P j).toNat, by omega, e ▸ g2⟩
  · refine ⟨fun a => if h : ∃ s, s < P.length ∧ nth P s = a then h.choose else 0, fun k hk' a ha => ?_⟩
    have h1 := hall k hk'
    obtain ⟨s', g1, g2, g3⟩ := hP.kid h1.choose_spec.1 (a := a) (by rw [h1.choose_spec.2]; simpa using ha)
    have h2 : ∃ s, s < P.length ∧ nth P s = a := ⟨s', g2, g3⟩
    have e := nd_inj hP.2.1 h2.choose_spec.1 g2 (by rw [h2.choose_spec.2, g3])
    show (if h : ∃ s, s < P.length ∧ nth P s = (k : Int) then h.choose else 0) < (if h : ∃ s, s < P.length ∧ nth P s = a then h.choose else 0)
    rw [dif_pos h1, dif_pos h2, e]
    exact g1
theorem tree_ln {t : Dt} (hk : KI t) (h : Tree t) : ∀ {i : Nat} {L : List Int}, Ln t i L → L.Nodup := by
  intro i L hl
  induction hl with
  | zero => simp
  | step hl hi ih =>
    rename_i i L
    have hstep : Ln t (i + 1) (qS t L i) := .step hl hi
    have e : (qS t L i).take (i + 1) = L.take (i + 1) := by
      unfold qS; rw [List.take_append_of_le_length (by omega)]
    have hf := ln_flat hstep
    rw [e] at hf
    rw [hf, List.nodup_cons]
    have hr := hl.rng hk
    have hm : ∀ a ∈ L.take (i + 1), 0 ≤ a ∧ a < t.nd.length := fun a ha => hr a (List.mem_of_mem_take ha)
    constructor
    · intro h0
      obtain ⟨a, ha, hb⟩ := List.mem_flatMap.1 h0
      have := hm a ha
      exact h.d3 a.toNat (by omega) hb
    · show ((L.take (i + 1)).flatMap (kO t)).Pairwise (· ≠ ·)
      rw [List.pairwise_flatMap]
      refine ⟨fun a ha => ?_, ?_⟩
      · have := hm a ha
        exact h.d1 a.toNat (by omega)
      · have hs : (L.take (i + 1)).Nodup := ih.sublist (List.take_sublist _ _)
        refine List.pairwise_iff_getElem.2 fun p q hp hq hpq x hx y hy e => ?_
        subst e
        have hne := (List.pairwise_iff_getElem.1 hs) p q hp hq hpq
        have h1 := hm _ (List.getElem_mem hp)
        have h2 := hm _ (List.getElem_mem hq)
        exact h.d2 _ _ (by omega) (by omega) (fun e => hne (by omega)) x hx hy
theorem tree_whole {t : Dt} (hk : KI t) (h : Tree t) : whB t = true := by
  have hs := whN_spec hk t.nd.length 0 (wh0 t) .zero ((Mk.none t.nd.length).set (a := 0) (by omega) (by have := hk.pos; omega)) (by simp [wh0]) (by omega)
  unfold whB
  cases hq : whN t t.nd.length 0 (wh0 t) with
  | none =>
    rw [hq] at hs
    obtain ⟨j, L, g1, g2⟩ := hs
    exact (g2 (tree_ln hk h g1)).elim
  | some Q =>
    rw [hq] at hs
    obtain ⟨g1, g2⟩ := hs
    simp only [decide_eq_true_eq]
    have hle := nd_bound (g1.rng hk) g2
    obtain ⟨r, hr⟩ := h.rk
    have h0 : nth Q.1 0 = 0 ∧ 0 < Q.1.length := by
      have hd : ∀ {i : Nat} {P : List Int}, Ln t i P → nth P 0 = 0 ∧ 0 < P.length := by
        intro i P h
        induction h with
        | zero => exact ⟨rfl, by simp⟩
        | step h hi ih => exact ⟨by unfold qS; rw [nth_app_l ih.2]; exact ih.1, by unfold qS; rw [List.length_append]; omega⟩
      exact hd g1
    have hall : ∀ n : Nat, ∀ a : Int, r a < n → 0 ≤ a → a < t.nd.length → a ∈ Q.1 := by
      intro n
      induction n with
      | zero => intro a h1; omega
      | succ n ih =>
        intro a h1 h2 h3
        by_cases e : a = 0
        · rw [e, ← h0.1]; exact nth_mem h0.2
        · obtain ⟨k, k1, k2⟩ := h.d4 a (by omega) h3
          have hk2 := hr k k1 a k2
          obtain ⟨s, s1, s2⟩ := in_nth (ih (k : Int) (by omega) (by omega) (by omega))
          obtain ⟨s', _, s4, s5⟩ := g1.kid s1 (a := a) (by rw [s2]; simpa using k2)
          rw [← s5]; exact nth_mem s4
    have hge := nd_le (l := (List.range t.nd.length).map Int.ofNat) (m := Q.1) (by
        rw [List.Nodup, List.pairwise_map]
        exact List.nodup_range.imp fun hab e => hab (by have q : (_ : Int) = _ := e; exact Int.ofNat.inj q)) (fun a ha => by
        obtain ⟨k, k1, rfl⟩ := List.mem_map.1 ha
        exact hall (r (Int.ofNat k) + 1) _ (by omega) (by simp) (by have := List.mem_range.1 k1; simp; omega))
    simp at hge
    omega
theorem nd_perm {α : Type} [BEq α] [LawfulBEq α] : ∀ {A L : List α}, A.Nodup → (∀ a ∈ A, a ∈ L) → L.length ≤ A.length → A.Perm L
  | [], L, _, _, h => by
    have : L = [] := List.eq_nil_of_length_eq_zero (by simpa using h)
    rw [this]
  | a :: A, L, hn, hs, hl => by
    obtain ⟨h1, h2⟩ := List.nodup_cons.1 hn
    have ha := hs a (by simp)
    have hp := List.perm_cons_erase ha
    have hlen := hp.length_eq
    simp only [List.length_cons] at hlen hl
    refine List.Perm.trans (List.Perm.cons a (nd_perm h2 (fun b hb => ?_) (by omega))) hp.symm
    have := hp.mem_iff.1 (hs b (List.mem_cons_of_mem _ hb))
    rcases List.mem_cons.1 this with e | e
    · exact (h1 (e ▸ hb)).elim
    · exact e
theorem sdW_nd (l : List (List Int)) : (sdW l).Nodup := List.Pairwise.imp (fun {a b} (h : slx a b < 0) (e : a = b) => slx_irr b (by rw [e] at h; exact h)) (sdW_srt l)
theorem sdW_full {l : List (List Int)} : (sdW l).length = l.length ↔ l.Nodup := by
  constructor
  · intro h
    exact (nd_perm (sdW_nd l) (fun a ha => (mem_sdW l a).1 ha) (by omega)).nodup (sdW_nd l)
  · intro h
    exact ((List.perm_ext_iff_of_nodup (sdW_nd l) h).2 fun a => mem_sdW l a).length_eq
theorem sdW_ext {l m : List (List Int)} (h : ∀ u, u ∈ l ↔ u ∈ m) : sdW l = sdW m :=
  srtW_ext (sdW_srt l) (sdW_srt m) fun u => by rw [mem_sdW, mem_sdW]; exact h u
theorem split_at {l : List Nd} {n : Nat} (h : n < l.length) : l = l.take n ++ nth l n :: l.drop (n + 1) := by
  rw [← nth_drop h, List.take_append_drop]
theorem set_at {l : List Nd} {n : Nat} (h : n < l.length) (x : Nd) : l.set n x = l.take n ++ x :: l.drop (n + 1) := by
  rw [List.set_eq_take_append_cons_drop, if_pos h]
theorem acL_app (l m : List Nd) : acL (l ++ m) = acL l ++ acL m := by simp [acL]
theorem acL_cons (x : Nd) (l : List Nd) : acL (x :: l) = (if x.lf = true then [x.ac] else []) ++ acL l := by
  unfold acL; cases h : x.lf <;> simp [List.filter_cons, h]
theorem acL_grow {l : List Nd} {n : Nat} (h : n < l.length) (hl : (nth l n).lf = false) {x : Nd} (hx : x.lf = false) (w : List Int) : acL (l.set n x ++ [lfN w]) = acL l ++ [w] := by
  rw [set_at h, acL_app, acL_app, acL_cons, hx]
  conv => rhs; rw [split_at h, acL_app, acL_cons, hl]
  simp [acL, lfN]
theorem acL_split {l : List Nd} {n : Nat} (h : n < l.length) (hl : (nth l n).lf = true) {x : Nd} (hx : x.lf = false) (w : List Int) : (acL (l.set n x ++ [nth l n, lfN w])).Perm (acL l ++ [w]) := by
  have e1 : acL (l.set n x ++ [nth l n, lfN w]) = acL (l.take n) ++ (acL (l.drop (n + 1)) ++ [(nth l n).ac]) ++ [w] := by
    rw [set_at h, acL_app, acL_app, acL_cons, hx, acL_cons, hl]; simp [acL, lfN]
  have e2 : acL l = acL (l.take n) ++ ((nth l n).ac :: acL (l.drop (n + 1))) := by
    conv => lhs; rw [split_at h, acL_app, acL_cons, hl]
    simp
  rw [e1, e2]
  refine List.Perm.append_right _ (List.Perm.append_left _ ?_)
  exact List.perm_append_comm (l₁ := acL (l.drop (n + 1))) (l₂ := [(nth l n).ac])
theorem in_mk {x : Nd} {n : Nat} (h : InOk x n) : inE2 x n = 0 := by
  unfold inE2
  have h0 := h.s0
  rw [if_neg (by rw [h.ac]; simp), if_neg (by omega), if_neg (by rw [h.sw]; simp), if_neg (by rw [h.len]; simp)]
  refine fe_zero_iff.2 fun k _ hk => ?_
  have hk : k < x.ou.length := by omega
  have hr := h.kr _ (nth_mem (show k < x.kd.length by rw [← h.len]; exact hk))
  unfold chE
  rw [if_neg (by rw [h.ov k hk]; simp), if_neg, if_neg (by omega)]
  rintro ⟨q1, q2⟩
  have := srtL_lt h.srt (show k - 1 < k by omega) hk
  omega
theorem vl_mk {x : Nd} {n : Nat} (h : InOk x n) {m : Nat} (hm : n ≤ m) : InOk x m :=
  ⟨h.ac, h.s0, h.sw, h.len, h.ov, h.srt, fun a ha => by have := h.kr a ha; omega⟩
theorem nd_mono {x : Nd} {n m : Nat} (h : ndE x n = 0) (hm : n ≤ m) : ndE x m = 0 := by
  unfold ndE at h ⊢
  split at h
  · rename_i q; rw [if_pos q]; exact h
  · rename_i q; rw [if_neg q]; exact in_mk (vl_mk (in_ok h) hm)
theorem inW_srt {l : List (List Int)} (hs : SrtL l) {w : List Int} (hx : ¬lxH l w) : SrtL (inW (lxN l w) w l) := by
  unfold SrtL inW
  have hs' : (l.take (lxN l w) ++ l.drop (lxN l w)).Pairwise fun a b => lexI a b < 0 := by rw [List.take_append_drop]; exact hs
  rw [List.pairwise_append] at hs' ⊢
  have hlow : ∀ a ∈ l.take (lxN l w), lexI a w < 0 := fun a ha => by
    obtain ⟨k, hk, rfl⟩ := in_nth ha
    have hk' : k < lxN l w ∧ k < l.length := by simp at hk; omega
    rw [nth_take hk'.1]
    exact (lx_iff hs hk'.2).2 hk'.1
  have hup : ∀ b ∈ l.drop (lxN l w), lexI w b < 0 := fun b hb => by
    obtain ⟨k, hk, rfl⟩ := in_nth hb
    have hk' : lxN l w + k < l.length := by simp at hk; omega
    rw [nth_dropn]
    have h1 : ¬lexI (nth l (lxN l w + k)) w < 0 := fun q => by have := (lx_iff hs hk').1 q; omega
    rcases lexI_tot (nth l (lxN l w + k)) w with e | e | e
    · have := lxH_iff hs hk' (lexI_zero.1 e); exact (hx this.2).elim
    · omega
    · exact lexI_pos (by omega)
  refine ⟨hs'.1, List.pairwise_cons.2 ⟨hup, hs'.2.1⟩, fun a ha b hb => ?_⟩
  rcases List.mem_cons.1 hb with rfl | hb
  · exact hlow a ha
  · exact hs'.2.2 a ha b hb
theorem nth_snoc {l : List Nd} {n : Nat} (hn : n < l.length) (x : Nd) (m : List Nd) (k : Nat) : nth (l.set n x ++ m) k = if k < l.length then (if n = k then x else nth l k) else nth m (k - l.length) := by
  by_cases h : k < l.length
  · rw [if_pos h, nth_app_l (by simpa using h), nth_set hn]
  · rw [if_neg h]
    have e : k = (l.set n x).length + (k - l.length) := by rw [List.length_set]; omega
    rw [e, nth_app_r, List.length_set]; congr 1; omega
end Go.Proofs.Ytmnjchcoigbngaa
namespace Go.Proofs.Ytmnjchcoigbngaa
theorem tree_ext {t t' : Dt} (hk : KI t) (h : Tree t) {n m : Nat} (hn : n < t.nd.length) (hN : t'.nd.length = t.nd.length + m)
    (hkd : ∀ k, k < t.nd.length + m → ∀ a, a ∈ (nth t'.nd k).kd ↔ (k < t.nd.length ∧ a ∈ (nth t.nd k).kd) ∨ (k = n ∧ (t.nd.length : Int) ≤ a ∧ a < ((t.nd.length + m : Nat) : Int)))
    (hd : ∀ k, k < t.nd.length + m → (nth t'.nd k).kd.Nodup) : Tree t' := by
  have hr : ∀ k a, k < t.nd.length → a ∈ (nth t.nd k).kd → 0 ≤ a ∧ a < t.nd.length := fun k a h1 h2 => hk.rng k h1 a h2
  refine ⟨fun k hk' => hd k (by omega), fun j k hj hk' hne a ha hb => ?_, fun k hk' h0 => ?_, fun a h0 h1 => ?_, ?_⟩
  · rcases (hkd j (by omega) a).1 ha with q | q <;> rcases (hkd k (by omega) a).1 hb with p | p
    · exact h.d2 j k q.1 p.1 hne a q.2 p.2
    · have := hr _ _ q.1 q.2; omega
    · have := hr _ _ p.1 p.2; omega
    · omega
  · rcases (hkd k (by omega) 0).1 h0 with q | q
    · exact h.d3 k q.1 q.2
    · have := hk.pos; omega
  · by_cases e : a < t.nd.length
    · obtain ⟨k, k1, k2⟩ := h.d4 a h0 e
      exact ⟨k, by omega, (hkd k (by omega) a).2 (.inl ⟨k1, k2⟩)⟩
    · exact ⟨n, by omega, (hkd n (by omega) a).2 (.inr ⟨rfl, by omega, by omega⟩)⟩
  · obtain ⟨r, hr2⟩ := h.rk
    refine ⟨fun a => if a < t.nd.length then r a else r n + 1, fun k hk' a ha => ?_⟩
    rcases (hkd k (by omega) a).1 ha with q | q
    · have := hr _ _ q.1 q.2
      simp only
      rw [if_pos (by omega), if_pos this.2]
      exact hr2 k q.1 a q.2
    · obtain ⟨rfl, q2, q3⟩ := q
      simp only
      rw [if_pos (by omega), if_neg (by omega)]
      omega
theorem inW_nd {p : Nat} {x : Int} {l : List Int} (h : l.Nodup) (hx : x ∉ l) : (inW p x l).Nodup := by
  unfold inW
  have h' : (l.take p ++ l.drop p).Nodup := by rw [List.take_append_drop]; exact h
  rw [List.nodup_append] at h' ⊢
  refine ⟨h'.1, List.nodup_cons.2 ⟨fun q => hx (List.mem_of_mem_drop q), h'.2.1⟩, fun a ha b hb => ?_⟩
  rcases List.mem_cons.1 hb with rfl | hb
  · intro e; exact hx (e ▸ List.mem_of_mem_take ha)
  · exact h'.2.2 a ha b hb
theorem dv_ext {t t' : Dt} (hv : dvE t = 0) {n m : Nat} (hn : n < t.nd.length) (hN : t'.nd.length = t.nd.length + m) (hl : t.nd.length + m ≤ 4096)
    (hkd : ∀ k, k < t.nd.length + m → ∀ a, a ∈ (nth t'.nd k).kd ↔ (k < t.nd.length ∧ a ∈ (nth t.nd k).kd) ∨ (k = n ∧ (t.nd.length : Int) ≤ a ∧ a < ((t.nd.length + m : Nat) : Int)))
    (hd : ∀ k, k < t.nd.length + m → (nth t'.nd k).kd.Nodup) (he : ∀ k, k < t.nd.length + m → ndE (nth t'.nd k) (t.nd.length + m) = 0) {w : List Int} (hw : w ∉ acL t.nd) (hp : (acL t'.nd).Perm (acL t.nd ++ [w])) :
    dvE t' = 0 ∧ sdW (acL t'.nd) = sdW (sdW (acL t.nd) ++ [w]) ∧ (sdW (acL t'.nd)).length = (sdW (acL t.nd)).length + 1 := by
  have h1 := dv_ok hv
  have hki : KI t' := nds_ki (by omega) fun k hk => by rw [hN] at hk ⊢; exact he k hk
  have htr : Tree t' := tree_ext (dv_ki hv) (whole_tree (dv_ki hv) (dv_line hv)) hn hN hkd hd
  have hwh := tree_whole hki htr
  have hnd0 : (acL t.nd).Nodup := sdW_full.1 h1.2.2.2.2
  have hnd : (acL t'.nd).Nodup := by
    refine hp.symm.nodup ?_
    rw [List.nodup_append]
    exact ⟨hnd0, by simp, fun a ha b hb => by rw [List.mem_singleton.1 hb]; intro e; exact hw (e ▸ ha)⟩
  have hlen := sdW_full.2 hnd
  refine ⟨?_, sdW_ext fun u => ?_, ?_⟩
  · unfold dvE
    have hf : fe (fun k => ndE (nth t'.nd k) t'.nd.length) 0 t'.nd.length = 0 := fe_zero_iff.2 fun k _ hk => by
      have := he k (by omega)
      rw [hN]; exact this
    rw [if_neg (by omega), if_neg (by omega), if_neg (by rw [hf]; simp), if_neg (by rw [hwh]; simp), if_neg (by rw [hlen]; simp)]
  · rw [hp.mem_iff, List.mem_append, List.mem_append, mem_sdW]
  · rw [hlen, hp.length_eq, List.length_append, h1.2.2.2.2]; rfl
theorem no_ok {t : Dt} {n : Int} {b : Bool} (h : noE t n b = 0) : 0 ≤ n ∧ n < t.nd.length ∧ (nth t.nd n.toNat).lf = b := by
  unfold noE at h
  split at h
  · omega
  · split at h
    · omega
    · rename_i q; exact ⟨by omega, by omega, Decidable.not_not.1 q⟩
theorem fs_ok {t : Dt} {w : List Int} (h : fsE t w = 0) : wchk w 64 = 0 ∧ w ∉ acL t.nd := by
  unfold fsE at h
  split at h
  · rename_i q; exact (q h).elim
  · split at h
    · omega
    · rename_i q1 q2; exact ⟨by omega, q2⟩
theorem gr_ok {t : Dt} {n : Int} {outs w : List Int} (h : grE t n outs w = 0) : dvE t = 0 ∧ noE t n false = 0 ∧ vlE outs (nth t.nd n.toNat).sf = 0 ∧ ¬lxH (nth t.nd n.toNat).ou outs ∧ fsE t w = 0 ∧ t.nd.length < 4096 := by
  unfold grE at h
  split at h
  · rename_i q; exact (q h).elim
  · split at h
    · rename_i q; exact (q h).elim
    · split at h
      · rename_i q; exact (q h).elim
      · split at h
        · omega
        · split at h
          · rename_i q; exact (q h).elim
          · split at h
            · omega
            · rename_i q1 q2 q3 q4 q5 q6
              exact ⟨by omega, by omega, by omega, q4, by omega, by omega⟩
theorem lf_nd {w : List Int} (h : wchk w 64 = 0) (n : Nat) : ndE (lfN w) n = 0 := by
  unfold ndE lfN lfE; simpa using h
theorem grow_ok {t : Dt} {n : Int} {outs w : List Int} (h : grE t n outs w = 0) :
    dvE (grT t n outs w) = 0 ∧ sdW (acL (grT t n outs w).nd) = sdW (sdW (acL t.nd) ++ [w]) ∧ (sdW (acL (grT t n outs w).nd)).length = (sdW (acL t.nd)).length + 1 := by
  obtain ⟨hv, h1, h2, h3, h4, h5⟩ := gr_ok h
  obtain ⟨n0, n1, hl⟩ := no_ok h1
  obtain ⟨w1, w2⟩ := fs_ok h4
  have hn : n.toNat < t.nd.length := by omega
  have hin := nd_in hv hn hl
  have hlx := lx_le (w := outs) (nth t.nd n.toNat).ou
  have hg : InOk (gNd (nth t.nd n.toNat) outs t.nd.length) (t.nd.length + 1) := by
    refine ⟨hin.ac, hin.s0, hin.sw, ?_, fun k hk => ?_, inW_srt hin.srt h3, fun a ha => ?_⟩
    · simp only [gNd]; rw [inW_len, inW_len, hin.len]
    · have hm : nth (gNd (nth t.nd n.toNat) outs t.nd.length).ou k ∈ inW (lxN (nth t.nd n.toNat).ou outs) outs (nth t.nd n.toNat).ou := nth_mem hk
      rcases mem_inW.1 hm with e | e
      · rw [e]; exact h2
      · obtain ⟨j, hj, e2⟩ := in_nth e
        rw [← e2]; exact hin.ov j hj
    · rcases mem_inW.1 ha with e | e
      · rw [e]; omega
      · have := hin.kr a e; omega
  have hglf : (gNd (nth t.nd n.toNat) outs t.nd.length).lf = false := hl
  unfold grT
  rw [if_pos h]
  have hnth := nth_snoc hn (gNd (nth t.nd n.toNat) outs t.nd.length) [lfN w]
  refine dv_ext hv hn (m := 1) (by simp) (by omega) (fun k hk a => ?_) (fun k hk => ?_) (fun k hk => ?_) w2 (by rw [acL_grow hn hl hglf])
  · rw [hnth]
    by_cases e : k < t.nd.length
    · rw [if_pos e]
      by_cases e2 : n.toNat = k
      · rw [if_pos e2, ← e2]
        show a ∈ inW _ _ _ ↔ _
        rw [mem_inW]
        constructor
        · rintro (q | q)
          · exact .inr ⟨rfl, by omega, by omega⟩
          · exact .inl ⟨hn, q⟩
        · rintro (q | q)
          · exact .inr q.2
          · exact .inl (by omega)
      · rw [if_neg e2]
        exact ⟨fun q => .inl ⟨e, q⟩, fun q => q.elim (fun p => p.2) fun p => (e2 p.1.symm).elim⟩
    · rw [if_neg e, show k - t.nd.length = 0 by omega]
      show a ∈ ([] : List Int) ↔ _
      constructor
      · intro q; cases q
      · rintro (q | q)
        · exact (e q.1).elim
        · omega
  · rw [hnth]
    have htr := whole_tree (dv_ki hv) (dv_line hv)
    split
    · split
      · exact inW_nd (htr.d1 _ hn) fun q => by have := hin.kr _ q; omega
      · exact htr.d1 k (by omega)
    · rw [show k - t.nd.length = 0 by omega]; exact List.nodup_nil
  · rw [hnth]
    split
    · split
      · unfold ndE; rw [hglf, if_neg (by simp)]; exact in_mk hg
      · exact nd_mono ((dv_ok hv).2.2.1 k (by omega)) (by omega)
    · rw [show k - t.nd.length = 0 by omega]; exact lf_nd w1 _
theorem sp_ok {t : Dt} {n : Int} {sf outs w other : List Int} (h : spE t n sf outs w other = 0) :
    dvE t = 0 ∧ noE t n true = 0 ∧ 0 < sf.length ∧ wchk sf 64 = 0 ∧ vlE outs sf = 0 ∧ fsE t w = 0 ∧ vlE other sf = 0 ∧ outs ≠ other ∧ t.nd.length ≤ 4094 := by
  unfold spE at h
  split at h
  · rename_i q; exact (q h).elim
  · rename_i q0
    unfold spsE at h
    split at h
    · rename_i q; exact (q h).elim
    · split at h
      · omega
      · split at h
        · rename_i q; exact (q h).elim
        · split at h
          · rename_i q; exact (q h).elim
          · split at h
            · rename_i q; exact (q h).elim
            · split at h
              · rename_i q; exact (q h).elim
              · split at h
                · omega
                · split at h
                  · omega
                  · rename_i q1 q2 q3 q4 q5 q6 q7 q8
                    exact ⟨by omega, by omega, by omega, by omega, by omega, by omega, by omega, q7, by omega⟩
theorem spK_mem {outs other : List Int} {n : Nat} {a : Int} : a ∈ spK outs other n ↔ (n : Int) ≤ a ∧ a < ((n + 2 : Nat) : Int) := by
  unfold spK; split <;> simp <;> omega
theorem split_ok {t : Dt} {n : Int} {sf outs w other : List Int} (h : spE t n sf outs w other = 0) :
    dvE (spT t n sf outs w other) = 0 ∧ sdW (acL (spT t n sf outs w other).nd) = sdW (sdW (acL t.nd) ++ [w]) ∧ (sdW (acL (spT t n sf outs w other).nd)).length = (sdW (acL t.nd)).length + 1 := by
  obtain ⟨hv, h1, s0, s1, h2, h4, h3, hne, h5⟩ := sp_ok h
  obtain ⟨n0, n1, hl⟩ := no_ok h1
  obtain ⟨w1, w2⟩ := fs_ok h4
  have hn : n.toNat < t.nd.length := by omega
  have hlf := nd_lf hv hn hl
  have hg : InOk (spN sf outs other t.nd.length) (t.nd.length + 2) := by
    refine ⟨rfl, s0, s1, ?_, fun k hk => ?_, ?_, fun a ha => ?_⟩
    · simp only [spN, spO, spK]; split <;> rfl
    · have hm : nth (spO outs other) k ∈ spO outs other := nth_mem hk
      have : nth (spO outs other) k = outs ∨ nth (spO outs other) k = other := by
        unfold spO at hm ⊢; split at hm
        · rename_i q; rw [if_pos q]; simp at hm; exact hm.symm
        · rename_i q; rw [if_neg q]; simp at hm; exact hm
      show vlE (nth (spO outs other) k) sf = 0
      rcases this with e | e
      · rw [e]; exact h2
      · rw [e]; exact h3
    · show SrtL (spO outs other)
      unfold spO SrtL
      split
      · rename_i q; simp; exact lexI_pos q
      · rename_i q
        simp
        rcases lexI_tot outs other with e | e | e
        · exact (hne (lexI_zero.1 e)).elim
        · omega
        · omega
    · have := spK_mem.1 ha; omega
  unfold spT
  rw [if_pos h]
  have hnth := nth_snoc hn (spN sf outs other t.nd.length) [nth t.nd n.toNat, lfN w]
  have hm : ∀ k, k < t.nd.length + 2 → ¬k < t.nd.length → nth [nth t.nd n.toNat, lfN w] (k - t.nd.length) = nth t.nd n.toNat ∨ nth [nth t.nd n.toNat, lfN w] (k - t.nd.length) = lfN w := fun k hk e => by
    rcases Nat.lt_or_ge k (t.nd.length + 1) with q | q
    · rw [show k - t.nd.length = 0 by omega]; exact .inl rfl
    · rw [show k - t.nd.length = 0 + 1 by omega]; exact .inr rfl
  refine dv_ext hv hn (m := 2) (by simp) (by omega) (fun k hk a => ?_) (fun k hk => ?_) (fun k hk => ?_) w2 (acL_split hn hl rfl w)
  · rw [hnth]
    by_cases e : k < t.nd.length
    · rw [if_pos e]
      by_cases e2 : n.toNat = k
      · rw [if_pos e2, ← e2, hlf.kd]
        show a ∈ spK _ _ _ ↔ _
        rw [spK_mem]
        constructor
        · intro q; exact .inr ⟨rfl, q⟩
        · rintro (q | q)
          · cases q.2
          · exact q.2
      · rw [if_neg e2]
        exact ⟨fun q => .inl ⟨e, q⟩, fun q => q.elim (fun p => p.2) fun p => (e2 p.1.symm).elim⟩
    · rw [if_neg e]
      have hkd : (nth [nth t.nd n.toNat, lfN w] (k - t.nd.length)).kd = [] := by
        rcases hm k hk e with q | q
        · rw [q, hlf.kd]
        · rw [q]; rfl
      rw [hkd]
      constructor
      · intro q; cases q
      · rintro (q | q)
        · exact (e q.1).elim
        · omega
  · rw [hnth]
    have htr := whole_tree (dv_ki hv) (dv_line hv)
    split
    · split
      · show (spK _ _ _).Nodup
        unfold spK; split <;> simp <;> omega
      · exact htr.d1 k (by omega)
    · rename_i e
      rcases hm k hk e with q | q
      · rw [q, hlf.kd]; exact List.nodup_nil
      · rw [q]; exact List.nodup_nil
  · rw [hnth]
    split
    · split
      · unfold ndE; rw [if_neg (by simp [spN])]; exact in_mk hg
      · exact nd_mono ((dv_ok hv).2.2.1 k (by omega)) (by omega)
    · rename_i e
      rcases hm k hk e with q | q
      · rw [q]; exact nd_mono ((dv_ok hv).2.2.1 _ hn) (by omega)
      · rw [q]; exact lf_nd w1 _
end Go.Proofs.Ytmnjchcoigbngaa
namespace Go.Proofs.Ytmnjchcoigbngaa
def bgN (x : Nd) : Int := if 1100 < x.ac.length ∨ 1100 < x.sf.length ∨ 40 < x.ou.length ∨ 40 < x.kd.length then 1 else fe (fun j => if 1100 < (nth x.ou j).length then 1 else 0) 0 x.ou.length
def bgE (t : Dt) (k : Nat) : Int := bgN (nth t.nd k)
def bgT (t : Dt) : Bool := decide (40 < t.nd.length ∨ fe (bgE t) 0 t.nd.length ≠ 0)
theorem bg_ok {t : Dt} (h : bgT t = false) : t.nd.length ≤ 40 ∧ ∀ k, k < t.nd.length → (nth t.nd k).ac.length ≤ 1100 ∧ (nth t.nd k).sf.length ≤ 1100 ∧ (nth t.nd k).ou.length ≤ 40 ∧ (nth t.nd k).kd.length ≤ 40 ∧ ∀ j, j < (nth t.nd k).ou.length → (nth (nth t.nd k).ou j).length ≤ 1100 := by
  have h1 := of_decide_eq_false h
  have h2 : fe (bgE t) 0 t.nd.length = 0 := Decidable.not_not.1 fun q => h1 (.inr q)
  refine ⟨by omega, fun k hk => ?_⟩
  have h3 := fe_zero_iff.1 h2 k (Nat.zero_le _) (by omega)
  unfold bgE bgN at h3
  split at h3
  · omega
  · rename_i q
    refine ⟨by omega, by omega, by omega, by omega, fun j hj => ?_⟩
    have h4 := fe_zero_iff.1 h3 j (Nat.zero_le _) (by omega)
    by_cases q : 1100 < (nth (nth t.nd k).ou j).length
    · rw [if_pos q] at h4; omega
    · omega
structure Bd (t : Dt) : Prop where
  n : t.nd.length ≤ 4096
  ac : ∀ k, k < t.nd.length → (nth t.nd k).ac.length ≤ 1048576
  sf : ∀ k, k < t.nd.length → (nth t.nd k).sf.length ≤ 1048576
  ou : ∀ k, k < t.nd.length → (nth t.nd k).ou.length ≤ 1048576
  kd : ∀ k, k < t.nd.length → (nth t.nd k).kd.length ≤ 1048576
  ol : ∀ k, k < t.nd.length → ∀ j, j < (nth t.nd k).ou.length → (nth (nth t.nd k).ou j).length ≤ 1048576
theorem bg_bd {t : Dt} (h : bgT t = false) : Bd t := by
  obtain ⟨h1, h2⟩ := bg_ok h
  exact ⟨by omega, fun k hk => by have := (h2 k hk).1; omega, fun k hk => by have := (h2 k hk).2.1; omega, fun k hk => by have := (h2 k hk).2.2.1; omega, fun k hk => by have := (h2 k hk).2.2.2.1; omega,
    fun k hk j hj => by have := (h2 k hk).2.2.2.2 j hj; omega⟩
theorem ou_fe (w : List Int) : (0 ≤ fi (fun j => (fun a => decide (a < 0 ∨ 1048576 < a)) (nth w j)) 0 w.length ↔ fe (ouE w) 0 w.length = 2) ∧ (fe (ouE w) 0 w.length = 0 ∨ fe (ouE w) 0 w.length = 2) := by
  have h := fi_fe (fun j => (fun a => decide (a < 0 ∨ 1048576 < a)) (nth w j)) 2 (by decide) w.length 0
  have e : (fun j => if (fun j => (fun a => decide (a < 0 ∨ 1048576 < a)) (nth w j)) j = true then (2 : Int) else 0) = ouE w := by
    funext j; simp [ouE]
  rw [e] at h
  exact ⟨decide_eq_decide.1 h.1, h.2⟩
structure WI (t : Dt) (P : RS) : Prop where
  mr : Mk t.nd.length P.2 P.1
  nd : P.1.Nodup
  rg : ∀ a ∈ P.1, 0 ≤ a ∧ a < t.nd.length
theorem WI.len {t : Dt} {P : RS} (h : WI t P) : P.1.length ≤ t.nd.length ∧ P.2.length = t.nd.length := ⟨nd_bound h.rg h.nd, h.mr.1⟩
def wS (P : RS) (a : Int) : RS := (P.1 ++ [a], P.2.set a.toNat true)
theorem WI.step {t : Dt} {P : RS} (h : WI t P) {a : Int} (h0 : 0 ≤ a) (h1 : a < t.nd.length) (hn : nth P.2 a.toNat = false) : WI t (wS P a) := by
  refine ⟨h.mr.set h0 h1, ?_, fun b hb => ?_⟩
  · show (P.1 ++ [a]).Nodup
    rw [List.nodup_append]
    refine ⟨h.nd, by simp, fun x hx y hy e => ?_⟩
    rw [List.mem_singleton.1 hy] at e
    subst e
    have := (h.mr.2 x h0 h1).2 hx
    rw [hn] at this; cases this
  · rcases List.mem_append.1 hb with hb | hb
    · exact h.rg b hb
    · rw [List.mem_singleton.1 hb]; exact ⟨h0, h1⟩
structure CI (t : Dt) (P : RS) : Prop where
  l2 : P.2.length = t.nd.length
  l1 : P.1.length ≤ t.nd.length
  rg : ∀ a ∈ P.1, 0 ≤ a ∧ a < t.nd.length
theorem ci0 {t : Dt} (hk : KI t) : CI t (co0 t) := by
  have hp := hk.pos
  refine ⟨by simp [co0], by simp [co0]; omega, fun a ha => ?_⟩
  have : a = 0 := by simpa [co0] using ha
  omega
def cS (t : Dt) (P : RS) (i : Nat) : RS := (qS t P.1 i, P.2.set (nth P.1 i).toNat true)
theorem CI.step {t : Dt} (hk : KI t) {P : RS} (h : CI t P) {i : Nat} (hi : i < P.1.length) (hl : (qS t P.1 i).length ≤ t.nd.length) : CI t (cS t P i) := by
  have hr := h.rg _ (nth_mem hi)
  refine ⟨by simp [cS, h.l2], hl, fun a ha => ?_⟩
  rcases List.mem_append.1 ha with ha | ha
  · exact h.rg a ha
  · exact hk.rng _ (by omega) a ha
theorem co_yes {t : Dt} {i : Nat} {P : RS} (hi : i < P.1.length) (hn : i ≤ t.nd.length) (h : nth P.2 (nth P.1 i).toNat = true) : coN t (t.nd.length + 1 - i) i P = none := by
  rw [show t.nd.length + 1 - i = (t.nd.length - i) + 1 by omega, coN, if_pos hi, if_pos h]
theorem co_big {t : Dt} {i : Nat} {P : RS} (hi : i < P.1.length) (hn : i ≤ t.nd.length) (h : nth P.2 (nth P.1 i).toNat = false) (hl : t.nd.length < (qS t P.1 i).length) : coN t (t.nd.length + 1 - i) i P = none := by
  rw [show t.nd.length + 1 - i = (t.nd.length - i) + 1 by omega, coN, if_pos hi, if_neg (by rw [h]; simp), if_pos hl]
theorem co_go {t : Dt} {i : Nat} {P : RS} (hi : i < P.1.length) (hn : i ≤ t.nd.length) (h : nth P.2 (nth P.1 i).toNat = false) (hl : ¬t.nd.length < (qS t P.1 i).length) : coN t (t.nd.length + 1 - i) i P = coN t (t.nd.length + 1 - (i + 1)) (i + 1) (cS t P i) := by
  rw [show t.nd.length + 1 - i = (t.nd.length + 1 - (i + 1)) + 1 by omega, coN, if_pos hi, if_neg (by rw [h]; simp), if_neg hl]; rfl
theorem co_end {t : Dt} {i : Nat} {P : RS} (hi : P.1.length ≤ i) (hn : i ≤ t.nd.length) : coN t (t.nd.length + 1 - i) i P = some P := by
  rw [show t.nd.length + 1 - i = (t.nd.length - i) + 1 by omega, coN, if_neg (by omega)]
theorem coB_some {t : Dt} {P : RS} (h : coN t (t.nd.length + 1) 0 (co0 t) = some P) : coB t = decide (P.1.length = t.nd.length) := by unfold coB; rw [h]
theorem coB_none {t : Dt} (h : coN t (t.nd.length + 1) 0 (co0 t) = none) : coB t = false := by unfold coB; rw [h]
def mvL (l : List (List Int)) (j : Nat) : List (List Int) := l.take j ++ nth (l ++ [[]]) j :: l.drop j
theorem wi_no {l : List (List Int)} {w : List Int} (h : ¬(plN l w < l.length ∧ nth l (plN l w) = w)) : wiW l w = l.take (plN l w) ++ w :: l.drop (plN l w) := if_neg h
theorem wi_yes {l : List (List Int)} {w : List Int} (h : plN l w < l.length ∧ nth l (plN l w) = w) : wiW l w = l := if_pos h
theorem mv_len {l : List (List Int)} {j : Nat} (h : j ≤ l.length) : (mvL l j).length = l.length + 1 := by
  unfold mvL; simp; omega
theorem mv_top (l : List (List Int)) : mvL l l.length = l ++ [[]] := by
  unfold mvL
  have : nth (l ++ [[]]) l.length = [] := by
    have := nth_app_r (l := l) (m := [([] : List Int)]) (j := 0)
    rw [Nat.add_zero] at this; exact this
  rw [this]; simp
theorem mv_nth {l : List (List Int)} {j m : Nat} (h : j ≤ l.length) (hm : m ≤ l.length) : nth (mvL l j) m = if m ≤ j then nth (l ++ [[]]) m else nth l (m - 1) := by
  unfold mvL
  by_cases e : m < j
  · rw [if_pos (by omega), nth_app_l (by simp; omega), nth_take e, nth_app_l (by omega)]
  · have hl : (l.take j).length = j := by simp; omega
    rw [show m = (l.take j).length + (m - j) by omega, nth_app_r]
    by_cases e2 : m = j
    · subst e2; rw [hl, Nat.sub_self, if_pos (by omega), nth_zero, Nat.add_zero]
    · obtain ⟨d, hd⟩ : ∃ d, m - j = d + 1 := ⟨m - j - 1, by omega⟩
      rw [if_neg (by omega), hd, nth_succ, nth_dropn]
      congr 1; omega
theorem mv_step {l : List (List Int)} {j : Nat} (h0 : 0 < j) (h : j ≤ l.length) : (mvL l j).set j (nth (mvL l j) (j - 1)) = mvL l (j - 1) := by
  refine nth_ext (by rw [List.length_set, mv_len h, mv_len (by omega)]) fun m hm => ?_
  rw [List.length_set, mv_len h] at hm
  rw [nth_set (by rw [mv_len h]; omega), mv_nth h (by omega), mv_nth h (by omega), mv_nth (by omega) (by omega)]
  by_cases e : j = m
  · subst e
    rw [if_pos rfl, if_pos (by omega), if_neg (by omega), nth_app_l (by omega)]
  · rw [if_neg e]
    by_cases e2 : m ≤ j
    · rw [if_pos e2, if_pos (by omega)]
    · rw [if_neg e2, if_neg (by omega)]
theorem mv_end {l : List (List Int)} {k : Nat} (h : k ≤ l.length) (w : List Int) : (mvL l k).set k w = l.take k ++ w :: l.drop k := by
  unfold mvL
  have hl : (l.take k).length = k := by simp; omega
  rw [List.set_append_right _ _ (by omega), hl, Nat.sub_self]; rfl
end Go.Proofs.Ytmnjchcoigbngaa
namespace Go.Proofs.Ytmnjchcoigbngaa
@[simp] theorem pureLL_nds (l : List Nd) : pureLL (l.map cN) = true := pureLL_map _ _ fun a => by simp [cN]
theorem same_dec (a b : List Int) : decide ((a.length : Int) = (b.length : Int) ∧ (cmn a b : Int) = (a.length : Int)) = decide (a = b) := by
  have h := cmn_spec a b
  refine decide_eq_decide.2 ⟨fun ⟨e1, e2⟩ => nth_ext (by omega) fun j hj => h.2.2.1 j (by omega), fun e => ?_⟩
  subst e
  have : cmn a a = a.length := by
    rcases Nat.lt_or_ge (cmn a a) a.length with q | q
    · exact (h.2.2.2 q q rfl).elim
    · omega
  exact ⟨rfl, by omega⟩
theorem fi_mem {l : List (List Int)} {w : List Int} : 0 ≤ fi (fun j => (fun v => decide (v = w)) (nth l j)) 0 l.length ↔ w ∈ l := by
  rw [fi_iff]
  constructor
  · rintro ⟨j, _, h1, h2⟩
    have : nth l j = w := by simpa using h2
    rw [← this]; exact nth_mem (by omega)
  · intro h
    obtain ⟨k, hk, e⟩ := in_nth h
    exact ⟨k, Nat.zero_le _, by omega, by simp [e]⟩
theorem mem_sdP {l : List (List Int)} {w : List Int} : w ∈ sdP l ↔ w ∈ l := by rw [sdP_eq]; exact mem_sdW l w
theorem sdP_len (l : List (List Int)) : (sdP l).length ≤ l.length := by rw [sdP_eq]; exact sdW_len l
theorem set_nth {α : Type} [Inhabited α] {l : List α} {k : Nat} (h : k < l.length) : l.set k (nth l k) = l := by
  refine nth_ext (by simp) fun m hm => ?_
  rw [List.length_set] at hm
  rw [nth_set h]
  split
  · rename_i e; rw [e]
  · rfl
theorem dd_all {l : List (List Int)} (h : ∀ i, 1 ≤ i → i < l.length → nth l i ≠ nth l (i - 1)) : ddK l l.length = l := by
  rw [ddK_all (Nat.le_refl _) h, List.take_length]
theorem dd_start {l : List (List Int)} {k : Nat} (h1 : 1 ≤ k) (hk : k < l.length) (h : ∀ i, 1 ≤ i → i < k → nth l i ≠ nth l (i - 1)) (he : nth l k = nth l (k - 1)) : (ddK l (k + 1)).length = k ∧ ddL l (k + 1) = l := by
  have e1 : ddK l (k + 1) = l.take k := by
    rw [ddK_skip (by rintro (q | q); omega; exact q he), ddK_all (by omega) h]
  have e2 : (l.take k).length = k := by simp; omega
  refine ⟨by rw [e1, e2], ?_⟩
  unfold ddL; rw [e1, e2, List.take_append_drop]
theorem dd_pos {l : List (List Int)} : ∀ {j : Nat}, 0 < j → 0 < (ddK l j).length
  | 1, _ => by rw [show (1 : Nat) = 0 + 1 from rfl, ddK_keep (.inl rfl)]; simp
  | j + 2, _ => by
    have := dd_pos (l := l) (j := j + 1) (by omega)
    simp only [ddK] at this ⊢
    split
    · rw [List.length_append]; omega
    · exact this
theorem dd_at {l : List (List Int)} {k j : Nat} (h : (ddK l (k + j)).length < k + j) (hj : 1 ≤ j) :
    nth (ddL l (k + j)) (0 + k + j) = nth l (k + j) ∧ nth (ddL l (k + j)) (0 + k + (((j : Nat) : Int) - (1 : Int)).toNat) = nth l (k + j - 1) := by
  refine ⟨(ddL_nth (by omega)).trans (by congr 1; omega), (ddL_nth (by omega)).trans (by congr 1; omega)⟩
theorem dd_take {l : List (List Int)} {j : Nat} (h : l.length ≤ j) (hj : j ≤ l.length) : (ddL l j).take (ddK l j).length = ddK l l.length := by
  have : j = l.length := by omega
  subst this
  unfold ddL; rw [List.take_left]
theorem wi_ok {l : List (List Int)} {w : List Int} : wiH l w ↔ plN l w < l.length ∧ nth l (plN l w) = w := Iff.rfl
theorem ac_len {t : Dt} (hb : Bd t) : ∀ w ∈ acL t.nd, w.length ≤ 1048576 := fun w hw => by
  unfold acL at hw
  obtain ⟨x, hx, rfl⟩ := List.mem_map.1 hw
  obtain ⟨k, hk, rfl⟩ := in_nth (List.mem_filter.1 hx).1
  exact hb.ac k hk
theorem cp_nd {x : Nd} {j : Nat} (h : x.ou.length ≤ j) : (⟨x.lf, cat [x.ac], cat [x.sf], x.ou.take j, x.kd⟩ : Nd) = x := by
  cases x; simp only [cat, List.append_nil] at *; rw [List.take_of_length_le h]
theorem cp_row {l : List Nd} {k j : Nat} (hk : k < l.length) (h : (nth l k).ou.length ≤ j) : l.set k (⟨(nth l k).lf, cat [(nth l k).ac], cat [(nth l k).sf], (nth l k).ou.take j, (nth l k).kd⟩ : Nd) = l := by
  rw [cp_nd h, set_nth hk]
theorem cat1 (x : List Int) : cat [x] = x := by simp [cat]
theorem map_cat1 {l : List (List Int)} {j : Nat} (h : j < l.length) : l.take j ++ [cat [nth l j]] = l.take (j + 1) := by rw [cat1, take_succ_nth h]
end Go.Proofs.Ytmnjchcoigbngaa
namespace Go.Proofs.Ytmnjchcoigbngaa
open Go Go.Proofs
theorem great_pure (t : Dt) : PureC Try.prog 4 [(V.agg [(V.sl (List.map cN (t.nd)))])] (V.bool (bgT t)) := by
 refine pW Try.func4 s4_ok fun hB => ?_
 unfold s4
 dsimp only
 refine W_r (R_box (i := 1) (n := 0) (m := 1) (cs := [(V.sl (List.map cN (t.nd)))]) rfl (congrArg Blk.ver rfl) rfl rfl rfl (R_mv (@rfl V (V.bool false)) (R_e (W_seq_seq (W_r (R_fld_mp (o' := 0) rfl rfl oB rfl (R_load_mp (v := (V.sl (List.map cN (t.nd)))) rfl rfl (lB oB rfl rfl) ?_)))))))
 refine R_len rfl (R_gtr rfl rfl (R_e ?_))
 refine W_seq_if rfl (fun c1 => ?_) fun c1 => ?_
 ·
  refine W_seq_seq (W_r (R_mv (@rfl V (V.bool true)) (R_e (W_seq_ret ?_))))
  refine Ret_1 (@rfl V (V.bool true)) (fz_bool ?_)
  · unfold bgT; exact (decide_eq_true (.inl (by omega))).symm
 refine W_seq_skip (W_seq_seq (W_r (R_mv (@rfl V (iV (0 : Int))) (R_e (W_seq_blockg fun Q2 n2 x2 y2 z2 => ?_)))))
 refine W_loop (fun mm T H => ∃ (k : Nat) (v4 : Nat), mm = t.nd.length - k ∧ T 1 = (V.mp 1 1 0 0) ∧ T 3 = (iV ((k : Nat) : Int)) ∧ H 1 = (bk 1 24 1 [[(V.sl (List.map cN (t.nd)))]]) ∧ (H 4).ver = v4 ∧ (k ≤ t.nd.length) ∧ (t.nd.length ≤ 40) ∧ (fe (bgE t) 0 t.nd.length = fe (bgE t) k (t.nd.length - k))) ?_ ?_
 ·
  refine ⟨_, 0, 0, rfl, rfl, (Eq.trans (@rfl V (iV (0 : Int))) rfl), rfl, (congrArg Blk.ver rfl), ?_, ?_, ?_⟩
  · omega
  · omega
  · rfl
 intro mm T H ⟨k, v4, hmm, t1, t3, h1, h4, hk, hl, hc⟩ Q3 p13 p23 p33
 unfold b4_0
 refine W_seq_seq (W_r (R_mv t3 (R_fld_mp (o' := 0) t1 h1 oB rfl (R_load_mp (v := (V.sl (List.map cN (t.nd)))) rfl h1 (lB oB rfl rfl) (R_len rfl (R_lss rfl rfl (R_e ?_)))))))
 refine W_seq_if rfl (fun c4 => ?_) fun c4 => ?_
 ·
  refine W_seq_skip (W_seq_blockg fun Q5 n5 x5 y5 z5 => (W_r (R_fld_mp (o' := 0) t1 h1 oB rfl (R_load_mp (v := (V.sl (List.map cN (t.nd)))) rfl h1 (lB oB rfl rfl) (R_mv t3 (R_idx (i := k) (@rfl V (V.sl (List.map cN (t.nd)))) (@rfl V (iV ((k : Nat) : Int))) (by omega) rfl (R_load_pp (v := (V.agg (cN (((nth (t.nd) (k))))))) rfl (by first | rfl | simp [ldV]) ?_)))))))
  refine R_alloc (i := 4) (n := v4) (m := 5) rfl h4 rfl (R_store (vs := [(V.bool (((nth (t.nd) (k))).lf)), (ints (((nth (t.nd) (k))).ac)), (ints (((nth (t.nd) (k))).sf)), (intss (((nth (t.nd) (k))).ou)), (ints (((nth (t.nd) (k))).kd))]) (B' := (bk (v4 + 1) 41 5 [(cN (((nth (t.nd) (k)))))])) rfl rfl rfl rfl (sB oB rfl rfl rfl rfl rfl) (R_e (W_seq_seq (W_r (R_fld_mp (o' := 1) rfl rfl oB rfl (R_load_mp (v := (ints (((nth (t.nd) (k))).ac))) rfl rfl (lB oB rfl rfl) (R_len rfl ?_)))))))
  refine R_gtr rfl rfl (R_mv (@rfl V (V.bool (decide ((1100 : Int) < (((((nth (t.nd) (k))).ac).length : Nat) : Int))))) ?_)
  refine Ops_seg 5 (fun T H => T 1 = (V.mp 1 1 0 0) ∧ T 3 = (iV ((k : Nat) : Int)) ∧ T 4 = (V.mp 4 (v4 + 1) 0 0) ∧ T 31 = (V.bool (decide (((1100 : Int) < (((((nth (t.nd) (k))).ac).length : Nat) : Int)) ∨ ((1100 : Int) < (((((nth (t.nd) (k))).sf).length : Nat) : Int))))) ∧ H 1 = (bk 1 24 1 [[(V.sl (List.map cN (t.nd)))]]) ∧ H 4 = (bk (v4 + 1) 41 5 [(cN (((nth (t.nd) (k)))))]) ∧ True) ?_ ?_
  ·
   by_cases g6 : (1100 : Int) < (((((nth (t.nd) (k))).ac).length : Nat) : Int)
   ·
    refine G_n (edT g6 rfl) (G_n (edT g6 rfl) (G_n (edT g6 rfl) (G_n (edT g6 rfl) (R_pickT (edT g6 rfl) rfl ?_))))
    exact ⟨t1, t3, rfl, (dec_orT g6), h1, rfl, trivial⟩
   ·
    refine G_yes (edF g6 rfl) (R_fld_mp (o' := 2) rfl rfl oB rfl (G_yes (edF g6 rfl) (R_load_mp (v := (ints (((nth (t.nd) (k))).sf))) rfl rfl (lB oB rfl rfl) (G_yes (edF g6 rfl) (R_len rfl (G_yes (edF g6 rfl) (R_gtr rfl rfl ?_)))))))
    refine R_pickF (edF g6 rfl) rfl ?_
    exact ⟨t1, t3, rfl, (dec_orF g6), h1, rfl, trivial⟩
  intro T H ⟨t1, t3, t4, t31, h1, h4, _⟩
  refine R_mv t31 ?_
  refine Ops_seg 5 (fun T H => T 1 = (V.mp 1 1 0 0) ∧ T 3 = (iV ((k : Nat) : Int)) ∧ T 4 = (V.mp 4 (v4 + 1) 0 0) ∧ T 37 = (V.bool (decide ((((1100 : Int) < (((((nth (t.nd) (k))).ac).length : Nat) : Int)) ∨ ((1100 : Int) < (((((nth (t.nd) (k))).sf).length : Nat) : Int))) ∨ ((40 : Int) < (((((nth (t.nd) (k))).ou).length : Nat) : Int))))) ∧ H 1 = (bk 1 24 1 [[(V.sl (List.map cN (t.nd)))]]) ∧ H 4 = (bk (v4 + 1) 41 5 [(cN (((nth (t.nd) (k)))))]) ∧ True) ?_ ?_
  ·
   by_cases g7 : ((1100 : Int) < (((((nth (t.nd) (k))).ac).length : Nat) : Int)) ∨ ((1100 : Int) < (((((nth (t.nd) (k))).sf).length : Nat) : Int))
   ·
    refine G_n (edT g7 rfl) (G_n (edT g7 rfl) (G_n (edT g7 rfl) (G_n (edT g7 rfl) (R_pickT (edT g7 rfl) rfl ?_))))
    exact ⟨t1, t3, t4, (dec_orT g7), h1, h4, trivial⟩
   ·
    refine G_yes (edF g7 rfl) (R_fld_mp (o' := 3) t4 h4 oB rfl (G_yes (edF g7 rfl) (R_load_mp (v := (intss (((nth (t.nd) (k))).ou))) rfl h4 (lB oB rfl rfl) (G_yes (edF g7 rfl) (R_len rfl (G_yes (edF g7 rfl) (R_gtr rfl rfl ?_)))))))
    refine R_pickF (edF g7 rfl) rfl ?_
    exact ⟨t1, t3, t4, (dec_orF g7), h1, h4, trivial⟩
  intro T H ⟨t1, t3, t4, t37, h1, h4, _⟩
  refine R_mv t37 ?_
  refine Ops_seg 5 (fun T H => T 1 = (V.mp 1 1 0 0) ∧ T 3 = (iV ((k : Nat) : Int)) ∧ T 4 = (V.mp 4 (v4 + 1) 0 0) ∧ T 43 = (V.bool (decide (((((1100 : Int) < (((((nth (t.nd) (k))).ac).length : Nat) : Int)) ∨ ((1100 : Int) < (((((nth (t.nd) (k))).sf).length : Nat) : Int))) ∨ ((40 : Int) < (((((nth (t.nd) (k))).ou).length : Nat) : Int))) ∨ ((40 : Int) < (((((nth (t.nd) (k))).kd).length : Nat) : Int))))) ∧ H 1 = (bk 1 24 1 [[(V.sl (List.map cN (t.nd)))]]) ∧ H 4 = (bk (v4 + 1) 41 5 [(cN (((nth (t.nd) (k)))))]) ∧ True) ?_ ?_
  ·
   by_cases g8 : (((1100 : Int) < (((((nth (t.nd) (k))).ac).length : Nat) : Int)) ∨ ((1100 : Int) < (((((nth (t.nd) (k))).sf).length : Nat) : Int))) ∨ ((40 : Int) < (((((nth (t.nd) (k))).ou).length : Nat) : Int))
   ·
    refine G_n (edT g8 rfl) (G_n (edT g8 rfl) (G_n (edT g8 rfl) (G_n (edT g8 rfl) (R_pickT (edT g8 rfl) rfl ?_))))
    exact ⟨t1, t3, t4, (dec_orT g8), h1, h4, trivial⟩
   ·
    refine G_yes (edF g8 rfl) (R_fld_mp (o' := 4) t4 h4 oB rfl (G_yes (edF g8 rfl) (R_load_mp (v := (ints (((nth (t.nd) (k))).kd))) rfl h4 (lB oB rfl rfl) (G_yes (edF g8 rfl) (R_len rfl (G_yes (edF g8 rfl) (R_gtr rfl rfl ?_)))))))
    refine R_pickF (edF g8 rfl) rfl ?_
    exact ⟨t1, t3, t4, (dec_orF g8), h1, h4, trivial⟩
  intro T H ⟨t1, t3, t4, t43, h1, h4, _⟩
  refine R_e ?_
  refine W_seq_if t43 (fun c9 => ?_) fun c9 => ?_
  ·
   have d1 : 1100 < (nth t.nd k).ac.length ∨ 1100 < (nth t.nd k).sf.length ∨ 40 < (nth t.nd k).ou.length ∨ 40 < (nth t.nd k).kd.length := by omega
   refine W_seq_seq (W_r (R_mv (@rfl V (V.bool true)) (R_e (W_seq_ret (y5 _ _ (p23 _ _ (y2 _ _ ?_)))))))
   refine Ret_1 (@rfl V (V.bool true)) (fz_bool ?_)
   · unfold bgT; exact (decide_eq_true (.inr (by rw [hc, fe_hit (by unfold bgE bgN; rw [if_pos d1]; decide) (by omega)]; unfold bgE bgN; rw [if_pos d1]; decide))).symm
  have d1 : ¬(1100 < (nth t.nd k).ac.length ∨ 1100 < (nth t.nd k).sf.length ∨ 40 < (nth t.nd k).ou.length ∨ 40 < (nth t.nd k).kd.length) := by omega
  refine W_seq_skip (W_r (R_mv (@rfl V (iV (0 : Int))) (R_e (W_block fun Q10 n10 x10 y10 z10 => ?_))))
  refine W_loop (fun mm T H => ∃ (j : Nat), mm = ((((nth (t.nd) (k))).ou).length) - j ∧ T 1 = (V.mp 1 1 0 0) ∧ T 3 = (iV ((k : Nat) : Int)) ∧ T 4 = (V.mp 4 (v4 + 1) 0 0) ∧ T 5 = (iV ((j : Nat) : Int)) ∧ H 1 = (bk 1 24 1 [[(V.sl (List.map cN (t.nd)))]]) ∧ H 4 = (bk (v4 + 1) 41 5 [(cN (((nth (t.nd) (k)))))]) ∧ (j ≤ (((nth (t.nd) (k))).ou).length) ∧ (fe (fun j => if 1100 < (nth (nth t.nd k).ou j).length then (1 : Int) else 0) 0 (nth t.nd k).ou.length = fe (fun j => if 1100 < (nth (nth t.nd k).ou j).length then (1 : Int) else 0) j ((nth t.nd k).ou.length - j))) ?_ ?_
  ·
   refine ⟨_, 0, rfl, t1, t3, t4, (Eq.trans (@rfl V (iV (0 : Int))) rfl), h1, h4, ?_, ?_⟩
   · omega
   · rfl
  intro mm T H ⟨j, hmm, t1, t3, t4, t5, h1, h4, hj, hj0⟩ Q11 p111 p211 p311
  unfold b4_1
  refine W_seq_seq (W_r (R_mv t5 (R_fld_mp (o' := 3) t4 h4 oB rfl (R_load_mp (v := (intss (((nth (t.nd) (k))).ou))) rfl h4 (lB oB rfl rfl) (R_len rfl (R_lss rfl rfl (R_e ?_)))))))
  refine W_seq_if rfl (fun c12 => ?_) fun c12 => ?_
  ·
   refine W_seq_skip (W_seq_blockg fun Q13 n13 x13 y13 z13 => (W_r (R_fld_mp (o' := 3) t4 h4 oB rfl (R_load_mp (v := (intss (((nth (t.nd) (k))).ou))) rfl h4 (lB oB rfl rfl) (R_mv t5 (R_idx (i := j) (@rfl V (intss (((nth (t.nd) (k))).ou))) (@rfl V (iV ((j : Nat) : Int))) (by omega) rfl (R_load_pp (v := (ints ((nth (((nth (t.nd) (k))).ou) (j))))) rfl (by first | rfl | simp [ldV]) ?_)))))))
   refine R_len rfl (R_gtr rfl rfl (R_e ?_))
   refine W_if rfl (fun c14 => ?_) fun c14 => ?_
   ·
    have d2 : 1100 < (nth (nth t.nd k).ou j).length := by omega
    refine W_r (R_mv (@rfl V (V.bool true)) (R_e (W_ret (y13 _ _ (p211 _ _ (y10 _ _ (y5 _ _ ?_)))))))
    refine p23 _ _ (y2 _ _ ?_)
    refine Ret_1 (@rfl V (V.bool true)) (fz_bool ?_)
    · have e : bgE t k = 1 := by unfold bgE bgN; rw [if_neg d1, hj0, fe_hit (by rw [if_pos d2]; decide) (by omega), if_pos d2]
      unfold bgT; exact (decide_eq_true (.inr (by rw [hc, fe_hit (by rw [e]; decide) (by omega), e]; decide))).symm
   have d2 : ¬1100 < (nth (nth t.nd k).ou j).length := by omega
   refine W_skip (n13 _ _ (.done (W_t (R_mv t5 (R_addN rfl (@rfl V (iV ((1 : Nat) : Int))) (by omega) (R_mv (@rfl V (iV ((j + 1 : Nat) : Int))) (R_e ?_)))))))
   refine p111 _ _ _ ?_ ⟨(j + 1), rfl, t1, t3, t4, (Eq.trans (@rfl V (iV ((j + 1 : Nat) : Int))) (by first | rfl | simp)), h1, h4, ?_, ?_⟩
   · omega
   · omega
   · rw [hj0, fe_skip (if_neg d2) (by omega)]
  refine W_seq_exit (p311 _ _ _ (x10 _ _ (n5 _ _ (.done (W_t (R_mv t3 (R_addN rfl (@rfl V (iV ((1 : Nat) : Int))) (by omega) ?_)))))))
  refine R_mv (@rfl V (iV ((k + 1 : Nat) : Int))) (R_e ?_)
  refine p13 _ _ _ ?_ ⟨(k + 1), (v4 + 1), rfl, t1, (Eq.trans (@rfl V (iV ((k + 1 : Nat) : Int))) (by first | rfl | simp)), h1, (congrArg Blk.ver h4), ?_, ?_, ?_⟩
  · omega
  · omega
  · omega
  · rw [hc, fe_skip (by unfold bgE bgN; rw [if_neg d1, hj0, fe_end (by omega)]) (by omega)]
 refine W_seq_exit (p33 _ _ _ (x2 _ _ (.done (W_r (R_mv (@rfl V (V.bool false)) (R_e (W_ret ?_)))))))
 refine Ret_1 (@rfl V (V.bool false)) (fz_bool ?_)
 · unfold bgT; exact (decide_eq_false (by rw [hc, fe_end (by omega)]; omega)).symm
def r5_1 : List SO := [
 sO 3 (.fld 1 (.t 1)),
 sO 4 (.load false 1 (.t 3)),
 sO 5 (.len (.t 4)),
 sO 6 (.bin .gtr (.t 5) (.c (.int .i64 1100))),
 sO 7 (.mv (.t 6)),
 ⟨some (7, false), some 8, .fld 2 (.t 1)⟩,
 ⟨some (7, false), some 9, .load false 1 (.t 8)⟩,
 ⟨some (7, false), some 10, .len (.t 9)⟩,
 ⟨some (7, false), some 11, .bin .gtr (.t 10) (.c (.int .i64 1100))⟩,
 sO 12 (.pick (.t 7) (.c (.bool true)) (.t 11)),
 sO 13 (.mv (.t 12)),
 ⟨some (13, false), some 14, .fld 3 (.t 1)⟩,
 ⟨some (13, false), some 15, .load false 1 (.t 14)⟩,
 ⟨some (13, false), some 16, .len (.t 15)⟩,
 ⟨some (13, false), some 17, .bin .gtr (.t 16) (.c (.int .i64 1100))⟩,
 sO 18 (.pick (.t 13) (.c (.bool true)) (.t 17)),
 sO 19 (.mv (.t 18)),
 ⟨some (19, false), some 20, .fld 4 (.t 1)⟩,
 ⟨some (19, false), some 21, .load false 1 (.t 20)⟩,
 ⟨some (19, false), some 22, .len (.t 21)⟩,
 ⟨some (19, false), some 23, .bin .gtr (.t 22) (.c (.int .i64 1100))⟩,
 sO 24 (.pick (.t 19) (.c (.bool true)) (.t 23)),
 sO 2 (.mv (.t 24))]
def s5 : SF := ⟨25, [.tmp 2], .seq (.reg [sO 1 (.box 27 5 (.t 0)), sO 2 (.mv (.c (.bool false)))]) (.seq (.reg r5_1) (.ret))⟩
theorem s5_ok : slimF Try.prog ⟨[22, 25, 26, 31, 32, 67, 68, 69, 73, 79, 81, 86], []⟩ Try.f5 = some s5 := by kernel_rfl
end Go.Proofs.Ytmnjchcoigbngaa
namespace Go.Proofs.Ytmnjchcoigbngaa
structure Sp (t : Dt) (o : Ob) (w : List Int) (m a : Int) : Prop where
  lf : (nth t.nd m.toNat).lf = false
  kn : (ans o (cat [w, (nth t.nd m.toNat).sf])).isSome = true
  ex : lxH (nth t.nd m.toNat).ou (((ans o (cat [w, (nth t.nd m.toNat).sf])).getD []).drop w.length)
  to : a = nth (nth t.nd m.toNat).kd (lxN (nth t.nd m.toNat).ou (((ans o (cat [w, (nth t.nd m.toNat).sf])).getD []).drop w.length))
inductive Bw (t : Dt) (o : Ob) (w : List Int) : List Int → Prop where
  | root : Bw t o w [0]
  | step {a m : Int} {l : List Int} (h : Bw t o w (m :: l)) (hs : Sp t o w m a) : Bw t o w (a :: m :: l)
section
variable {t : Dt} {o : Ob} {w : List Int}
theorem Sp.kid (hv : dvE t = 0) {m a : Int} (h0 : 0 ≤ m) (h1 : m < t.nd.length) (h : Sp t o w m a) : a ∈ (nth t.nd m.toNat).kd := by
  rw [h.to]
  exact nth_mem (by have := (nd_in hv (show m.toNat < t.nd.length by omega) h.lf).len; have := h.ex.1; omega)
theorem Bw.rng (hv : dvE t = 0) : ∀ {l : List Int}, Bw t o w l → ∀ a ∈ l, 0 ≤ a ∧ a < t.nd.length := by
  intro l h
  induction h with
  | root => intro a ha; rw [List.mem_singleton.1 ha]; have := (dv_ok hv).1; omega
  | step h hs ih =>
    rename_i a m l
    intro b hb
    rcases List.mem_cons.1 hb with rfl | hb
    · have hm := ih m (by simp)
      exact (dv_ki hv).rng m.toNat (by omega) _ (hs.kid hv hm.1 hm.2)
    · exact ih b hb
end
end Go.Proofs.Ytmnjchcoigbngaa
namespace Go.Proofs.Ytmnjchcoigbngaa
def lgC (c : Ct) : Bool := decide (1100 < c.sf.length ∨ 1100 < c.ou.length ∨ 1100 < c.ac.length ∨ 1100 < c.ot.length)
theorem spT_no {t : Dt} {n : Int} {sf outs w other : List Int} (h : spE t n sf outs w other ≠ 0) : spT t n sf outs w other = t := if_neg h
theorem spT_yes {t : Dt} {n : Int} {sf outs w other : List Int} (h : spE t n sf outs w other = 0) : spT t n sf outs w other = ⟨t.nd.set n.toNat (spN sf outs other t.nd.length) ++ [nth t.nd n.toNat, lfN w]⟩ := if_pos h
theorem grT_no {t : Dt} {n : Int} {outs w : List Int} (h : grE t n outs w ≠ 0) : grT t n outs w = t := if_neg h
theorem grT_yes {t : Dt} {n : Int} {outs w : List Int} (h : grE t n outs w = 0) : grT t n outs w = ⟨t.nd.set n.toNat (gNd (nth t.nd n.toNat) outs t.nd.length) ++ [lfN w]⟩ := if_pos h
theorem lgC_ok {c : Ct} (h : lgC c = false) : c.sf.length ≤ 1100 ∧ c.ou.length ≤ 1100 ∧ c.ac.length ≤ 1100 ∧ c.ot.length ≤ 1100 := by
  unfold lgC at h
  simp only [decide_eq_false_iff_not] at h
  omega
end Go.Proofs.Ytmnjchcoigbngaa
namespace Go.Proofs.Ytmnjchcoigbngaa
open Go Go.Proofs
theorem long_pure (c : Ct) : PureC Try.prog 5 [(V.agg [(iV (c.lf)), (ints c.sf), (ints c.ou), (ints c.ac), (ints c.ot)])] (V.bool (lgC c)) := by
 refine pW Try.func5 s5_ok fun hB => ?_
 unfold s5
 dsimp only
 refine W_r (R_box (i := 1) (n := 0) (m := 5) (cs := [(iV (c.lf)), (ints c.sf), (ints c.ou), (ints c.ac), (ints c.ot)]) rfl (congrArg Blk.ver rfl) rfl rfl rfl (R_mv (@rfl V (V.bool false)) (R_e (W_r (R_fld_mp (o' := 1) rfl rfl oB rfl (R_load_mp (v := (ints c.sf)) rfl rfl (lB oB rfl rfl) (R_len rfl ?_)))))))
 refine R_gtr rfl rfl (R_mv (@rfl V (V.bool (decide ((1100 : Int) < ((c.sf.length : Nat) : Int))))) ?_)
 refine Ops_seg 5 (fun T H => T 1 = (V.mp 1 1 0 0) ∧ T 12 = (V.bool (decide (((1100 : Int) < ((c.sf.length : Nat) : Int)) ∨ ((1100 : Int) < ((c.ou.length : Nat) : Int))))) ∧ H 1 = (bk 1 27 5 [[(iV (c.lf)), (ints c.sf), (ints c.ou), (ints c.ac), (ints c.ot)]]) ∧ True) ?_ ?_
 ·
  by_cases g1 : (1100 : Int) < ((c.sf.length : Nat) : Int)
  ·
   refine G_n (edT g1 rfl) (G_n (edT g1 rfl) (G_n (edT g1 rfl) (G_n (edT g1 rfl) (R_pickT (edT g1 rfl) rfl ?_))))
   exact ⟨rfl, (dec_orT g1), rfl, trivial⟩
  ·
   refine G_yes (edF g1 rfl) (R_fld_mp (o' := 2) rfl rfl oB rfl (G_yes (edF g1 rfl) (R_load_mp (v := (ints c.ou)) rfl rfl (lB oB rfl rfl) (G_yes (edF g1 rfl) (R_len rfl (G_yes (edF g1 rfl) (R_gtr rfl rfl ?_)))))))
   refine R_pickF (edF g1 rfl) rfl ?_
   exact ⟨rfl, (dec_orF g1), rfl, trivial⟩
 intro T H ⟨t1, t12, h1, _⟩
 refine R_mv t12 ?_
 refine Ops_seg 5 (fun T H => T 1 = (V.mp 1 1 0 0) ∧ T 18 = (V.bool (decide ((((1100 : Int) < ((c.sf.length : Nat) : Int)) ∨ ((1100 : Int) < ((c.ou.length : Nat) : Int))) ∨ ((1100 : Int) < ((c.ac.length : Nat) : Int))))) ∧ H 1 = (bk 1 27 5 [[(iV (c.lf)), (ints c.sf), (ints c.ou), (ints c.ac), (ints c.ot)]]) ∧ True) ?_ ?_
 ·
  by_cases g2 : ((1100 : Int) < ((c.sf.length : Nat) : Int)) ∨ ((1100 : Int) < ((c.ou.length : Nat) : Int))
  ·
   refine G_n (edT g2 rfl) (G_n (edT g2 rfl) (G_n (edT g2 rfl) (G_n (edT g2 rfl) (R_pickT (edT g2 rfl) rfl ?_))))
   exact ⟨t1, (dec_orT g2), h1, trivial⟩
  ·
   refine G_yes (edF g2 rfl) (R_fld_mp (o' := 3) t1 h1 oB rfl (G_yes (edF g2 rfl) (R_load_mp (v := (ints c.ac)) rfl h1 (lB oB rfl rfl) (G_yes (edF g2 rfl) (R_len rfl (G_yes (edF g2 rfl) (R_gtr rfl rfl ?_)))))))
   refine R_pickF (edF g2 rfl) rfl ?_
   exact ⟨t1, (dec_orF g2), h1, trivial⟩
 intro T H ⟨t1, t18, h1, _⟩
 refine R_mv t18 ?_
 refine Ops_seg 5 (fun T H => T 24 = (V.bool (decide (((((1100 : Int) < ((c.sf.length : Nat) : Int)) ∨ ((1100 : Int) < ((c.ou.length : Nat) : Int))) ∨ ((1100 : Int) < ((c.ac.length : Nat) : Int))) ∨ ((1100 : Int) < ((c.ot.length : Nat) : Int))))) ∧ H 1 = (bk 1 27 5 [[(iV (c.lf)), (ints c.sf), (ints c.ou), (ints c.ac), (ints c.ot)]]) ∧ True) ?_ ?_
 ·
  by_cases g3 : (((1100 : Int) < ((c.sf.length : Nat) : Int)) ∨ ((1100 : Int) < ((c.ou.length : Nat) : Int))) ∨ ((1100 : Int) < ((c.ac.length : Nat) : Int))
  ·
   refine G_n (edT g3 rfl) (G_n (edT g3 rfl) (G_n (edT g3 rfl) (G_n (edT g3 rfl) (R_pickT (edT g3 rfl) rfl ?_))))
   exact ⟨(dec_orT g3), h1, trivial⟩
  ·
   refine G_yes (edF g3 rfl) (R_fld_mp (o' := 4) t1 h1 oB rfl (G_yes (edF g3 rfl) (R_load_mp (v := (ints c.ot)) rfl h1 (lB oB rfl rfl) (G_yes (edF g3 rfl) (R_len rfl (G_yes (edF g3 rfl) (R_gtr rfl rfl ?_)))))))
   refine R_pickF (edF g3 rfl) rfl ?_
   exact ⟨(dec_orF g3), h1, trivial⟩
 intro T H ⟨t24, h1, _⟩
 refine R_mv t24 (R_e (W_ret ?_))
 refine Ret_1 (@rfl V (V.bool (decide (((((1100 : Int) < ((c.sf.length : Nat) : Int)) ∨ ((1100 : Int) < ((c.ou.length : Nat) : Int))) ∨ ((1100 : Int) < ((c.ac.length : Nat) : Int))) ∨ ((1100 : Int) < ((c.ot.length : Nat) : Int)))))) (fz_bool ?_)
 · unfold lgC; rw [Bool.eq_iff_iff]; simp only [Bool.or_eq_true, decide_eq_true_eq]; omega
def s46 : SF := ⟨8, [.tmp 2], .seq (.reg [sO 2 (.lazy 3 1)]) (.seq (.seq (.reg [sO 3 (.mv (.t 0)), sO 4 (.isnil false (.t 3))]) (.cond (.t 4) (.seq (.reg [sO 2 (.lazy 3 1)]) (.ret)) (.skip))) (.seq (.reg [sO 5 (.lazy 3 1), sO 6 (.mv (.t 0)), sO 7 (.append 3 1 8 (.t 5) (.t 6)), sO 2 (.mv (.t 7))]) (.ret)))⟩
theorem s46_ok : slimF Try.prog ⟨[22, 25, 26, 31, 32, 67, 68, 69, 73, 79, 81, 86], [2, 5]⟩ Try.f46 = some s46 := by kernel_rfl
theorem clone_pure (l : List Int) (hl : l.length ≤ 4294967296) : PureC Try.prog 46 [(ints l)] (ints l) := by
 refine pW Try.func46 s46_ok fun hB => ?_
 unfold s46
 dsimp only
 refine W_r (R_lazy (i := 2) (n := 0) rfl (congrArg Blk.ver rfl) (R_e (W_seq_seq (W_seq_reg fun K hK => (R_mv (@rfl V (ints l)) ?_)))))
 refine R_isnil_sl (@rfl V (ints l)) (fun e1 => ?_) ?_
 ·
  replace e1 := List.map_eq_nil_iff.1 e1
  refine R_nil (hK _ _ ?_); clear hK K
  refine fork_ (R := fun T H => T 0 = (ints l) ∧ T 4 = (V.bool true) ∧ H 2 = (bz 1 3 1 []) ∧ H 5 = (⟨0, false, false, 0, 0, []⟩ : Blk) ∧ True) ⟨rfl, rfl, rfl, rfl, trivial⟩ ?_
  intro T H ⟨t0, t4, h2, h5, _⟩
  refine W_seq_ifb t4 (fun c4 => ?_) (fun c4 => ?_)
  ·
   refine W_seq_seq (W_r (R_lazy (i := 2) (n := 1) rfl (congrArg Blk.ver h2) (R_e (W_seq_ret ?_))))
   refine Ret_1 (@rfl V (V.ms 2 2 0 (0))) (fz_ms (@rfl Blk (bz 2 3 1 [])) (by first | rfl | simp) (l := []) rfl (by first | rfl | simp) (fun _ => by simp) ?_)
   · exact e1.symm
  · cases c4
 ·
  refine R_nil (hK _ _ ?_); clear hK K
  refine fork_ (R := fun T H => T 0 = (ints l) ∧ T 4 = (V.bool false) ∧ H 2 = (bz 1 3 1 []) ∧ H 5 = (⟨0, false, false, 0, 0, []⟩ : Blk) ∧ True) ⟨rfl, rfl, rfl, rfl, trivial⟩ ?_
  intro T H ⟨t0, t4, h2, h5, _⟩
  refine W_seq_ifb t4 (fun c7 => ?_) (fun c7 => ?_)
  · cases c7
  refine W_seq_skip (W_r (R_lazy (i := 5) (n := 0) rfl (congrArg Blk.ver h5) (R_mv t0 (R_appendS (l := ([])) (m := l) (f := cI) (@rfl V (V.ms 5 1 0 (0))) (show _ = (bz 1 3 1 (List.map cI ([]))) from (@rfl Blk (bz 1 3 1 []))) (by first | rfl | simp) (@rfl V (ints l)) (fun _ => rfl) (fun _ => rfl) (by omega) (by omega) (R_mv (@rfl V (V.ms 5 2 0 (0 + (l).length))) (R_e (W_ret ?_)))))))
  refine Ret_1 (@rfl V (V.ms 5 2 0 (0 + (l).length))) (fz_ms (@rfl Blk (bz 2 3 1 (List.map cI ([] ++ l)))) (by first | rfl | simp) (l := ([] ++ l)) rfl (by first | rfl | simp) (fun _ => by simp) ?_)
  · rfl
theorem cloneA (i : Nat) (h5 : 5 ≤ i) (l : List Int) (u : Nat) (Hi : Heap) (hq : (Hi i).ver = u) (hl : l.length ≤ 4294967296) : CallOK Try.prog 46 [(ints l)] Hi (V.ms i (u + 3) 0 (l.length)) (upd Hi i (bz (u + 3) 3 1 (List.map cI (l)))) := by
 refine eW (k0 := i - 2) Try.func46 s46_ok fun hB => ?_
 unfold s46
 dsimp only
 refine W_r (R_lazy (i := i) (n := u) (by omega) hq (R_e (W_seq_seq (W_seq_reg fun K hK => (R_mv (@rfl V (ints l)) ?_)))))
 refine R_isnil_sl (@rfl V (ints l)) (fun e1 => ?_) ?_
 ·
  replace e1 := List.map_eq_nil_iff.1 e1
  refine R_nil (hK _ _ ?_); clear hK K
  refine fork_ (R := fun T H => T 0 = (ints l) ∧ T 4 = (V.bool true) ∧ (∀ j, j ∉ [i] → H j = Hi j) ∧ H i = (bz (u + 1) 3 1 []) ∧ True) ⟨rfl, rfl, (upd_out (fun _ _ => rfl) (by simp)), (upd_same _ _ _), trivial⟩ ?_
  intro T H ⟨t0, t4, hF, hi, _⟩
  refine W_seq_ifb t4 (fun c4 => ?_) (fun c4 => ?_)
  ·
   refine W_seq_seq (W_r (R_lazy (i := i) (n := (u + 1)) (by omega) (congrArg Blk.ver hi) (R_e (W_seq_ret (fork_ (R := fun T H => T 2 = (V.ms i (u + 2) 0 (0)) ∧ (∀ j, j ∉ [i] → H j = Hi j) ∧ H i = (bz (u + 2) 3 1 []) ∧ True) ⟨(@rfl V (V.ms i (u + 2) 0 (0))), (upd_out hF (by simp)), (upd_same _ _ _), trivial⟩ ?_)))))
   intro T H ⟨t2, hF, hi, _⟩
   skip
   have fh := FinX.fin (FinX.put (B := (bz (u + 3) 3 1 (List.map cI (l)))) (FinX.start hF) hi (FinB.up (by omega) (by first | rfl | (rw [e1]; rfl) | simp)))
   exact RetF_1 t2 fh (FinV.trans_eq (FinV.ms (n := (u + 3)) fh (by simp [hi]) (by simp [hi]) (by simp) (by simp)) (by first | rfl | (rw [e1]; rfl) | simp))
  · cases c4
 ·
  refine R_nil (hK _ _ ?_); clear hK K
  refine fork_ (R := fun T H => T 0 = (ints l) ∧ T 4 = (V.bool false) ∧ (∀ j, j ∉ [i] → H j = Hi j) ∧ H i = (bz (u + 1) 3 1 []) ∧ True) ⟨rfl, rfl, (upd_out (fun _ _ => rfl) (by simp)), (upd_same _ _ _), trivial⟩ ?_
  intro T H ⟨t0, t4, hF, hi, _⟩
  refine W_seq_ifb t4 (fun c7 => ?_) (fun c7 => ?_)
  · cases c7
  refine W_seq_skip (W_rk (i - 5) (R_lazy (i := i) (n := (u + 1)) (by omega) (congrArg Blk.ver hi) (R_mv t0 (R_appendS (l := ([])) (m := l) (f := cI) (@rfl V (V.ms i (u + 2) 0 (0))) (show _ = (bz (u + 2) 3 1 (List.map cI ([]))) from (upd_same _ _ _)) (by first | rfl | simp) (@rfl V (ints l)) (fun _ => rfl) (fun _ => rfl) (by omega) (by omega) (R_mv (@rfl V (V.ms i (u + 3) 0 (0 + (l).length))) (R_e (W_ret ?_)))))))
  refine fork_ (R := fun T H => T 2 = (V.ms i (u + 3) 0 (0 + (l).length)) ∧ (∀ j, j ∉ [i] → H j = Hi j) ∧ H i = (bz (u + 3) 3 1 (List.map cI ([] ++ l))) ∧ True) ⟨(@rfl V (V.ms i (u + 3) 0 (0 + (l).length))), (upd_out (upd_out hF (by simp)) (by simp)), (upd_same _ _ _), trivial⟩ ?_
  intro T H ⟨t2, hF, hi, _⟩
  skip
  have fh := FinX.fin (FinX.put (B := (bz (u + 3) 3 1 (List.map cI (l)))) (FinX.start hF) hi (FinB.eq (by first | rfl | (rw [e1]; rfl) | simp)))
  exact RetF_1 t2 fh (FinV.trans_eq (FinV.same fh _) (by first | rfl | (rw [e1]; rfl) | simp))
def toInts : List (List V) → Option (List Int)
  | [] => some []
  | [.int .i64 n] :: l => (toInts l).map (n :: ·)
  | _ => none
theorem toInts_eq : ∀ {rows : List (List V)} {l : List Int}, toInts rows = some l → rows = l.map cI
  | [], l, h => by cases h; rfl
  | [.int .i64 n] :: r, l, h => by
    simp only [toInts, Option.map_eq_some_iff] at h
    obtain ⟨m, h1, rfl⟩ := h
    rw [toInts_eq h1]; rfl
def clonePA46 : PrimA := ⟨fun id g args H => if g = 46 ∧ 5 ≤ id then match args with
    | [.sl rows] => match toInts rows with
      | some l => if l.length ≤ 4294967296 then some (.ms id ((H id).ver + 3) 0 l.length, ⟨(H id).ver + 3, true, true, 3, 1, l.map cI⟩) else none
      | none => none
    | [.nilsl] => some (.ms id ((H id).ver + 3) 0 0, ⟨(H id).ver + 3, true, true, 3, 1, []⟩)
    | _ => none
  else none, fun g args => if g = 46 then match args with
    | [.sl rows] => match toInts rows with
      | some l => if l.length ≤ 4294967296 then some (.sl (l.map cI)) else none
      | none => none
    | _ => none
  else none⟩
theorem CallOK_nilarg {P : Program} {f : Nat} {H H' : Heap} {v : V} (h : CallOK P f [.sl []] H v H') : CallOK P f [.nilsl] H v H' :=
  ⟨h.1, fun x cs hxH hx hr => h.2 x cs hxH hx ⟨hr.1, fun j u hj => by
    match j, hj with
    | 0, hj =>
      cases hj
      have q := hr.2 0 _ rfl
      generalize hv : V.nilsl = w at q
      generalize cs.getD 0 undef = c at q ⊢
      cases q <;> cases hv
      exact .slnil
    | n + 1, hj => simp at hj⟩⟩
theorem clonePA46_ok : PrimAOK Try.prog clonePA46 := by
  constructor
  · intro id g args H v b h
    unfold clonePA46 at h
    dsimp only at h
    split at h
    · rename_i hg
      obtain ⟨rfl, h5⟩ := hg
      split at h
      · rename_i rows
        split at h
        · rename_i l hl
          split at h
          · rename_i hn
            cases h
            refine ⟨rfl, fun H2 h2 => ?_⟩
            rw [toInts_eq hl]
            exact cloneA id h5 l _ H2 (by rw [h2]) hn
          · cases h
        · cases h
      · cases h
        refine ⟨rfl, fun H2 h2 => CallOK_nilarg ?_⟩
        exact cloneA id h5 [] _ H2 (by rw [h2]) (by decide)
      · cases h
    · cases h
  · intro g args v h
    unfold clonePA46 at h
    dsimp only at h
    split at h
    · rename_i hg
      subst hg
      split at h
      · rename_i rows
        split at h
        · rename_i l hl
          split at h
          · rename_i hn
            cases h
            rw [toInts_eq hl]
            exact clone_pure l hn
          · cases h
        · cases h
      · cases h
    · cases h
def s19 : SF := ⟨5, [.tmp 2], .seq (.reg [sO 2 (.mv (.c (.nilsl)))]) (.seq (.reg [sO 3 (.mv (.t 0)), sO 4 (.call false 43 [.t 3, .c (.fn 44 [] [])]), sO 2 (.mv (.t 4))]) (.ret))⟩
theorem s19_ok : slimF Try.prog ⟨[22, 25, 26, 31, 32, 67, 68, 69, 73, 79, 81, 86], []⟩ Try.f19 = some s19 := by kernel_rfl
def b43_0 : SC := .seq (.reg [sO 19 (.bin .lss (.t 18) (.t 17))]) (.seq (.cond (.t 19) (.skip) (.exit 0)) (.seq (.block 1 (.seq (.reg [sO 20 (.mv (.t 18)), sO 21 (.idx 1 (.t 16) (.t 18)), sO 22 (.load false 1 (.t 21)), sO 6 (.mv (.t 20)), sO 7 (.mv (.t 22))]) (.reg [sO 23 (.mv (.t 5)), sO 24 (.mv (.t 6)), sO 25 (.mv (.t 7)), sO 26 (.call false 46 [.t 25]), sO 27 (.idx 1 (.t 23) (.t 24)), sN (.store 1 (.t 27) (.t 26))]))) (.reg [sO 28 (.bin .add (.t 18) (.c (.int .i64 1))), sO 18 (.mv (.t 28))])))
def s43 : SF := ⟨30, [.tmp 4], .seq (.reg [sO 3 (.box 59 1 (.t 1)), sO 4 (.mv (.c (.nilsl)))]) (.seq (.reg [sO 8 (.mv (.t 0)), sO 9 (.call true 67 [.t 8]), sO 5 (.mv (.t 9))]) (.seq (.reg [sO 10 (.mv (.t 5)), sO 11 (.load false 1 (.t 3)), sO 12 (.call true 68 [.t 10, .t 11])]) (.seq (.reg [sO 13 (.mv (.t 5)), sO 14 (.mkf 70 [.t 3]), sO 15 (.call true 69 [.t 13, .t 14]), sO 5 (.mv (.t 15))]) (.seq (.seq (.reg [sO 16 (.mv (.t 5)), sO 17 (.len (.t 16)), sO 18 (.mv (.c (.int .i64 0)))]) (.block 0 (.loop b43_0))) (.seq (.reg [sO 29 (.mv (.t 5)), sO 4 (.mv (.t 29))]) (.ret))))))⟩
theorem s43_ok : slimF Try.prog ⟨[22, 25, 26, 31, 32, 67, 68, 69, 73, 79, 81, 86], []⟩ Try.f43 = some s43 := by kernel_rfl
def r44_1 : List SO := [
 sO 5 (.mv (.t 0)),
 sO 6 (.len (.t 5)),
 sO 7 (.mv (.t 1)),
 sO 8 (.len (.t 7)),
 sO 9 (.call false 72 [.t 6, .t 8]),
 sO 10 (.mv (.t 0)),
 sO 11 (.mv (.t 1)),
 sO 12 (.call false 48 [.t 10, .t 11]),
 sO 13 (.bslice 3 1 false [.int .i64 0] 2 [(0, .t 9), (1, .t 12)]),
 sO 14 (.call false 71 [.t 13]),
 sO 4 (.mv (.t 14))]
def s44 : SF := ⟨15, [.tmp 4], .seq (.reg [sO 4 (.mv (.c (.int .i64 0)))]) (.seq (.reg r44_1) (.ret))⟩
theorem s44_ok : slimF Try.prog ⟨[22, 25, 26, 31, 32, 67, 68, 69, 73, 79, 81, 86], []⟩ Try.f44 = some s44 := by kernel_rfl
def b48_0 : SC := .seq (.reg [sO 12 (.bin .lss (.t 11) (.t 10))]) (.seq (.cond (.t 12) (.skip) (.exit 0)) (.seq (.block 1 (.seq (.reg [sO 13 (.mv (.t 11)), sO 14 (.idx 1 (.t 9) (.t 11)), sO 15 (.load false 1 (.t 14)), sO 5 (.mv (.t 13)), sO 6 (.mv (.t 15))]) (.seq (.seq (.reg [sO 16 (.mv (.t 5)), sO 17 (.mv (.t 1)), sO 18 (.len (.t 17)), sO 19 (.bin .geq (.t 16) (.t 18))]) (.cond (.t 19) (.seq (.reg [sO 4 (.mv (.c (.int .i64 1)))]) (.ret)) (.skip))) (.seq (.reg [sO 20 (.mv (.t 1)), sO 21 (.mv (.t 5)), sO 22 (.idx 1 (.t 20) (.t 21)), sO 23 (.load false 1 (.t 22)), sO 7 (.mv (.t 23))]) (.seq (.reg [sO 24 (.mv (.t 6)), sO 25 (.mv (.t 7)), sO 26 (.call false 72 [.t 24, .t 25]), sO 8 (.mv (.t 26))]) (.seq (.reg [sO 27 (.mv (.t 8)), sO 28 (.bin .neq (.t 27) (.c (.int .i64 0)))]) (.cond (.t 28) (.seq (.reg [sO 29 (.mv (.t 8)), sO 4 (.mv (.t 29))]) (.ret)) (.skip)))))))) (.reg [sO 30 (.bin .add (.t 11) (.c (.int .i64 1))), sO 11 (.mv (.t 30))])))
def s48 : SF := ⟨36, [.tmp 4], .seq (.reg [sO 4 (.mv (.c (.int .i64 0)))]) (.seq (.seq (.reg [sO 9 (.mv (.t 0)), sO 10 (.len (.t 9)), sO 11 (.mv (.c (.int .i64 0)))]) (.block 0 (.loop b48_0))) (.seq (.seq (.reg [sO 31 (.mv (.t 0)), sO 32 (.len (.t 31)), sO 33 (.mv (.t 1)), sO 34 (.len (.t 33)), sO 35 (.bin .lss (.t 32) (.t 34))]) (.cond (.t 35) (.seq (.reg [sO 4 (.mv (.c (.int .i64 (-1))))]) (.ret)) (.skip))) (.seq (.reg [sO 4 (.mv (.c (.int .i64 0)))]) (.ret))))⟩
theorem s48_ok : slimF Try.prog ⟨[22, 25, 26, 31, 32, 67, 68, 69, 73, 79, 81, 86], []⟩ Try.f48 = some s48 := by kernel_rfl
def s72 : SF := ⟨20, [.tmp 4], .seq (.reg [sO 4 (.mv (.c (.int .i64 0)))]) (.seq (.reg [sO 7 (.mv (.t 0)), sO 8 (.call false 83 [.t 7]), sO 5 (.mv (.t 8))]) (.seq (.reg [sO 9 (.mv (.t 1)), sO 10 (.call false 83 [.t 9]), sO 6 (.mv (.t 10))]) (.seq (.seq (.reg [sO 11 (.mv (.t 5))]) (.cond (.t 11) (.seq (.seq (.reg [sO 12 (.mv (.t 6))]) (.cond (.t 12) (.seq (.reg [sO 4 (.mv (.c (.int .i64 0)))]) (.ret)) (.skip))) (.seq (.reg [sO 4 (.mv (.c (.int .i64 (-1))))]) (.ret))) (.skip))) (.seq (.seq (.reg [sO 13 (.mv (.t 6))]) (.cond (.t 13) (.seq (.reg [sO 4 (.mv (.c (.int .i64 1)))]) (.ret)) (.skip))) (.seq (.seq (.reg [sO 14 (.mv (.t 0)), sO 15 (.mv (.t 1)), sO 16 (.bin .lss (.t 14) (.t 15))]) (.cond (.t 16) (.seq (.reg [sO 4 (.mv (.c (.int .i64 (-1))))]) (.ret)) (.skip))) (.seq (.seq (.reg [sO 17 (.mv (.t 0)), sO 18 (.mv (.t 1)), sO 19 (.bin .gtr (.t 17) (.t 18))]) (.cond (.t 19) (.seq (.reg [sO 4 (.mv (.c (.int .i64 1)))]) (.ret)) (.skip))) (.seq (.reg [sO 4 (.mv (.c (.int .i64 0)))]) (.ret))))))))⟩
theorem s72_ok : slimF Try.prog ⟨[22, 25, 26, 31, 32, 67, 68, 69, 73, 79, 81, 86], []⟩ Try.f72 = some s72 := by kernel_rfl
def s83 : SF := ⟨6, [.tmp 2], .seq (.reg [sO 2 (.mv (.c (.bool false)))]) (.seq (.reg [sO 3 (.mv (.t 0)), sO 4 (.mv (.t 0)), sO 5 (.bin .neq (.t 3) (.t 4)), sO 2 (.mv (.t 5))]) (.ret))⟩
theorem s83_ok : slimF Try.prog ⟨[22, 25, 26, 31, 32, 67, 68, 69, 73, 79, 81, 86], []⟩ Try.f83 = some s83 := by kernel_rfl
theorem isnan_pure (n : Int) : PureC Try.prog 83 [(iV (n))] (V.bool false) := by
 refine pW Try.func83 s83_ok fun hB => ?_
 unfold s83
 dsimp only
 refine W_r (R_mv (@rfl V (V.bool false)) (R_e (W_r (R_mv (@rfl V (iV (n))) (R_mv (@rfl V (iV (n))) (R_neq rfl rfl (R_mv (@rfl V (V.bool (decide ((n) ≠ (n))))) ?_)))))))
 refine R_e (W_ret ?_)
 refine Ret_1 (@rfl V (V.bool (decide ((n) ≠ (n))))) (fz_bool ?_)
 · simp
theorem cmpint_pure (x y : Int) : PureC Try.prog 72 [(iV (x)), (iV (y))] (iV (cmpI x y)) := by
 refine pW Try.func72 s72_ok fun hB => ?_
 unfold s72
 dsimp only
 refine W_r (R_mv (@rfl V (iV (0 : Int))) (R_e (W_r (R_mv (@rfl V (iV (x))) (R_callc (evcons rfl evnil) (isnan_pure ((x))) (R_mv (@rfl V (V.bool false)) (R_e ?_)))))))
 refine W_r (R_mv (@rfl V (iV (y))) (R_callc (evcons rfl evnil) (isnan_pure ((y))) (R_mv (@rfl V (V.bool false)) (R_e (W_seq_seq (W_r (R_mv (@rfl V (V.bool false)) ?_)))))))
 refine R_e ?_
 refine W_seq_ifb rfl (fun c1 => ?_) (fun c1 => ?_)
 · cases c1
 refine W_seq_skip (W_seq_seq (W_r (R_mv (@rfl V (V.bool false)) (R_e ?_))))
 refine W_seq_ifb rfl (fun c2 => ?_) (fun c2 => ?_)
 · cases c2
 refine W_seq_skip (W_seq_seq (W_r (R_mv (@rfl V (iV (x))) (R_mv (@rfl V (iV (y))) (R_lss rfl rfl (R_e ?_))))))
 refine W_seq_if rfl (fun c3 => ?_) fun c3 => ?_
 ·
  refine W_seq_seq (W_r (R_mv (@rfl V (iV (-1 : Int))) (R_e (W_seq_ret ?_))))
  refine Ret_1 (@rfl V (iV (-1 : Int))) (fz_int ?_)
  · unfold cmpI; repeat (split <;> first | rfl | omega | skip)
 refine W_seq_skip (W_seq_seq (W_r (R_mv (@rfl V (iV (x))) (R_mv (@rfl V (iV (y))) (R_gtr rfl rfl (R_e ?_))))))
 refine W_seq_if rfl (fun c4 => ?_) fun c4 => ?_
 ·
  refine W_seq_seq (W_r (R_mv (@rfl V (iV (1 : Int))) (R_e (W_seq_ret ?_))))
  refine Ret_1 (@rfl V (iV (1 : Int))) (fz_int ?_)
  · unfold cmpI; repeat (split <;> first | rfl | omega | skip)
 refine W_seq_skip (W_r (R_mv (@rfl V (iV (0 : Int))) (R_e (W_ret ?_))))
 refine Ret_1 (@rfl V (iV (0 : Int))) (fz_int ?_)
 · unfold cmpI; repeat (split <;> first | rfl | omega | skip)
theorem scompare_pure (a b : List Int) : PureC Try.prog 48 [(ints a), (ints b)] (iV (lexI a b)) := by
 refine pW Try.func48 s48_ok fun hB => ?_
 unfold s48
 dsimp only
 refine W_r (R_mv (@rfl V (iV (0 : Int))) (R_e (W_seq_seq (W_r (R_mv (@rfl V (ints a)) (R_len rfl (R_mv (@rfl V (iV (0 : Int))) ?_)))))))
 refine R_e (W_seq_blockg fun Q1 n1 x1 y1 z1 => ?_)
 refine W_loop (fun mm T H => ∃ (k : Nat), mm = a.length - k ∧ T 0 = (ints a) ∧ T 1 = (ints b) ∧ T 9 = (ints a) ∧ T 10 = (iV ((a.length : Nat) : Int)) ∧ T 11 = (iV ((k : Nat) : Int)) ∧ (k ≤ a.length) ∧ (k ≤ cmn a b)) ?_ ?_
 ·
  refine ⟨_, 0, rfl, rfl, rfl, rfl, rfl, (Eq.trans (@rfl V (iV (0 : Int))) rfl), ?_, ?_⟩
  · omega
  · exact Nat.zero_le _
 intro mm T H ⟨k, hmm, t0, t1, t9, t10, t11, hk, hc⟩ Q2 p12 p22 p32
 unfold b48_0
 refine W_r (R_lss t11 t10 (R_e ?_))
 refine W_seq_if rfl (fun c3 => ?_) fun c3 => ?_
 ·
  refine W_seq_skip (W_seq_blockg fun Q4 n4 x4 y4 z4 => (W_r (R_mv t11 (R_idx (i := k) t9 t11 (by omega) rfl (R_load_pp (v := (iV ((nth (a) (k))))) rfl (by first | rfl | simp [ldV]) (R_mv (@rfl V (iV ((k : Nat) : Int))) (R_mv (@rfl V (iV ((nth (a) (k))))) ?_)))))))
  refine R_e (W_seq_seq (W_r (R_mv (@rfl V (iV ((k : Nat) : Int))) (R_mv t1 (R_len rfl (R_geq rfl rfl (R_e ?_)))))))
  refine W_seq_if rfl (fun c5 => ?_) fun c5 => ?_
  ·
   refine W_seq_seq (W_r (R_mv (@rfl V (iV (1 : Int))) (R_e (W_seq_ret (y4 _ _ (p22 _ _ (y1 _ _ ?_)))))))
   refine Ret_1 (@rfl V (iV (1 : Int))) (fz_int ?_)
   · have g1 := cmn_l a b
     have g2 := cmn_r a b
     have g3 := cmn_at hc (by omega)
     simp only [lexI, cmpI, g3] at *; repeat (split <;> first | rfl | omega | skip)
  refine W_seq_skip (W_r (R_mv t1 (R_mv (@rfl V (iV ((k : Nat) : Int))) (R_idx (i := k) (@rfl V (ints b)) (@rfl V (iV ((k : Nat) : Int))) (by omega) rfl (R_load_pp (v := (iV ((nth (b) (k))))) rfl (by first | rfl | simp [ldV]) (R_mv (@rfl V (iV ((nth (b) (k))))) (R_e ?_)))))))
  refine W_r (R_mv (@rfl V (iV ((nth (a) (k))))) (R_mv (@rfl V (iV ((nth (b) (k))))) (R_callc (evcons rfl (evcons rfl evnil)) (cmpint_pure (((nth (a) (k)))) (((nth (b) (k))))) (R_mv (@rfl V (iV (cmpI (((nth (a) (k)))) (((nth (b) (k))))))) (R_e (W_r (R_mv (@rfl V (iV (cmpI (((nth (a) (k)))) (((nth (b) (k))))))) ?_)))))))
  refine R_neq rfl rfl (R_e ?_)
  refine W_if rfl (fun c6 => ?_) fun c6 => ?_
  ·
   have c9 : nth a k ≠ nth b k := fun e => c6 (cmpI_zero.2 e)
   refine W_r (R_mv (@rfl V (iV (cmpI (((nth (a) (k)))) (((nth (b) (k))))))) (R_mv (@rfl V (iV (cmpI (((nth (a) (k)))) (((nth (b) (k))))))) (R_e (W_ret (y4 _ _ (p22 _ _ (y1 _ _ ?_)))))))
   refine Ret_1 (@rfl V (iV (cmpI (((nth (a) (k)))) (((nth (b) (k))))))) (fz_int ?_)
   · have g1 := cmn_l a b
     have g2 := cmn_r a b
     have g3 := cmn_at hc (by omega)
     simp only [lexI, cmpI, g3] at *; repeat (split <;> first | rfl | omega | skip)
  refine W_skip (n4 _ _ (.done (W_t (R_addN t11 (@rfl V (iV ((1 : Nat) : Int))) (by omega) (R_mv (@rfl V (iV ((k + 1 : Nat) : Int))) (R_e ?_))))))
  refine p12 _ _ _ ?_ ⟨(k + 1), rfl, t0, t1, t9, t10, (Eq.trans (@rfl V (iV ((k + 1 : Nat) : Int))) (by first | rfl | simp)), ?_, ?_⟩
  · omega
  · omega
  · exact cmn_next hc (by omega) (by omega) (cmpI_zero.1 (by omega))
 refine W_seq_exit (p32 _ _ _ (x1 _ _ (.done (W_seq_seq (W_r (R_mv t0 (R_len rfl ?_)))))))
 refine R_mv t1 (R_len rfl (R_lss rfl rfl (R_e ?_)))
 refine W_seq_if rfl (fun c7 => ?_) fun c7 => ?_
 ·
  refine W_seq_seq (W_r (R_mv (@rfl V (iV (-1 : Int))) (R_e (W_seq_ret ?_))))
  refine Ret_1 (@rfl V (iV (-1 : Int))) (fz_int ?_)
  · have g1 := cmn_l a b
    have g2 := cmn_r a b
    have g3 := cmn_at hc (by omega)
    simp only [lexI, cmpI, g3] at *; repeat (split <;> first | rfl | omega | skip)
 refine W_seq_skip (W_r (R_mv (@rfl V (iV (0 : Int))) (R_e (W_ret ?_))))
 refine Ret_1 (@rfl V (iV (0 : Int))) (fz_int ?_)
 · have g1 := cmn_l a b
   have g2 := cmn_r a b
   have g3 := cmn_at hc (by omega)
   simp only [lexI, cmpI, g3] at *; repeat (split <;> first | rfl | omega | skip)
def b71_0 : SC := .seq (.reg [sO 9 (.bin .lss (.t 8) (.t 7))]) (.seq (.cond (.t 9) (.skip) (.exit 0)) (.seq (.block 1 (.seq (.reg [sO 10 (.idx 1 (.t 6) (.t 8)), sO 11 (.load false 1 (.t 10)), sO 5 (.mv (.t 11))]) (.seq (.reg [sO 12 (.mv (.t 5)), sO 13 (.mv (.t 3)), sO 14 (.bin .neq (.t 12) (.t 13))]) (.cond (.t 14) (.seq (.reg [sO 15 (.mv (.t 5)), sO 2 (.mv (.t 15))]) (.ret)) (.skip))))) (.reg [sO 16 (.bin .add (.t 8) (.c (.int .i64 1))), sO 8 (.mv (.t 16))])))
def s71 : SF := ⟨18, [.tmp 2], .seq (.reg [sO 2 (.mv (.c (.int .i64 0)))]) (.seq (.reg [sO 3 (.mv (.c (.int .i64 0)))]) (.seq (.seq (.reg [sO 6 (.mv (.t 0)), sO 7 (.len (.t 6)), sO 8 (.mv (.c (.int .i64 0)))]) (.block 0 (.loop b71_0))) (.seq (.reg [sO 17 (.mv (.t 3)), sO 2 (.mv (.t 17))]) (.ret))))⟩
theorem s71_ok : slimF Try.prog ⟨[22, 25, 26, 31, 32, 67, 68, 69, 73, 79, 81, 86], []⟩ Try.f71 = some s71 := by kernel_rfl
theorem cmpor_pure (l : List Int) (hl : l.length < 4294967296) : PureC Try.prog 71 [(ints l)] (iV (orI l)) := by
 refine pW Try.func71 s71_ok fun hB => ?_
 unfold s71
 dsimp only
 refine W_r (R_mv (@rfl V (iV (0 : Int))) (R_e (W_r (R_mv (@rfl V (iV (0 : Int))) (R_e (W_seq_seq (W_r ?_)))))))
 refine R_mv (@rfl V (ints l)) (R_len rfl (R_mv (@rfl V (iV (0 : Int))) (R_e (W_seq_blockg fun Q1 n1 x1 y1 z1 => ?_))))
 refine W_loop (fun mm T H => ∃ (k : Nat), mm = l.length - k ∧ T 3 = (iV (0 : Int)) ∧ T 6 = (ints l) ∧ T 7 = (iV ((l.length : Nat) : Int)) ∧ T 8 = (iV ((k : Nat) : Int)) ∧ (k ≤ l.length) ∧ (orI l = orI (l.drop k))) ?_ ?_
 ·
  refine ⟨_, 0, rfl, rfl, rfl, rfl, (Eq.trans (@rfl V (iV (0 : Int))) rfl), ?_, ?_⟩
  · omega
  · rfl
 intro mm T H ⟨k, hmm, t3, t6, t7, t8, hk, hc⟩ Q2 p12 p22 p32
 unfold b71_0
 refine W_r (R_lss t8 t7 (R_e ?_))
 refine W_seq_if rfl (fun c3 => ?_) fun c3 => ?_
 ·
  refine W_seq_skip (W_seq_blockg fun Q4 n4 x4 y4 z4 => (W_r (R_idx (i := k) t6 t8 (by omega) rfl (R_load_pp (v := (iV ((nth (l) (k))))) rfl (by first | rfl | simp [ldV]) (R_mv (@rfl V (iV ((nth (l) (k))))) (R_e (W_r ?_)))))))
  refine R_mv (@rfl V (iV ((nth (l) (k))))) (R_mv t3 (R_neq rfl rfl (R_e ?_)))
  refine W_if rfl (fun c5 => ?_) fun c5 => ?_
  ·
   refine W_r (R_mv (@rfl V (iV ((nth (l) (k))))) (R_mv (@rfl V (iV ((nth (l) (k))))) (R_e (W_ret (y4 _ _ (p22 _ _ (y1 _ _ ?_)))))))
   refine Ret_1 (@rfl V (iV ((nth (l) (k))))) (fz_int ?_)
   · rw [hc, orI_drop (by omega), if_neg (by omega)]
  refine W_skip (n4 _ _ (.done (W_t (R_addN t8 (@rfl V (iV ((1 : Nat) : Int))) (by omega) (R_mv (@rfl V (iV ((k + 1 : Nat) : Int))) (R_e ?_))))))
  refine p12 _ _ _ ?_ ⟨(k + 1), rfl, t3, t6, t7, (Eq.trans (@rfl V (iV ((k + 1 : Nat) : Int))) (by first | rfl | simp)), ?_, ?_⟩
  · omega
  · omega
  · rw [hc, orI_drop (by omega), if_pos (by omega)]
 refine W_seq_exit (p32 _ _ _ (x1 _ _ (.done (W_r (R_mv t3 (R_mv (@rfl V (iV (0 : Int))) (R_e ?_)))))))
 refine W_ret ?_
 refine Ret_1 (@rfl V (iV (0 : Int))) (fz_int ?_)
 · rw [hc, List.drop_of_length_le (by omega)]; rfl
theorem compare_pure (a b : List Int) : PureC Try.prog 44 [(ints a), (ints b)] (iV (slx a b)) := by
 refine pW Try.func44 s44_ok fun hB => ?_
 unfold s44
 dsimp only
 refine W_r (R_mv (@rfl V (iV (0 : Int))) (R_e (W_r (R_mv (@rfl V (ints a)) (R_len rfl (R_mv (@rfl V (ints b)) (R_len rfl ?_)))))))
 refine R_callc (evcons rfl (evcons rfl evnil)) (cmpint_pure (((a.length : Nat) : Int)) (((b.length : Nat) : Int))) (R_mv (@rfl V (ints a)) (R_mv (@rfl V (ints b)) (R_callc (evcons rfl (evcons rfl evnil)) (scompare_pure a b) (R_bslice (qs := [(0, (iV (cmpI (((a.length : Nat) : Int)) (((b.length : Nat) : Int))))), (1, (iV (lexI a b)))]) (rows := [[(iV (cmpI (((a.length : Nat) : Int)) (((b.length : Nat) : Int))))], [(iV (lexI a b))]]) (mcons (congrArg (fun v => (0, v)) rfl) (mcons (congrArg (fun v => (1, v)) rfl) rfl)) rfl (R_callc (evcons rfl evnil) (cmpor_pure ([(cmpI (((a.length : Nat) : Int)) (((b.length : Nat) : Int))), (lexI a b)]) (by simp)) (R_mv (@rfl V (iV (orI ([(cmpI (((a.length : Nat) : Int)) (((b.length : Nat) : Int))), (lexI a b)])))) (R_e ?_)))))))
 refine W_ret ?_
 refine Ret_1 (@rfl V (iV (orI ([(cmpI (((a.length : Nat) : Int)) (((b.length : Nat) : Int))), (lexI a b)])))) (fz_int ?_)
 · simp only [orI, cmpI, slx]; repeat (split <;> first | rfl | omega | skip)
def s67 : SF := ⟨8, [.tmp 2], .seq (.reg [sO 2 (.lazy 25 1)]) (.seq (.seq (.reg [sO 3 (.mv (.t 0)), sO 4 (.isnil false (.t 3))]) (.cond (.t 4) (.seq (.reg [sO 2 (.lazy 25 1)]) (.ret)) (.skip))) (.seq (.reg [sO 5 (.lazy 25 1), sO 6 (.mv (.t 0)), sO 7 (.append 25 1 24 (.t 5) (.t 6)), sO 2 (.mv (.t 7))]) (.ret)))⟩
theorem s67_ok : slimF Try.prog ⟨[22, 25, 26, 31, 32, 67, 68, 69, 73, 79, 81, 86], [2, 5]⟩ Try.f67 = some s67 := by kernel_rfl
theorem clonew_E (l : List (List Int)) (v2 : Nat) (Hi : Heap) (h202 : (Hi 202).ver = v2) (hl : l.length ≤ 1073741824) : CallOK Try.prog 67 [(intss l)] Hi (V.ms 202 (v2 + 3) 0 (l.length)) (upd Hi 202 (bz (v2 + 3) 25 1 (List.map cL (l)))) := by
 refine eW (k0 := 200) Try.func67 s67_ok fun hB => ?_
 unfold s67
 dsimp only
 refine W_r (R_lazy (i := 202) (n := v2) (by rfl) h202 (R_e (W_seq_seq (W_seq_reg fun K hK => (R_mv (@rfl V (intss l)) ?_)))))
 refine R_isnil_sl (@rfl V (intss l)) (fun e1 => ?_) ?_
 ·
  replace e1 := List.map_eq_nil_iff.1 e1
  refine R_nil (hK _ _ ?_); clear hK K
  refine fork_ (R := fun T H => T 0 = (intss l) ∧ T 4 = (V.bool true) ∧ (∀ j, j ∉ [202] → H j = Hi j) ∧ H 202 = (bz (v2 + 1) 25 1 []) ∧ True) ⟨rfl, rfl, (upd_out (fun _ _ => rfl) (by decide)), rfl, trivial⟩ ?_
  intro T H ⟨t0, t4, hF, h202, _⟩
  refine W_seq_ifb t4 (fun c4 => ?_) (fun c4 => ?_)
  ·
   refine W_seq_seq (W_r (R_lazy (i := 202) (n := (v2 + 1)) (by rfl) (congrArg Blk.ver h202) (R_e (W_seq_ret (fork_ (R := fun T H => T 2 = (V.ms 202 (v2 + 2) 0 (0)) ∧ (∀ j, j ∉ [202] → H j = Hi j) ∧ H 202 = (bz (v2 + 2) 25 1 []) ∧ True) ⟨(@rfl V (V.ms 202 (v2 + 2) 0 (0))), (upd_out hF (by decide)), rfl, trivial⟩ ?_)))))
   intro T H ⟨t2, hF, h202, _⟩
   have fh := FinX.fin (FinX.put (B := (bz (v2 + 3) 25 1 (List.map cL (l)))) (FinX.start hF) h202 (FinB.up (by omega) (by first | rfl | (rw [e1]; rfl) | simp)))
   exact RetF_1 t2 fh (FinV.trans_eq (FinV.ms (n := (v2 + 3)) fh (by simp [h202]) (by simp [h202]) rfl rfl) (by first | rfl | (rw [e1]; rfl) | simp))
  · cases c4
 ·
  refine R_nil (hK _ _ ?_); clear hK K
  refine fork_ (R := fun T H => T 0 = (intss l) ∧ T 4 = (V.bool false) ∧ (∀ j, j ∉ [202] → H j = Hi j) ∧ H 202 = (bz (v2 + 1) 25 1 []) ∧ True) ⟨rfl, rfl, (upd_out (fun _ _ => rfl) (by decide)), rfl, trivial⟩ ?_
  intro T H ⟨t0, t4, hF, h202, _⟩
  refine W_seq_ifb t4 (fun c7 => ?_) (fun c7 => ?_)
  · cases c7
  refine W_seq_skip (W_rk 197 (R_lazy (i := 202) (n := (v2 + 1)) (by rfl) (congrArg Blk.ver h202) (R_mv t0 (R_appendS (l := ([])) (m := l) (f := cL) (@rfl V (V.ms 202 (v2 + 2) 0 (0))) (show _ = (bz (v2 + 2) 25 1 (List.map cL ([]))) from (@rfl Blk (bz (v2 + 2) 25 1 []))) (by first | rfl | simp) (@rfl V (intss l)) (fun _ => rfl) (fun _ => rfl) (by omega) (by omega) (R_mv (@rfl V (V.ms 202 (v2 + 3) 0 (0 + (l).length))) (R_e (W_ret ?_)))))))
  refine fork_ (R := fun T H => T 2 = (V.ms 202 (v2 + 3) 0 (0 + (l).length)) ∧ (∀ j, j ∉ [202] → H j = Hi j) ∧ H 202 = (bz (v2 + 3) 25 1 (List.map cL ([] ++ l))) ∧ True) ⟨(@rfl V (V.ms 202 (v2 + 3) 0 (0 + (l).length))), (upd_out (upd_out hF (by decide)) (by decide)), rfl, trivial⟩ ?_
  intro T H ⟨t2, hF, h202, _⟩
  have fh := FinX.fin (FinX.put (B := (bz (v2 + 3) 25 1 (List.map cL (l)))) (FinX.start hF) h202 (FinB.eq (by first | rfl | (rw [e1]; rfl) | simp)))
  exact RetF_1 t2 fh (FinV.trans_eq (FinV.same fh _) (by first | rfl | (rw [e1]; rfl) | simp))
def r69_6 : List SO := [
 sO 18 (.mv (.t 1)),
 sO 19 (.mv (.t 0)),
 sO 20 (.mv (.t 5)),
 sO 21 (.idx 1 (.t 19) (.t 20)),
 sO 22 (.load false 1 (.t 21)),
 sO 23 (.mv (.t 0)),
 sO 24 (.mv (.t 5)),
 sO 25 (.bin .sub (.t 24) (.c (.int .i64 1))),
 sO 26 (.idx 1 (.t 23) (.t 25)),
 sO 27 (.load false 1 (.t 26)),
 sO 28 (.callv false (.t 18) [.t 22, .t 27])]
def r69_11 : List SO := [
 sO 38 (.mv (.t 1)),
 sO 39 (.mv (.t 6)),
 sO 40 (.mv (.t 7)),
 sO 41 (.idx 1 (.t 39) (.t 40)),
 sO 42 (.load false 1 (.t 41)),
 sO 43 (.mv (.t 6)),
 sO 44 (.mv (.t 7)),
 sO 45 (.bin .sub (.t 44) (.c (.int .i64 1))),
 sO 46 (.idx 1 (.t 43) (.t 45)),
 sO 47 (.load false 1 (.t 46)),
 sO 48 (.callv false (.t 38) [.t 42, .t 47]),
 sO 49 (.un .not (.t 48))]
def r69_12 : List SO := [
 sO 50 (.mv (.t 0)),
 sO 51 (.mv (.t 5)),
 sO 52 (.mv (.t 6)),
 sO 53 (.mv (.t 7)),
 sO 54 (.idx 1 (.t 52) (.t 53)),
 sO 55 (.load false 1 (.t 54)),
 sO 56 (.idx 1 (.t 50) (.t 51)),
 sN (.store 1 (.t 56) (.t 55))]
def b69_1 : SC := .seq (.seq (.reg [sO 32 (.mv (.t 7)), sO 33 (.mv (.t 6)), sO 34 (.len (.t 33)), sO 35 (.bin .lss (.t 32) (.t 34))]) (.cond (.t 35) (.skip) (.exit 2))) (.seq (.block 3 (.seq (.reg r69_11) (.cond (.t 49) (.seq (.reg r69_12) (.reg [sO 57 (.mv (.t 5)), sO 58 (.bin .add (.t 57) (.c (.int .i64 1))), sO 5 (.mv (.t 58))])) (.skip)))) (.reg [sO 36 (.mv (.t 7)), sO 37 (.bin .add (.t 36) (.c (.int .i64 1))), sO 7 (.mv (.t 37))]))
def b69_0 : SC := .seq (.seq (.reg [sO 12 (.mv (.t 5)), sO 13 (.mv (.t 0)), sO 14 (.len (.t 13)), sO 15 (.bin .lss (.t 12) (.t 14))]) (.cond (.t 15) (.skip) (.exit 0))) (.seq (.block 1 (.seq (.reg r69_6) (.cond (.t 28) (.seq (.reg [sO 29 (.mv (.t 0)), sO 30 (.mv (.t 5)), sO 31 (.slice 1 (.t 29) (some (.t 30)) none), sO 6 (.mv (.t 31))]) (.seq (.seq (.reg [sO 7 (.mv (.c (.int .i64 1)))]) (.block 2 (.loop b69_1))) (.seq (.reg [sO 59 (.mv (.t 0)), sO 60 (.mv (.t 5)), sO 61 (.slice 1 (.t 59) (some (.t 60)) none), sN (.clr [.nilsl] (.t 61))]) (.seq (.reg [sO 62 (.mv (.t 0)), sO 63 (.mv (.t 5)), sO 64 (.slice 1 (.t 62) none (some (.t 63))), sO 4 (.mv (.t 64))]) (.ret))))) (.skip)))) (.reg [sO 16 (.mv (.t 5)), sO 17 (.bin .add (.t 16) (.c (.int .i64 1))), sO 5 (.mv (.t 17))]))
def s69 : SF := ⟨66, [.tmp 4], .seq (.reg [sO 4 (.mv (.c (.nilsl)))]) (.seq (.seq (.reg [sO 8 (.mv (.t 0)), sO 9 (.len (.t 8)), sO 10 (.bin .lss (.t 9) (.c (.int .i64 2)))]) (.cond (.t 10) (.seq (.reg [sO 11 (.mv (.t 0)), sO 4 (.mv (.t 11))]) (.ret)) (.skip))) (.seq (.seq (.reg [sO 5 (.mv (.c (.int .i64 1)))]) (.block 0 (.loop b69_0))) (.seq (.reg [sO 65 (.mv (.t 0)), sO 4 (.mv (.t 65))]) (.ret))))⟩
theorem s69_ok : slimF Try.prog ⟨[22, 25, 26, 31, 32, 67, 68, 69, 73, 79, 81, 86], []⟩ Try.f69 = some s69 := by kernel_rfl
def s70 : SF := ⟨11, [.tmp 5], .seq (.reg [sO 5 (.mv (.c (.bool false)))]) (.seq (.reg [sO 6 (.load false 1 (.t 2)), sO 7 (.mv (.t 0)), sO 8 (.mv (.t 1)), sO 9 (.callv false (.t 6) [.t 7, .t 8]), sO 10 (.bin .eql (.t 9) (.c (.int .i64 0))), sO 5 (.mv (.t 10))]) (.ret))⟩
theorem s70_ok : slimF Try.prog ⟨[22, 25, 26, 31, 32, 67, 68, 69, 73, 79, 81, 86], []⟩ Try.f70 = some s70 := by kernel_rfl
theorem ord1_pure (a b : List Int) : PureC Try.prog 70 [(ints a), (ints b), (V.pp [(V.fn 44 [] [])])] (V.bool (decide (slx a b = 0))) := by
 refine pW Try.func70 s70_ok fun hB => ?_
 unfold s70
 dsimp only
 refine W_r (R_mv (@rfl V (V.bool false)) (R_e (W_r (R_load_pp (v := (V.fn 44 [] [])) rfl (by first | rfl | simp [ldV]) (R_mv (@rfl V (ints a)) (R_mv (@rfl V (ints b)) (R_callv (@rfl V (V.fn 44 [] [])) (evcons (@rfl V (ints a)) (evcons (@rfl V (ints b)) evnil)) (compare_pure a b) (fzv_mapcanon _ _ (by simp [-List.map_take, -List.map_drop, -List.map_append, -List.map_reverse])) (by simp [-List.map_take, -List.map_drop, -List.map_append, -List.map_reverse]) (Or.inl (by simp [-List.map_take, -List.map_drop, -List.map_append, -List.map_reverse])) ?_)))))))
 refine R_eql rfl rfl (R_mv (@rfl V (V.bool (decide ((slx a b) = (0 : Int))))) (R_e (W_ret ?_)))
 refine Ret_1 (@rfl V (V.bool (decide ((slx a b) = (0 : Int))))) (fz_bool ?_)
 · rfl
theorem compw_E (l : List (List Int)) (v2 v3 len : Nat) (Hi : Heap) (h202 : Hi 202 = (bz v2 25 1 (List.map cL (l)))) (h3 : Hi 3 = (bk v3 59 1 [[(V.fn 44 [] [])]])) (hn : len = l.length) (hl : l.length ≤ 1073741824) : CallOK Try.prog 69 [(V.ms 202 v2 0 (len)), (V.fn 70 [] [(V.mp 3 v3 0 0)])] Hi (V.ms 202 v2 0 ((ddK l l.length).length)) (upd Hi 202 (bz v2 25 1 (List.map cL (ddK l l.length) ++ List.replicate (l.length - (ddK l l.length).length) [V.nilsl]))) := by
 refine eW (k0 := 400) Try.func69 s69_ok fun hB => ?_
 unfold s69
 dsimp only
 refine W_r (R_mv (@rfl V V.nilsl) (R_e (W_seq_seq (W_r (R_mv (@rfl V (V.ms 202 v2 0 (len))) (R_len_ms rfl h202 (by first | rfl | simp) (R_lss rfl rfl ?_)))))))
 refine R_e ?_
 refine W_seq_if rfl (fun c1 => ?_) fun c1 => ?_
 ·
  refine W_seq_seq (W_r (R_mv (@rfl V (V.ms 202 v2 0 (len))) (R_mv (@rfl V (V.ms 202 v2 0 (len))) (R_e (W_seq_ret (fork_ (R := fun T H => T 4 = (V.ms 202 v2 0 (len)) ∧ (∀ j, j ∉ [202] → H j = Hi j) ∧ H 3 = (bk v3 59 1 [[(V.fn 44 [] [])]]) ∧ H 202 = (bz v2 25 1 (List.map cL (l))) ∧ True) ⟨(@rfl V (V.ms 202 v2 0 (len))), (fun _ _ => rfl), h3, h202, trivial⟩ ?_))))))
  intro T H ⟨t4, hF, h3, h202, _⟩
  have hall := dd_all (l := l) (fun i i1 i2 => by omega)
  have fh := FinX.fin (FinX.put (B := (bz v2 25 1 (List.map cL (ddK l l.length) ++ List.replicate (l.length - (ddK l l.length).length) [V.nilsl]))) (FinX.start hF) h202 (FinB.eq (by first | rfl | (rw [hd.2]; done) | (rw [hall]; simp; done) | (rw [q5.1, ddL_keep (show k + j < l.length by omega) (.inr d5)]; rfl) | (rw [q5.1, ddL_keep (show k + j < l.length by omega) (.inr d5)]; done) | (show _ = (⟨_, _, _, _, _, List.map cL (ddL l ((k + j) + 1))⟩ : Blk); rw [ddL_skip (by rintro (q | q); omega; exact q d5)]; done) | (rw [dd_take (show l.length ≤ k + j by omega) hj, show k + j = l.length by omega]; done) | (rw [dd_take (show l.length ≤ k + j by omega) hj, show k + j = l.length by omega, hn]; done))))
  exact RetF_1 t4 fh (FinV.trans_eq (FinV.same fh _) (by first | rfl | (rw [hd.1]; done) | (rw [hall, hn]; done) | (rw [hall]; done) | (show _ = iV (((ddK l ((k + j) + 1)).length : Nat) : Int); rw [ddK_keep (.inr d5), List.length_append]; rfl) | (show _ = iV (((ddK l ((k + j) + 1)).length : Nat) : Int); rw [ddK_skip (by rintro (q | q); omega; exact q d5)]; done) | (rw [show k + j = l.length by omega]; done)))
 refine W_seq_skip (W_seq_seq (W_r (R_mv (@rfl V (iV (1 : Int))) (R_e (W_seq_blockg fun Q2 n2 x2 y2 z2 => ?_)))))
 refine W_loop (fun mm T H => ∃ (k : Nat), mm = l.length - k ∧ T 0 = (V.ms 202 v2 0 (len)) ∧ T 1 = (V.fn 70 [] [(V.mp 3 v3 0 0)]) ∧ T 5 = (iV ((k : Nat) : Int)) ∧ (∀ j, j ∉ [202] → H j = Hi j) ∧ H 3 = (bk v3 59 1 [[(V.fn 44 [] [])]]) ∧ H 202 = (bz v2 25 1 (List.map cL (l))) ∧ (1 ≤ k) ∧ (k ≤ l.length) ∧ (∀ i, 1 ≤ i → i < k → nth l i ≠ nth l (i - 1))) ?_ ?_
 ·
  refine ⟨_, 1, rfl, rfl, rfl, (Eq.trans (@rfl V (iV (1 : Int))) rfl), (fun _ _ => rfl), h3, h202, ?_, ?_, ?_⟩
  · omega
  · omega
  · intro i h1 h2; omega
 intro mm T H ⟨k, hmm, t0, t1, t5, hF, h3, h202, h1, hk, hc⟩ Q3 p13 p23 p33
 unfold b69_0
 refine W_seq_seq (W_r (R_mv t5 (R_mv t0 (R_len_ms rfl h202 (by first | rfl | simp) (R_lss rfl rfl (R_e ?_))))))
 refine W_seq_if rfl (fun c4 => ?_) fun c4 => ?_
 ·
  refine W_seq_skip (W_seq_blockg fun Q5 n5 x5 y5 z5 => (W_r (R_mv t1 (R_mv t0 (R_mv t5 (R_idx_ms0 (i := k) (@rfl V (V.ms 202 v2 0 (len))) (@rfl V (iV ((k : Nat) : Int))) h202 (okB_map (by first | omega | (simp only [List.length_take]; omega))) rfl (by first | omega | (simp only [List.length_take]; omega)) (R_load_mp (v := (ints ((nth (l) (k))))) rfl h202 (ldB_map (by first | omega | (simp only [List.length_take]; omega)) (by first | rfl | simp [ldV, V.one])) ?_)))))))
  refine R_mv t0 (R_mv t5 (R_sub rfl rfl (by first | omega | (simp only [List.length_take]; omega)) (by first | omega | (simp only [List.length_take]; omega)) (R_idxI_ms0 (i := (((k : Nat) : Int) - (1 : Int))) (@rfl V (V.ms 202 v2 0 (len))) (@rfl V (iV (((k : Nat) : Int) - (1 : Int)))) h202 (okB_map (by first | omega | (simp only [List.length_take]; omega))) rfl (by first | omega | (simp only [List.length_take]; omega)) (by first | omega | (simp only [List.length_take]; omega)) (R_load_mp (v := (ints ((nth (l) (((((k : Nat) : Int) - (1 : Int))).toNat))))) rfl h202 (ldB_map (by first | omega | (simp only [List.length_take]; omega)) (by first | rfl | simp [ldV, V.one])) (R_callv (@rfl V (V.fn 70 [] [(V.mp 3 v3 0 0)])) (evcons (@rfl V (ints ((nth (l) (k))))) (evcons (@rfl V (ints ((nth (l) (((((k : Nat) : Int) - (1 : Int))).toNat))))) evnil)) (ord1_pure ((nth (l) (k))) ((nth (l) (((((k : Nat) : Int) - (1 : Int))).toNat)))) (mcons (fzv_canon 6 _ (by simp [-List.map_take, -List.map_drop, -List.map_append, -List.map_reverse])) (mcons (fzv_canon 6 _ (by simp [-List.map_take, -List.map_drop, -List.map_append, -List.map_reverse])) (mcons (by simp [fzv, Blk.own, h3, h202]) rfl))) (by simp [-List.map_take, -List.map_drop, -List.map_append, -List.map_reverse]) (Or.inr rfl) (R_e ?_))))))
  refine W_if rfl (fun c6 => ?_) fun c6 => ?_
  ·
   have d1 : nth l k = nth l (k - 1) := by have q := slx_zero.1 c6; rwa [show (((k : Nat) : Int) - (1 : Int)).toNat = k - 1 by omega] at q
   have hd := dd_start h1 (by omega) hc d1
   refine W_r (R_mv t0 (R_mv t5 (R_slice_ms_lo (n := k) (@rfl V (V.ms 202 v2 0 (len))) (@rfl V (iV ((k : Nat) : Int))) h202 (okB_map (by first | omega | (simp only [List.length_take]; omega))) rfl (by first | omega | (simp only [List.length_take]; omega)) (R_mv (@rfl V (V.ms 202 v2 (0 + k) (len - k))) (R_e (W_seq_seq (W_r ?_)))))))
   refine R_mv (@rfl V (iV (1 : Int))) (R_e (W_seq_blockg fun Q7 n7 x7 y7 z7 => ?_))
   refine W_loop (fun mm T H => ∃ (j : Nat), mm = l.length - (k + j) ∧ T 0 = (V.ms 202 v2 0 (len)) ∧ T 1 = (V.fn 70 [] [(V.mp 3 v3 0 0)]) ∧ T 5 = (iV (((ddK l (k + j)).length : Nat) : Int)) ∧ T 6 = (V.ms 202 v2 (0 + k) (len - k)) ∧ T 7 = (iV ((j : Nat) : Int)) ∧ (∀ j, j ∉ [202] → H j = Hi j) ∧ H 3 = (bk v3 59 1 [[(V.fn 44 [] [])]]) ∧ H 202 = (bz v2 25 1 (List.map cL (ddL l (k + j)))) ∧ (k + j ≤ l.length) ∧ (1 ≤ j) ∧ ((ddK l (k + j)).length < k + j)) ?_ ?_
   ·
    refine ⟨_, 1, rfl, t0, t1, (Eq.trans t5 (by first | rfl | (rw [hd.1]; done) | (rw [hall, hn]; done) | (rw [hall]; done) | (show _ = iV (((ddK l ((k + j) + 1)).length : Nat) : Int); rw [ddK_keep (.inr d5), List.length_append]; rfl) | (show _ = iV (((ddK l ((k + j) + 1)).length : Nat) : Int); rw [ddK_skip (by rintro (q | q); omega; exact q d5)]; done) | (rw [show k + j = l.length by omega]; done))), (Eq.trans (@rfl V (V.ms 202 v2 (0 + k) (len - k))) (by first | rfl | (rw [hd.1]; done) | (rw [hall, hn]; done) | (rw [hall]; done) | (show _ = iV (((ddK l ((k + j) + 1)).length : Nat) : Int); rw [ddK_keep (.inr d5), List.length_append]; rfl) | (show _ = iV (((ddK l ((k + j) + 1)).length : Nat) : Int); rw [ddK_skip (by rintro (q | q); omega; exact q d5)]; done) | (rw [show k + j = l.length by omega]; done))), (Eq.trans (@rfl V (iV (1 : Int))) rfl), hF, h3, (Eq.trans h202 (by first | rfl | (rw [hd.2]; done) | (rw [hall]; simp; done) | (rw [q5.1, ddL_keep (show k + j < l.length by omega) (.inr d5)]; rfl) | (rw [q5.1, ddL_keep (show k + j < l.length by omega) (.inr d5)]; done) | (show _ = (⟨_, _, _, _, _, List.map cL (ddL l ((k + j) + 1))⟩ : Blk); rw [ddL_skip (by rintro (q | q); omega; exact q d5)]; done) | (rw [dd_take (show l.length ≤ k + j by omega) hj, show k + j = l.length by omega]; done) | (rw [dd_take (show l.length ≤ k + j by omega) hj, show k + j = l.length by omega, hn]; done))), ?_, ?_, ?_⟩
    · omega
    · omega
    · rw [hd.1]; omega
   intro mm T H ⟨j, hmm, t0, t1, t5, t6, t7, hF, h3, h202, hj, hj1, hlt⟩ Q8 p18 p28 p38
   unfold b69_1
   have q1 := ddL_len (L := l) (j := k + j) hj
   have q5 := dd_at hlt hj1
   have q6 := dd_pos (l := l) (j := k + j) (by omega)
   refine W_seq_seq (W_r (R_mv t7 (R_mv t6 (R_len_ms rfl h202 (by first | rfl | simp) (R_lss rfl rfl (R_e ?_))))))
   refine W_seq_if rfl (fun c9 => ?_) fun c9 => ?_
   ·
    refine W_seq_skip (W_seq_blockg fun Q10 n10 x10 y10 z10 => (W_r (R_mv t1 (R_mv t6 (R_mv t7 (R_idx_ms (i := j) (@rfl V (V.ms 202 v2 (0 + k) (len - k))) (@rfl V (iV ((j : Nat) : Int))) h202 (okB_map (by first | omega | (simp only [List.length_take]; omega))) rfl (by first | omega | (simp only [List.length_take]; omega)) (R_load_mp (v := (ints ((nth (ddL l (k + j)) ((0 + k) + (j)))))) rfl h202 (ldB_map (by first | omega | (simp only [List.length_take]; omega)) (by first | rfl | simp [ldV, V.one])) ?_)))))))
    refine R_mv t6 (R_mv t7 (R_sub rfl rfl (by first | omega | (simp only [List.length_take]; omega)) (by first | omega | (simp only [List.length_take]; omega)) (R_idxI_ms (i := (((j : Nat) : Int) - (1 : Int))) (@rfl V (V.ms 202 v2 (0 + k) (len - k))) (@rfl V (iV (((j : Nat) : Int) - (1 : Int)))) h202 (okB_map (by first | omega | (simp only [List.length_take]; omega))) rfl (by first | omega | (simp only [List.length_take]; omega)) (by first | omega | (simp only [List.length_take]; omega)) (R_load_mp (v := (ints ((nth (ddL l (k + j)) ((0 + k) + ((((j : Nat) : Int) - (1 : Int))).toNat))))) rfl h202 (ldB_map (by first | omega | (simp only [List.length_take]; omega)) (by first | rfl | simp [ldV, V.one])) (R_callv (@rfl V (V.fn 70 [] [(V.mp 3 v3 0 0)])) (evcons (@rfl V (ints ((nth (ddL l (k + j)) ((0 + k) + (j)))))) (evcons (@rfl V (ints ((nth (ddL l (k + j)) ((0 + k) + ((((j : Nat) : Int) - (1 : Int))).toNat))))) evnil)) (ord1_pure ((nth (ddL l (k + j)) ((0 + k) + (j)))) ((nth (ddL l (k + j)) ((0 + k) + ((((j : Nat) : Int) - (1 : Int))).toNat)))) (mcons (fzv_canon 6 _ (by simp [-List.map_take, -List.map_drop, -List.map_append, -List.map_reverse])) (mcons (fzv_canon 6 _ (by simp [-List.map_take, -List.map_drop, -List.map_append, -List.map_reverse])) (mcons (by simp [fzv, Blk.own, h3, h202]) rfl))) (by simp [-List.map_take, -List.map_drop, -List.map_append, -List.map_reverse]) (Or.inr rfl) (R_not rfl (R_e ?_)))))))
    refine W_if rfl (fun c11 => ?_) fun c11 => ?_
    ·
     have d5 : nth l (k + j) ≠ nth l (k + j - 1) := fun q => c11 (slx_zero.2 (by rw [q5.1, q5.2]; exact q))
     refine W_r (R_mv t0 (R_mv t5 (R_mv t6 (R_mv t7 (R_idx_ms (i := j) (@rfl V (V.ms 202 v2 (0 + k) (len - k))) (@rfl V (iV ((j : Nat) : Int))) h202 (okB_map (by first | omega | (simp only [List.length_take]; omega))) rfl (by first | omega | (simp only [List.length_take]; omega)) (R_load_mp (v := (ints ((nth (ddL l (k + j)) ((0 + k) + (j)))))) rfl h202 (ldB_map (by first | omega | (simp only [List.length_take]; omega)) (by first | rfl | simp [ldV, V.one])) (R_idx_ms0 (i := ((ddK l (k + j)).length)) (@rfl V (V.ms 202 v2 0 (len))) (@rfl V (iV (((ddK l (k + j)).length : Nat) : Int))) h202 (okB_map (by first | omega | (simp only [List.length_take]; omega))) rfl (by first | omega | (simp only [List.length_take]; omega)) ?_)))))))
     refine R_store (vs := [(ints ((nth (ddL l (k + j)) ((0 + k) + (j)))))]) (B' := (bz v2 25 1 (List.map cL ((ddL l (k + j)).set ((ddK l (k + j)).length) ((nth (ddL l (k + j)) ((0 + k) + (j)))))))) rfl rfl rfl h202 (stB_map (x := ((nth (ddL l (k + j)) ((0 + k) + (j))))) (i := ((ddK l (k + j)).length)) (by first | omega | (simp only [List.length_take]; omega)) rfl rfl rfl rfl) (R_e (W_t (R_mv t5 (R_addN rfl (@rfl V (iV ((1 : Nat) : Int))) (by first | omega | (simp only [List.length_take]; omega)) (R_mv (@rfl V (iV ((((ddK l (k + j)).length) + 1 : Nat) : Int))) (R_e (n10 _ _ ?_)))))))
     refine .done (W_t (R_mv t7 (R_addN rfl (@rfl V (iV ((1 : Nat) : Int))) (by first | omega | (simp only [List.length_take]; omega)) (R_mv (@rfl V (iV ((j + 1 : Nat) : Int))) (R_e ?_)))))
     refine p18 _ _ _ ?_ ⟨(j + 1), rfl, t0, t1, (Eq.trans (@rfl V (iV ((((ddK l (k + j)).length) + 1 : Nat) : Int))) (by first | rfl | (rw [hd.1]; done) | (rw [hall, hn]; done) | (rw [hall]; done) | (show _ = iV (((ddK l ((k + j) + 1)).length : Nat) : Int); rw [ddK_keep (.inr d5), List.length_append]; rfl) | (show _ = iV (((ddK l ((k + j) + 1)).length : Nat) : Int); rw [ddK_skip (by rintro (q | q); omega; exact q d5)]; done) | (rw [show k + j = l.length by omega]; done))), (Eq.trans t6 (by first | rfl | (rw [hd.1]; done) | (rw [hall, hn]; done) | (rw [hall]; done) | (show _ = iV (((ddK l ((k + j) + 1)).length : Nat) : Int); rw [ddK_keep (.inr d5), List.length_append]; rfl) | (show _ = iV (((ddK l ((k + j) + 1)).length : Nat) : Int); rw [ddK_skip (by rintro (q | q); omega; exact q d5)]; done) | (rw [show k + j = l.length by omega]; done))), (Eq.trans (@rfl V (iV ((j + 1 : Nat) : Int))) (by first | rfl | (rw [hd.1]; done) | (rw [hall, hn]; done) | (rw [hall]; done) | (show _ = iV (((ddK l ((k + j) + 1)).length : Nat) : Int); rw [ddK_keep (.inr d5), List.length_append]; rfl) | (show _ = iV (((ddK l ((k + j) + 1)).length : Nat) : Int); rw [ddK_skip (by rintro (q | q); omega; exact q d5)]; done) | (rw [show k + j = l.length by omega]; done))), (upd_out hF (by decide)), h3, (Eq.trans (@rfl Blk (bz v2 25 1 (List.map cL ((ddL l (k + j)).set ((ddK l (k + j)).length) ((nth (ddL l (k + j)) ((0 + k) + (j)))))))) (by first | rfl | (rw [hd.2]; done) | (rw [hall]; simp; done) | (rw [q5.1, ddL_keep (show k + j < l.length by omega) (.inr d5)]; rfl) | (rw [q5.1, ddL_keep (show k + j < l.length by omega) (.inr d5)]; done) | (show _ = (⟨_, _, _, _, _, List.map cL (ddL l ((k + j) + 1))⟩ : Blk); rw [ddL_skip (by rintro (q | q); omega; exact q d5)]; done) | (rw [dd_take (show l.length ≤ k + j by omega) hj, show k + j = l.length by omega]; done) | (rw [dd_take (show l.length ≤ k + j by omega) hj, show k + j = l.length by omega, hn]; done))), ?_, ?_, ?_⟩
     · omega
     · omega
     · omega
     · first | (show (ddK l ((k + j) + 1)).length < (k + j) + 1; rw [ddK_keep (.inr d5), List.length_append]; simp; omega) | (show (ddK l ((k + j) + 1)).length < (k + j) + 1; rw [ddK_skip (by rintro (q | q); omega; exact q d5)]; omega)
    have d5 : nth l (k + j) = nth l (k + j - 1) := by have q := slx_zero.1 (Decidable.not_not.1 c11); rwa [q5.1, q5.2] at q
    refine W_skip (n10 _ _ (.done (W_t (R_mv t7 (R_addN rfl (@rfl V (iV ((1 : Nat) : Int))) (by first | omega | (simp only [List.length_take]; omega)) (R_mv (@rfl V (iV ((j + 1 : Nat) : Int))) (R_e ?_)))))))
    refine p18 _ _ _ ?_ ⟨(j + 1), rfl, t0, t1, (Eq.trans t5 (by first | rfl | (rw [hd.1]; done) | (rw [hall, hn]; done) | (rw [hall]; done) | (show _ = iV (((ddK l ((k + j) + 1)).length : Nat) : Int); rw [ddK_keep (.inr d5), List.length_append]; rfl) | (show _ = iV (((ddK l ((k + j) + 1)).length : Nat) : Int); rw [ddK_skip (by rintro (q | q); omega; exact q d5)]; done) | (rw [show k + j = l.length by omega]; done))), (Eq.trans t6 (by first | rfl | (rw [hd.1]; done) | (rw [hall, hn]; done) | (rw [hall]; done) | (show _ = iV (((ddK l ((k + j) + 1)).length : Nat) : Int); rw [ddK_keep (.inr d5), List.length_append]; rfl) | (show _ = iV (((ddK l ((k + j) + 1)).length : Nat) : Int); rw [ddK_skip (by rintro (q | q); omega; exact q d5)]; done) | (rw [show k + j = l.length by omega]; done))), (Eq.trans (@rfl V (iV ((j + 1 : Nat) : Int))) (by first | rfl | (rw [hd.1]; done) | (rw [hall, hn]; done) | (rw [hall]; done) | (show _ = iV (((ddK l ((k + j) + 1)).length : Nat) : Int); rw [ddK_keep (.inr d5), List.length_append]; rfl) | (show _ = iV (((ddK l ((k + j) + 1)).length : Nat) : Int); rw [ddK_skip (by rintro (q | q); omega; exact q d5)]; done) | (rw [show k + j = l.length by omega]; done))), hF, h3, (Eq.trans h202 (by first | rfl | (rw [hd.2]; done) | (rw [hall]; simp; done) | (rw [q5.1, ddL_keep (show k + j < l.length by omega) (.inr d5)]; rfl) | (rw [q5.1, ddL_keep (show k + j < l.length by omega) (.inr d5)]; done) | (show _ = (⟨_, _, _, _, _, List.map cL (ddL l ((k + j) + 1))⟩ : Blk); rw [ddL_skip (by rintro (q | q); omega; exact q d5)]; done) | (rw [dd_take (show l.length ≤ k + j by omega) hj, show k + j = l.length by omega]; done) | (rw [dd_take (show l.length ≤ k + j by omega) hj, show k + j = l.length by omega, hn]; done))), ?_, ?_, ?_⟩
    · omega
    · omega
    · omega
    · first | (show (ddK l ((k + j) + 1)).length < (k + j) + 1; rw [ddK_keep (.inr d5), List.length_append]; simp; omega) | (show (ddK l ((k + j) + 1)).length < (k + j) + 1; rw [ddK_skip (by rintro (q | q); omega; exact q d5)]; omega)
   refine W_seq_exit (p38 _ _ _ (x7 _ _ (.done (W_r (R_mv t0 (R_mv t5 (R_slice_ms_lo (n := ((ddK l (k + j)).length)) (@rfl V (V.ms 202 v2 0 (len))) (@rfl V (iV (((ddK l (k + j)).length : Nat) : Int))) h202 (okB_map (by first | omega | (simp only [List.length_take]; omega))) rfl (by first | omega | (simp only [List.length_take]; omega)) ?_)))))))
   refine R_clr (m := (((ddK l (k + j)).length))) (n := (len - ((ddK l (k + j)).length))) (f := cL) (l := (ddL l (k + j))) (Eq.trans (@rfl V (V.ms 202 v2 (0 + ((ddK l (k + j)).length)) (len - ((ddK l (k + j)).length)))) (congrArg (fun n => V.ms 202 v2 n (len - ((ddK l (k + j)).length))) (Nat.zero_add _))) h202 rfl (by decide) rfl (by first | omega | (simp only [List.length_take]; omega)) (by first | omega | (simp only [List.length_take]; omega)) (R_e (W_r (R_mv t0 (R_mv t5 (R_slice_ms_hi (n := ((ddK l (k + j)).length)) (@rfl V (V.ms 202 v2 0 (len))) (@rfl V (iV (((ddK l (k + j)).length : Nat) : Int))) (@rfl Blk (bz v2 25 1 (List.map cL (List.take (((ddK l (k + j)).length)) (ddL l (k + j))) ++ List.replicate (len - ((ddK l (k + j)).length)) [V.nilsl]))) (okB_zap (by first | omega | (simp only [List.length_take]; omega))) rfl (by first | omega | (simp only [List.length_take]; omega)) (R_mv (@rfl V (V.ms 202 v2 0 ((ddK l (k + j)).length))) (R_e ?_)))))))
   refine W_ret (y5 _ _ (p23 _ _ (y2 _ _ (fork_ (R := fun T H => T 4 = (V.ms 202 v2 0 ((ddK l (k + j)).length)) ∧ (∀ j, j ∉ [202] → H j = Hi j) ∧ H 3 = (bk v3 59 1 [[(V.fn 44 [] [])]]) ∧ H 202 = (bz v2 25 1 (List.map cL (List.take (((ddK l (k + j)).length)) (ddL l (k + j))) ++ List.replicate (len - ((ddK l (k + j)).length)) [V.nilsl])) ∧ True) ⟨(@rfl V (V.ms 202 v2 0 ((ddK l (k + j)).length))), (upd_out hF (by decide)), h3, rfl, trivial⟩ ?_))))
   intro T H ⟨t4, hF, h3, h202, _⟩
   skip
   have fh := FinX.fin (FinX.put (B := (bz v2 25 1 (List.map cL (ddK l l.length) ++ List.replicate (l.length - (ddK l l.length).length) [V.nilsl]))) (FinX.start hF) h202 (FinB.eq (by first | rfl | (rw [hd.2]; done) | (rw [hall]; simp; done) | (rw [q5.1, ddL_keep (show k + j < l.length by omega) (.inr d5)]; rfl) | (rw [q5.1, ddL_keep (show k + j < l.length by omega) (.inr d5)]; done) | (show _ = (⟨_, _, _, _, _, List.map cL (ddL l ((k + j) + 1))⟩ : Blk); rw [ddL_skip (by rintro (q | q); omega; exact q d5)]; done) | (rw [dd_take (show l.length ≤ k + j by omega) hj, show k + j = l.length by omega]; done) | (rw [dd_take (show l.length ≤ k + j by omega) hj, show k + j = l.length by omega, hn]; done))))
   exact RetF_1 t4 fh (FinV.trans_eq (FinV.same fh _) (by first | rfl | (rw [hd.1]; done) | (rw [hall, hn]; done) | (rw [hall]; done) | (show _ = iV (((ddK l ((k + j) + 1)).length : Nat) : Int); rw [ddK_keep (.inr d5), List.length_append]; rfl) | (show _ = iV (((ddK l ((k + j) + 1)).length : Nat) : Int); rw [ddK_skip (by rintro (q | q); omega; exact q d5)]; done) | (rw [show k + j = l.length by omega]; done)))
  have d1 : nth l k ≠ nth l (k - 1) := fun q => c6 (slx_zero.2 (by rw [show (((k : Nat) : Int) - (1 : Int)).toNat = k - 1 by omega]; exact q))
  refine W_skip (n5 _ _ (.done (W_t (R_mv t5 (R_addN rfl (@rfl V (iV ((1 : Nat) : Int))) (by first | omega | (simp only [List.length_take]; omega)) (R_mv (@rfl V (iV ((k + 1 : Nat) : Int))) (R_e ?_)))))))
  refine p13 _ _ _ ?_ ⟨(k + 1), rfl, t0, t1, (Eq.trans (@rfl V (iV ((k + 1 : Nat) : Int))) (by first | rfl | (rw [hd.1]; done) | (rw [hall, hn]; done) | (rw [hall]; done) | (show _ = iV (((ddK l ((k + j) + 1)).length : Nat) : Int); rw [ddK_keep (.inr d5), List.length_append]; rfl) | (show _ = iV (((ddK l ((k + j) + 1)).length : Nat) : Int); rw [ddK_skip (by rintro (q | q); omega; exact q d5)]; done) | (rw [show k + j = l.length by omega]; done))), hF, h3, h202, ?_, ?_, ?_⟩
  · omega
  · omega
  · omega
  · intro i i1 i2
    by_cases e : i = k
    · subst e; exact d1
    · exact hc i i1 (by omega)
 refine W_seq_exit (p33 _ _ _ (x2 _ _ (.done (W_r (R_mv t0 (R_mv (@rfl V (V.ms 202 v2 0 (len))) (R_e ?_)))))))
 refine W_ret (fork_ (R := fun T H => T 4 = (V.ms 202 v2 0 (len)) ∧ (∀ j, j ∉ [202] → H j = Hi j) ∧ H 3 = (bk v3 59 1 [[(V.fn 44 [] [])]]) ∧ H 202 = (bz v2 25 1 (List.map cL (l))) ∧ True) ⟨(@rfl V (V.ms 202 v2 0 (len))), hF, h3, h202, trivial⟩ ?_)
 intro T H ⟨t4, hF, h3, h202, _⟩
 have hall := dd_all (l := l) (fun i i1 i2 => hc i i1 (by omega))
 have fh := FinX.fin (FinX.put (B := (bz v2 25 1 (List.map cL (ddK l l.length) ++ List.replicate (l.length - (ddK l l.length).length) [V.nilsl]))) (FinX.start hF) h202 (FinB.eq (by first | rfl | (rw [hd.2]; done) | (rw [hall]; simp; done) | (rw [q5.1, ddL_keep (show k + j < l.length by omega) (.inr d5)]; rfl) | (rw [q5.1, ddL_keep (show k + j < l.length by omega) (.inr d5)]; done) | (show _ = (⟨_, _, _, _, _, List.map cL (ddL l ((k + j) + 1))⟩ : Blk); rw [ddL_skip (by rintro (q | q); omega; exact q d5)]; done) | (rw [dd_take (show l.length ≤ k + j by omega) hj, show k + j = l.length by omega]; done) | (rw [dd_take (show l.length ≤ k + j by omega) hj, show k + j = l.length by omega, hn]; done))))
 exact RetF_1 t4 fh (FinV.trans_eq (FinV.same fh _) (by first | rfl | (rw [hd.1]; done) | (rw [hall, hn]; done) | (rw [hall]; done) | (show _ = iV (((ddK l ((k + j) + 1)).length : Nat) : Int); rw [ddK_keep (.inr d5), List.length_append]; rfl) | (show _ = iV (((ddK l ((k + j) + 1)).length : Nat) : Int); rw [ddK_skip (by rintro (q | q); omega; exact q d5)]; done) | (rw [show k + j = l.length by omega]; done)))
end Go.Proofs.Ytmnjchcoigbngaa
namespace Go.Proofs.Ytmnjchcoigbngaa
open Go Go.Sort Go.Proofs Go.Shelf
theorem R.pure_same {x y : Cx} {v : V} {c : Value} (h : R x v c) (hp : v.pure = true) (hw : ∀ b, x.Z b → y.w.heap[b]? = x.w.heap[b]?) (hz : ∀ b, x.Z b → y.Z b) : R y v c := by
  have keep : ∀ a : Addr, x.Z a.block → ∀ n, y.w.cell? (a.add n) = x.w.cell? (a.add n) := fun a ha n => by
    refine cell_of_heap ?_
    rw [addr_add_block]; exact hw _ ha
  induction h with
  | int k n => exact .int k n
  | bool b => exact .bool b
  | str s => exact .str s
  | nilsl => exact .nilsl
  | slnil => exact .slnil
  | sl rows a cap sz cs hc hm hzz hsz hcell _ ih =>
    simp only [V.pure] at hp
    refine .sl rows a cap sz cs hc hm (fun hne => hz _ (hzz hne)) hsz (fun r row j v hr hj => by rw [keep a (hzz (by intro e; subst e; simp at hr))]; exact hcell r row j v hr hj) fun r row j v hr hj => ih r row j v hr hj ?_
    exact pureL_iff.1 (pureLL_iff.1 hp row (List.mem_of_getElem? hr)) v (List.mem_of_getElem? hj)
  | ms => simp [V.pure] at hp
  | pp cells a cs hzz hcell _ ih =>
    simp only [V.pure] at hp
    exact .pp cells a cs (fun hne => hz _ (hzz hne)) (fun j v hj => by rw [keep a (hzz (by intro e; subst e; simp at hj))]; exact hcell j v hj) fun j v hj => ih j v hj (pureL_iff.1 hp v (List.mem_of_getElem? hj))
  | nilp => exact .nilp
  | mp => simp [V.pure] at hp
  | agg cells cs hs _ ih =>
    simp only [V.pure] at hp
    exact .agg cells cs hs fun j v hj => ih j v hj (pureL_iff.1 hp v (List.mem_of_getElem? hj))
  | tup vs cs hs _ ih =>
    simp only [V.pure] at hp
    exact .tup vs cs hs fun j v hj => ih j v hj (pureL_iff.1 hp v (List.mem_of_getElem? hj))
  | fn f first caps fs cs hfs hcs _ _ ih1 ih2 =>
    simp only [V.pure, Bool.and_eq_true] at hp
    exact .fn f first caps fs cs hfs hcs (fun j v hj => ih1 j v hj (pureL_iff.1 hp.1 v (List.mem_of_getElem? hj))) fun j v hj => ih2 j v hj (pureL_iff.1 hp.2 v (List.mem_of_getElem? hj))
  | raw c hh => exact .raw c hh
theorem step_grow {x : Cx} (hx : Inv x) (os : Array Obj) : let y : Cx := { x with w := Go.Sort.grow x.w os }; Inv y ∧ Frame x y := by
  intro y
  have hp : ∀ b, b < x.w.heap.size → y.w.heap[b]? = x.w.heap[b]? := fun b hb => by
    show (x.w.heap ++ os)[b]? = _
    rw [Array.getElem?_append, if_pos hb]
  have hs : x.w.heap.size ≤ y.w.heap.size := by show _ ≤ (x.w.heap ++ os).size; simp
  have hf : Frame x y := by
    refine ⟨rfl, rfl, rfl, hs, fun b hb _ => hp b hb, fun _ h => h, fun b h => .inl h, fun id => ⟨Nat.le_refl _, fun h _ => ⟨h, rfl, rfl, rfl, fun h => ⟨rfl, ?_⟩⟩⟩, fun _ h => .inl ⟨h, rfl⟩, Nat.le_refl _⟩
    unfold rowSize; rw [hp _ (hx.lt h)]
  refine ⟨⟨fun b h => Nat.lt_of_lt_of_le (hx.zlt b h) hs, hx.zown, fun id hl => ?_, hx.inj⟩, hf⟩
  obtain ⟨cc, h1, h2, h3, h4⟩ := hx.blk id hl
  exact ⟨cc, by rw [hp _ (hx.lt hl)]; exact h1, h2, h3, fun r row j v hr hj => (h4 r row j v hr hj).frame hx hf⟩
def SortNone (P : Program) (f : Nat) : Prop := ∀ (p : Option Addr) (cap : Nat) (fv : Value) (w : World), Calls P f #[.slice p 0 cap, fv] w fun e w' => e = .returned (.tuple #[]) ∧ w' = w
theorem enters_callable {P : Program} {g : Nat} (h : callable P g) : ∀ args w, (callFunc g args).run P w = .ok (.enter g args) w := by
  obtain ⟨fn, h1, h2, h3⟩ := h
  obtain ⟨c, hc⟩ := Option.isSome_iff_exists.1 h2
  exact enters_of h1 h3 hc
theorem grown_of_frame {z y : Cx} (hf : Frame z y) (hno : ∀ id, (z.H id).own = false) : ∃ q os, y.w = grow (z.w.drewN q) os := by
  refine ⟨y.w.drawn - z.w.drawn, y.w.heap.extract z.w.heap.size y.w.heap.size, ?_⟩
  have e1 := hf.os; have e2 := hf.tape; have e3 := hf.output; have e4 := hf.drawn; have e5 := hf.size
  have e6 : y.w.heap = z.w.heap ++ y.w.heap.extract z.w.heap.size y.w.heap.size := by
    refine Array.ext_getElem? fun b => ?_
    rw [Array.getElem?_append]
    split
    · rename_i hb
      exact hf.keep b hb fun id h => by rw [hno id] at h; cases h
    · rename_i hb
      rw [Array.getElem?_extract]
      by_cases h : b < y.w.heap.size
      · rw [if_pos (by omega)]; congr 1; omega
      · rw [if_neg (by omega), Array.getElem?_eq_none (by omega)]
  have e7 : y.w.drawn = z.w.drawn + (y.w.drawn - z.w.drawn) := by omega
  unfold grow World.drewN
  cases hy : y.w with
  | mk heap tape drawn os output =>
    rw [hy] at e1 e2 e3 e6 e7
    simp only at e1 e2 e3 e6 e7 ⊢
    rw [← e6, ← e7, e1, e2, e3]
section
variable {P : Program} {α : Type} [Inhabited α] {enc : α → List Value} {k : Nat} {w : World} {blk off m : Nat} {dk : Array α} {os : Array Obj}
end
theorem nth_set_eq {α : Type} [Inhabited α] (d : Array α) (i : Nat) (h : i < d.size) : d[i]! = nth d.toList i := by
  rw [getElem!_pos d i h, ← nth_getElem (by simpa using h)]; rfl
section
variable {P : Program}
end
end Go.Proofs.Ytmnjchcoigbngaa
namespace Go.Proofs.Ytmnjchcoigbngaa
open Go Go.Proofs Go.Shelf Go.Sort Go.Lib
def SortSpec1 (P : Program) (f : Nat) : Prop := ∀ {α : Type} [Inhabited α] (enc : α → Value) (_ : OneCell enc) (cf : α → α → Int) (_ : SWO (ltOf cf)) (g : Nat) (cb : Array Value) (blk off cap : Nat) (d : Array α) (w : World)
    (_ : ∀ args w, (callFunc g args).run P w = .ok (.enter g args) w) (_ : CmpLays1 P g cb enc cf blk off d.size w) (_ : Holds enc w blk off d) (_ : blk < w.heap.size) (_ : d.size < 4611686018427387904),
    Calls P f #[.slice (some ⟨blk, off, none⟩) d.size cap, .func (.func g) #[] cb] w fun e w' =>
      e = .returned (.tuple #[]) ∧ ∃ d' n os, PermIn 0 d.size d d' ∧ SortedIn (ltOf cf) 0 d.size d' ∧ w' = sortWorld enc w blk off n d' os
section
variable {P : Program} {α : Type} [Inhabited α] {enc : α → Value} {w : World} {blk off m : Nat} {dk : Array α} {os : Array Obj}
theorem sortWorld1_other {b : Nat} (hb : b < w.heap.size) (hne : b ≠ blk) : (sortWorld enc w blk off m dk os).heap[b]? = w.heap[b]? := by
  unfold sortWorld grow putRow mapBlock Sort.ahead
  simp only
  rw [Array.getElem?_append, if_pos (by simpa using hb), Array.getElem?_modify, if_neg (Ne.symm hne)]
theorem sortWorld1_size : w.heap.size ≤ (sortWorld enc w blk off m dk os).heap.size := by
  unfold sortWorld grow putRow mapBlock Sort.ahead
  simp
theorem sortWorld1_eq {cc : Array Value} {ty : TypeId} (h : w.heap[blk]? = some (.cells cc ty (0, 0))) :
    sortWorld enc w blk off m dk os = grow { w.setRow blk (putCells enc off dk cc) with drawn := w.drawn + m } os := by
  unfold sortWorld putRow mapBlock Sort.ahead World.setRow
  congr 2
  refine Array.ext_getElem? fun b => ?_
  simp only [Array.getElem?_modify]
  by_cases e : blk = b
  · subst e
    simp only [if_true, h, Option.map_some, onCells]
  · simp only [if_neg e]
end
theorem CallOK_sort1 {P : Program} {f g : Nat} (hS : SortSpec1 P f) (hN : SortNone P f) (hcf : callable P f) (hcg : callable P g) {T : Type} [Inhabited T] {f0 : T → V} {l : List T} {cmp : T → T → Int}
    (hO : SWO fun a b => decide (cmp a b < 0)) (hT : ∀ a ∈ l, ∀ b ∈ l, ¬cmp a b < 0 → ¬cmp b a < 0 → a = b)
    (hc : ∀ a ∈ l, ∀ b ∈ l, PureC P g [f0 a, f0 b] (iV (cmp a b))) (hp : ∀ a ∈ l, (f0 a).pure = true) (h1 : ∀ a ∈ l, (f0 a).one = true)
    (hl : l.length < 4611686018427387904) {id ver ty : Nat} {lz : Bool} {H : Heap} (hH : H id = ⟨ver, true, lz, ty, 1, l.map fun a => [f0 a]⟩) :
    CallOK P f [.ms id ver 0 l.length, .fn g [] []] H (.tup []) (upd H id ⟨ver, true, lz, ty, 1, (srt cmp l).map fun a => [f0 a]⟩) := by
  refine ⟨hcf, fun x cs hxH hx hr => ?_⟩
  subst hxH
  obtain ⟨c0, c1, rfl⟩ : ∃ c0 c1, cs = [c0, c1] := by
    have := hr.1
    match cs with
    | [a, b] => exact ⟨a, b, rfl⟩
    | [] => simp at this
    | [_] => simp at this
    | _ :: _ :: _ :: _ => simp at this
  have r0 : R x (.ms id ver 0 l.length) c0 := hr.2 0 _ rfl
  have r1 : R x (.fn g [] []) c1 := hr.2 1 _ rfl
  cases r1 with
  | fn _ _ _ fs cb hfs hcs _ _ =>
  have hfs' : fs = #[] := Array.eq_empty_of_size_eq_zero (by simpa using hfs)
  have hcs' : cb = #[] := Array.eq_empty_of_size_eq_zero (by simpa using hcs)
  subst hfs'; subst hcs'
  cases r0 with
  | ms _ _ _ _ b n cap hv hh =>
  obtain ⟨e1, e2, e3, e4, e5, e6⟩ := hh (by rw [hH]) (by rw [hH])
  subst e1
  by_cases hne : l = []
  · subst hne
    refine (hN b cap (.func (.func g) #[] #[]) x.w).mono fun e w' h => ?_
    obtain ⟨rfl, rfl⟩ := h
    refine ⟨_, x, rfl, rfl, ?_, hx, .tup [] #[] rfl (fun j v hj => by simp at hj), Frame.refl x⟩
    funext j
    by_cases e : j = id
    · subst e; rw [upd_same, hH]; simp [srt]
    · rw [upd_ne _ _ e]
  have hpos : 0 < l.length := List.length_pos_iff.2 hne
  have ho : (x.H id).own = true := by
    rw [hH]
    cases l with
    | nil => exact (hne rfl).elim
    | cons a l => simp [Blk.own]
  obtain ⟨e7, _⟩ := e5 ho
  rw [hH] at e7
  simp only [Nat.zero_mul] at e7
  subst e7
  obtain ⟨cc, b1, b2, b3, b4⟩ := hx.blk id ho
  simp only [hH] at b1 b2 b3 b4
  rw [List.length_map, Nat.mul_one] at b3
  let A : Type := { i : Nat // i < l.length }
  haveI : Inhabited A := ⟨⟨0, hpos⟩⟩
  let enc : A → Value := fun i => cc.getD i.1 undef
  let cf : A → A → Int := fun a b => cmp (nth l a.1) (nth l b.1)
  let d : Array A := Array.ofFn fun i : Fin l.length => (⟨i.1, i.2⟩ : A)
  have hdn : d.size = l.length := by simp [d]
  have hdi : ∀ i (h : i < l.length), d[i]! = ⟨i, h⟩ := fun i h => by
    rw [getElem!_pos d i (by rw [hdn]; exact h)]; simp [d]
  have hrow : ∀ i, i < l.length → (l.map fun a => [f0 a])[i]? = some [f0 (nth l i)] := fun i hi => by rw [List.getElem?_map, nth_eq hi]; rfl
  have hRx : ∀ a : A, R x (f0 (nth l a.1)) (cc.getD a.1 undef) := fun a => by
    have := b4 a.1 _ 0 _ (hrow a.1 a.2) rfl
    rwa [Nat.mul_one, Nat.add_zero] at this
  have hO' : SWO (ltOf cf) := ⟨fun a => hO.irrefl _, fun a b c => hO.trans _ _ _, fun a b c => hO.ntrans _ _ _⟩
  have hcmp : CmpLays1 P g #[] enc cf (x.σ id) 0 d.size x.w := by
    intro m os dk hdk a b
    let W := sortWorld enc x.w (x.σ id) 0 m dk os
    let z : Cx := start { x with w := W } x.Z
    have hz : Inv z := start_ok fun b hb => Nat.lt_of_lt_of_le (hx.zlt b hb) sortWorld1_size
    have hag : ∀ a : A, R z (f0 (nth l a.1)) (enc a) := fun a => by
      refine (hRx a).pure_same (y := z) (hp _ (nth_mem a.2)) (fun b hb => ?_) fun _ h => h
      exact sortWorld1_other (hx.zlt b hb) fun e => hx.zown b id hb ho e.symm
    have hrl : RL z [f0 (nth l a.1), f0 (nth l b.1)] [enc a, enc b] := by
      refine ⟨rfl, fun j v hj => ?_⟩
      match j, hj with
      | 0, hj => simp at hj; subst hj; exact hag a
      | 1, hj => simp at hj; subst hj; exact hag b
    refine ((hc _ (nth_mem a.2) _ (nth_mem b.2) H0).2 z _ rfl hz hrl).mono fun e w' h => ?_
    obtain ⟨c, y, rfl, rfl, _, _, h5, h6⟩ := h
    cases h5
    obtain ⟨q, os', hq⟩ := grown_of_frame h6 fun id => rfl
    exact ⟨rfl, q, os', hq⟩
  have hsz : d.size < 4611686018427387904 := by rw [hdn]; exact hl
  have hH' : Holds enc x.w (x.σ id) 0 d := by
    intro j hj
    rw [hdn] at hj
    have e : enc d[j]! = cc.getD j undef := by rw [hdi _ hj]
    have hjc : j < cc.size := by omega
    refine ⟨?_, ?_⟩
    · rw [e, Nat.zero_add]; exact own_cell b1 hjc
    · simp [World.frozen?, b1]
  have hcall := hS enc (fun a => (hRx a).one (h1 _ (nth_mem a.2))) cf hO' g #[] (x.σ id) 0 cap d x.w (enters_callable hcg) hcmp hH' (hx.lt ho) hsz
  rw [hdn] at hcall
  refine hcall.mono fun e w' h => ?_
  obtain ⟨rfl, d', n', os', hP, hSo, rfl⟩ := h
  obtain ⟨p1, _, p3⟩ := hP
  rw [hdn] at p1
  have x1 : d'.extract 0 l.length = d' := by rw [← p1]; simp
  have x2 : d.extract 0 l.length = d := by rw [← hdn]; simp
  rw [x1, x2] at p3
  have hmap : d.toList.map (fun a : A => nth l a.1) = l := by
    refine nth_ext (by simp [hdn]) fun j hj => ?_
    have hj' : j < l.length := by simpa [hdn] using hj
    rw [nth_map (by simpa using hj), ← nth_set_eq d j (by rw [hdn]; exact hj'), hdi j hj']
  have hl' : d'.toList.map (fun a : A => nth l a.1) = srt cmp l := by
    have hperm : (d'.toList.map (fun a : A => nth l a.1)).Perm l := by
      have := p3.map (fun a : A => nth l a.1)
      rwa [hmap] at this
    refine sorted_uniq (le := fun a b => ¬cmp b a < 0) (fun a ha b hb h1 h2 => hT a (hperm.mem_iff.1 ha) b (hperm.mem_iff.1 hb) h2 h1) (hperm.trans (srt_perm cmp l).symm) ?_ (srt_sorted hO l)
    rw [List.pairwise_map, List.pairwise_iff_getElem]
    intro i j hi hj hij
    have h := hSo i j (Nat.zero_le _) hij (by rw [← p1]; simpa using hj)
    rw [nth_set_eq d' i (by simpa using hi), nth_set_eq d' j (by simpa using hj), ← nth_getElem hi, ← nth_getElem hj] at h
    simpa [ltOf, cf] using h
  let cc' := putCells enc 0 d' cc
  have hcs : cc'.size = cc.size := by simp [cc', putCells]
  have hg : ∀ r, r < l.length → ∀ (hr : r < d'.size), cc'.getD r undef = cc.getD (d'[r]'hr).1 undef := by
    intro r hr hr'
    have e : cc'[r]? = some (enc d'[r]!) := by
      simp only [cc', putCells, Array.getElem?_mapIdx]
      rw [Array.getElem?_eq_getElem (by omega)]
      simp [hr']
    rw [Array.getD_eq_getD_getElem?, e, getElem!_pos d' r hr']
    rfl
  have hrows : ∀ (r : Nat) (row : List V) (j : Nat) (v : V), ((srt cmp l).map fun a => [f0 a])[r]? = some row → row[j]? = some v → R x v (cc'.getD (r * 1 + j) undef) := by
    intro r row j v hr hj
    rw [← hl', List.map_map, List.getElem?_map] at hr
    obtain ⟨a, ha, rfl⟩ := map_some hr
    have har := List.getElem?_eq_some_iff.1 ha
    obtain ⟨hlt, hae⟩ := har
    have hlt' : r < d'.size := by simpa using hlt
    have hj0 : j = 0 := by
      have := (List.getElem?_eq_some_iff.1 hj).1
      simp at this; exact this
    subst hj0
    simp only [Function.comp_apply, List.getElem?_cons_zero, Option.some.injEq] at hj
    subst hj
    rw [Nat.mul_one, Nat.add_zero, hg r (by omega) hlt']
    have hae' : d'[r]'hlt' = a := by simpa using hae
    rw [hae']
    exact hRx a
  have st := step_set hx id ho cc cc' (by rw [hH]; exact b1) hcs (x.H id).ver ((srt cmp l).map fun a => [f0 a]) (Nat.le_refl _) (fun _ => by rw [hH]; simp [srt]) (by
      rw [hH]
      have : (srt cmp l).length = l.length := by simp [srt]
      cases hq : srt cmp l with
      | nil => rw [hq] at this; simp at this; omega
      | cons a q => simp) (fun r hr => by
      rw [hH]
      obtain ⟨a, _, rfl⟩ := List.mem_map.1 hr
      rfl) (by rw [hH]; simpa [srt] using b3) (by simp only [hH]; exact hrows)
  simp only [hH] at st
  obtain ⟨i1, f1⟩ := st
  obtain ⟨i2, f2⟩ := step_draw i1 (x.w.drawn + n') (Nat.le_add_right _ _)
  obtain ⟨i3, f3⟩ := step_grow i2 os'
  refine ⟨.tuple #[], _, rfl, ?_, ?_, i3, .tup [] #[] rfl (fun j v hj => by simp at hj), (f1.trans f2).trans f3⟩
  · rw [sortWorld1_eq b1]
  · rfl
end Go.Proofs.Ytmnjchcoigbngaa
namespace Go.Proofs.Ytmnjchcoigbngaa
open Go Go.Proofs Go.Shelf Go.Sort
def sortRen68 : Go.Shelf.Ren := ⟨fun | 6 => 68 | 15 => 82 | 14 => 81 | 28 => 94 | 29 => 95 | 20 => 86 | 21 => 87 | 22 => 88 | 23 => 89 | 24 => 90 | 25 => 91 | 26 => 92 | 27 => 93 | 46 => 97 | 47 => 98 | 48 => 99 | 49 => 100 | 50 => 101 | 57 => 103 | n => n, fun | 22 => 31 | 24 => 25 | 25 => 59 | 3 => 3 | 39 => 99 | 0 => 0 | 53 => 116 | 55 => 118 | 4 => 4 | 46 => 110 | 45 => 109 | 50 => 64 | 5 => 5 | 9 => 9 | 66 => 119 | 70 => 123 | 76 => 125 | 77 => 126 | n => n, fun n => n⟩
theorem sortLay68 : SlLaysF.n6 Try.prog sortRen68 := {
  mixed := (by kernel_rfl),
  f6 := ⟨Try.f68.name, by decide, Try.func68.trans (congrArg some (by kernel_rfl))⟩,
  f14 := ⟨Try.f81.name, by decide, Try.func81.trans (congrArg some (by kernel_rfl))⟩,
  f15 := Try.func82.trans (congrArg some (by kernel_rfl)),
  f20 := ⟨Try.f86.name, by decide, Try.func86.trans (congrArg some (by kernel_rfl))⟩,
  f21 := ⟨Try.f87.name, by decide, Try.func87.trans (congrArg some (by kernel_rfl))⟩,
  f22 := ⟨Try.f88.name, by decide, Try.func88.trans (congrArg some (by kernel_rfl))⟩,
  f23 := ⟨Try.f89.name, by decide, Try.func89.trans (congrArg some (by kernel_rfl))⟩,
  f24 := ⟨Try.f90.name, by decide, Try.func90.trans (congrArg some (by kernel_rfl))⟩,
  f25 := ⟨Try.f91.name, by decide, Try.func91.trans (congrArg some (by kernel_rfl))⟩,
  f26 := ⟨Try.f92.name, by decide, Try.func92.trans (congrArg some (by kernel_rfl))⟩,
  f27 := ⟨Try.f93.name, by decide, Try.func93.trans (congrArg some (by kernel_rfl))⟩,
  f28 := Try.func94.trans (congrArg some (by kernel_rfl)),
  f29 := Try.func95.trans (congrArg some (by kernel_rfl)),
  f46 := ⟨Try.f97.name, by decide, Try.func97.trans (congrArg some (by kernel_rfl))⟩,
  f47 := Try.func98.trans (congrArg some (by kernel_rfl)),
  f48 := Try.func99.trans (congrArg some (by kernel_rfl)),
  f49 := ⟨Try.f100.name, by decide, Try.func100.trans (congrArg some (by kernel_rfl))⟩,
  f50 := ⟨Try.f101.name, by decide, Try.func101.trans (congrArg some (by kernel_rfl))⟩,
  f57 := ⟨Try.f103.name, by decide, Try.func103.trans (congrArg some (by kernel_rfl))⟩,
  t0 := Try.underlying0,
  a0 := Try.isAgg0,
  z0 := Try.sizeOf0,
  v0 := Try.zeroValue0,
  t3 := Try.underlying3,
  a3 := Try.isAgg3,
  z3 := Try.sizeOf3,
  v3 := Try.zeroValue3,
  t4 := Try.underlying4,
  a4 := Try.isAgg4,
  z4 := Try.sizeOf4,
  v4 := Try.zeroValue4,
  t5 := Try.underlying5,
  a5 := Try.isAgg5,
  z5 := Try.sizeOf5,
  v5 := Try.zeroValue5,
  t9 := Try.underlying9,
  a9 := Try.isAgg9,
  z9 := Try.sizeOf9,
  v9 := Try.zeroValue9,
  t22 := Try.underlying31,
  a22 := Try.isAgg31,
  z22 := Try.sizeOf31,
  v22 := Try.zeroValue31,
  a24 := Try.isAgg25,
  z24 := Try.sizeOf25,
  t25 := Try.underlying59,
  a25 := Try.isAgg59,
  z25 := Try.sizeOf59,
  v25 := Try.zeroValue59,
  t39 := Try.underlying99,
  a39 := Try.isAgg99,
  z39 := Try.sizeOf99,
  v39 := Try.zeroValue99,
  t45 := Try.underlying109,
  a45 := Try.isAgg109,
  z45 := Try.sizeOf109,
  v45 := Try.zeroValue109,
  t46 := Try.underlying110,
  a46 := Try.isAgg110,
  z46 := Try.sizeOf110,
  v46 := Try.zeroValue110,
  t50 := Try.underlying64,
  a50 := Try.isAgg64,
  z50 := Try.sizeOf64,
  v50 := Try.zeroValue64,
  t53 := Try.underlying116,
  a53 := Try.isAgg116,
  z53 := Try.sizeOf116,
  v53 := Try.zeroValue116,
  t55 := Try.underlying118,
  a55 := Try.isAgg118,
  z55 := Try.sizeOf118,
  v55 := Try.zeroValue118,
  t66 := Try.underlying119,
  a66 := Try.isAgg119,
  z66 := Try.sizeOf119,
  v66 := Try.zeroValue119,
  t70 := Try.underlying123,
  a70 := Try.isAgg123,
  z70 := Try.sizeOf123,
  v70 := Try.zeroValue123,
  t76 := Try.underlying125,
  a76 := Try.isAgg125,
  z76 := Try.sizeOf125,
  v76 := Try.zeroValue125,
  t77 := Try.underlying126,
  a77 := Try.isAgg126,
  z77 := Try.sizeOf126,
  v77 := Try.zeroValue126 }
theorem sortSpec68 : SortSpec1 Try.prog 68 := fun enc h1 cf hO g cb blk off cap d w eg hcmp hH hblk hsz =>
  Any.slices_SortFunc sortLay68 enc h1 cf hO g cb blk off cap d w eg hcmp hH hblk hsz
theorem sortCall68 : callable Try.prog 68 := ⟨_, Try.func68, by kernel_rfl, by kernel_rfl⟩
theorem sortNone68 : SortNone Try.prog 68 := fun p cap fv w => AnyF.slices_SortFunc_none { sortLay68 with } p cap fv w
end Go.Proofs.Ytmnjchcoigbngaa
namespace Go.Proofs.Ytmnjchcoigbngaa
open Go Go.Proofs
theorem ordered_pure (l : List (List Int)) (hl : l.length ≤ 1073741824) (hw : ∀ w ∈ l, w.length ≤ 1048576) : PureC Try.prog 43 [(intss l), (V.fn 44 [] [])] (intss (sdP l)) := by
 refine pW Try.func43 s43_ok fun hB => ?_
 unfold s43
 dsimp only
 have q9 : (ddK (srt slx l) (srt slx l).length).length ≤ l.length := sdP_len l
 refine W_r (R_box (i := 3) (n := 0) (m := 1) (cs := [(V.fn 44 [] [])]) rfl (congrArg Blk.ver rfl) rfl rfl rfl (R_mv (@rfl V V.nilsl) (R_e (W_r (R_mv (@rfl V (intss l)) (R_callE (evcons rfl evnil) (clonew_E l 0 _ (congrArg Blk.ver rfl) (by omega)) (R_mv (@rfl V (V.ms 202 3 0 (l.length))) ?_)))))))
 refine R_e (W_r (R_mv (@rfl V (V.ms 202 3 0 (l.length))) (R_load_mp (v := (V.fn 44 [] [])) rfl rfl (lB oB rfl rfl) (R_callE (evcons rfl (evcons rfl evnil)) (CallOK_sort1 (f0 := ints) (l := l) (cmp := slx) sortSpec68 sortNone68 sortCall68 ⟨_, Try.func44, by kernel_rfl, by kernel_rfl⟩ slx_swo (fun a _ b _ h1 h2 => slx_same h1 h2) (fun a _ b _ => compare_pure a b) (fun a _ => by simp) (fun a _ => rfl) (by omega) rfl) (R_e (W_r (R_mv (@rfl V (V.ms 202 3 0 (l.length))) ?_)))))))
 refine R_mkf (evcons rfl evnil) (R_callE (evcons rfl (evcons rfl evnil)) (compw_E (srt slx l) 3 1 l.length _ (@rfl Blk (bz 3 25 1 (List.map cL (srt slx l)))) (@rfl Blk (bk 1 59 1 [[(V.fn 44 [] [])]])) (by simp [srt_len]) (by simp only [srt_len]; omega)) (R_mv (@rfl V (V.ms 202 3 0 ((ddK (srt slx l) (srt slx l).length).length))) (R_e (W_seq_seq (W_r (R_mv (@rfl V (V.ms 202 3 0 ((ddK (srt slx l) (srt slx l).length).length))) (R_len_ms rfl (@rfl Blk (bz 3 25 1 (List.map cL (ddK (srt slx l) (srt slx l).length) ++ List.replicate ((srt slx l).length - (ddK (srt slx l) (srt slx l).length).length) [V.nilsl]))) (by first | rfl | simp) ?_)))))))
 refine R_mv (@rfl V (iV (0 : Int))) (R_e (W_seq_blockg fun Q1 n1 x1 y1 z1 => ?_))
 refine W_loop (fun mm T H => ∃ (k : Nat), mm = ((ddK (srt slx l) (srt slx l).length).length) - k ∧ T 5 = (V.ms 202 3 0 ((ddK (srt slx l) (srt slx l).length).length)) ∧ T 16 = (V.ms 202 3 0 ((ddK (srt slx l) (srt slx l).length).length)) ∧ T 17 = (iV (((ddK (srt slx l) (srt slx l).length).length : Nat) : Int)) ∧ T 18 = (iV ((k : Nat) : Int)) ∧ H 3 = (bk 1 59 1 [[(V.fn 44 [] [])]]) ∧ H 202 = (bz 3 25 1 (List.map cL (ddK (srt slx l) (srt slx l).length) ++ List.replicate ((srt slx l).length - (ddK (srt slx l) (srt slx l).length).length) [V.nilsl])) ∧ (k ≤ (ddK (srt slx l) (srt slx l).length).length)) ?_ ?_
 ·
  refine ⟨_, 0, rfl, rfl, rfl, rfl, (Eq.trans (@rfl V (iV (0 : Int))) rfl), rfl, rfl, ?_⟩
  · omega
 intro mm T H ⟨k, hmm, t5, t16, t17, t18, h3, h202, hk⟩ Q2 p12 p22 p32
 unfold b43_0
 refine W_r (R_lss t18 t17 (R_e ?_))
 refine W_seq_if rfl (fun c3 => ?_) fun c3 => ?_
 ·
  refine W_seq_skip (W_seq_blockg fun Q4 n4 x4 y4 z4 => (W_r (R_mv t18 (R_idx_ms0 (i := k) t16 t18 h202 (okB_zap (by omega)) rfl (by omega) (R_load_mp (v := (ints ((nth (ddK (srt slx l) (srt slx l).length) (k))))) rfl h202 (ldB_zap (by omega) (by first | rfl | simp [ldV, V.one])) (R_mv (@rfl V (iV ((k : Nat) : Int))) (R_mv (@rfl V (ints ((nth (ddK (srt slx l) (srt slx l).length) (k))))) ?_)))))))
  refine R_e (W_t (R_mv t5 (R_mv (@rfl V (iV ((k : Nat) : Int))) (R_mv (@rfl V (ints ((nth (ddK (srt slx l) (srt slx l).length) (k))))) (R_callc (evcons rfl evnil) (clone_pure ((nth (ddK (srt slx l) (srt slx l).length) (k))) (by have q := hw (nth (ddK (srt slx l) (srt slx l).length) k) (mem_sdP.1 (show nth (ddK (srt slx l) (srt slx l).length) k ∈ sdP l from nth_mem (show k < (ddK (srt slx l) (srt slx l).length).length by omega))); omega)) (R_idx_ms0 (i := k) (@rfl V (V.ms 202 3 0 ((ddK (srt slx l) (srt slx l).length).length))) (@rfl V (iV ((k : Nat) : Int))) h202 (okB_zap (by omega)) rfl (by omega) (R_store (vs := [(ints (((nth (ddK (srt slx l) (srt slx l).length) (k)))))]) (B' := (bz 3 25 1 (List.map cL ((ddK (srt slx l) (srt slx l).length).set k (((nth (ddK (srt slx l) (srt slx l).length) (k))))) ++ List.replicate ((srt slx l).length - (ddK (srt slx l) (srt slx l).length).length) [V.nilsl]))) rfl rfl rfl h202 (stB_zap (x := (((nth (ddK (srt slx l) (srt slx l).length) (k))))) (i := k) (by omega) rfl rfl rfl rfl) ?_)))))))
  refine R_e (n4 _ _ (.done (W_t (R_addN t18 (@rfl V (iV ((1 : Nat) : Int))) (by omega) (R_mv (@rfl V (iV ((k + 1 : Nat) : Int))) (R_e ?_))))))
  refine p12 _ _ _ ?_ ⟨(k + 1), rfl, t5, t16, t17, (Eq.trans (@rfl V (iV ((k + 1 : Nat) : Int))) (by first | rfl | simp)), h3, (Eq.trans (@rfl Blk (bz 3 25 1 (List.map cL ((ddK (srt slx l) (srt slx l).length).set k (((nth (ddK (srt slx l) (srt slx l).length) (k))))) ++ List.replicate ((srt slx l).length - (ddK (srt slx l) (srt slx l).length).length) [V.nilsl]))) (by first | rfl | (rw [set_nth (by omega)]; done))), ?_⟩
  · omega
  · omega
 refine W_seq_exit (p32 _ _ _ (x1 _ _ (.done (W_r (R_mv t5 (R_mv (@rfl V (V.ms 202 3 0 ((ddK (srt slx l) (srt slx l).length).length))) (R_e ?_)))))))
 refine W_ret ?_
 refine Ret_1 (@rfl V (V.ms 202 3 0 ((ddK (srt slx l) (srt slx l).length).length))) (fz_mstR h202 (by first | rfl | simp) (take_zap (l := (ddK (srt slx l) (srt slx l).length)) (by first | rfl | simp | omega)) (fun _ => by simp) ?_)
 · rfl
theorem sorted_pure (l : List (List Int)) (hl : l.length ≤ 1073741824) (hw : ∀ w ∈ l, w.length ≤ 1048576) : PureC Try.prog 19 [(intss l)] (intss (sdW l)) := by
 refine pW Try.func19 s19_ok fun hB => ?_
 unfold s19
 dsimp only
 refine W_r (R_mv (@rfl V V.nilsl) (R_e (W_r (R_mv (@rfl V (intss l)) (R_callc (evcons rfl (evcons rfl evnil)) (ordered_pure l hl hw) (R_mv (@rfl V (intss (sdP l))) (R_e ?_)))))))
 refine W_ret ?_
 refine Ret_1 (@rfl V (intss (sdP l))) (fz_sl ?_ (fun _ => by simp))
 · exact sdP_eq l
def orA (p q : PrimA) : PrimA := ⟨fun id f args H => match p.a id f args H with
    | some r => some r
    | none => q.a id f args H, fun f args => match p.p f args with
    | some r => some r
    | none => q.p f args⟩
theorem orA_ok {P : Program} {p q : PrimA} (hp : PrimAOK P p) (hq : PrimAOK P q) : PrimAOK P (orA p q) := by
  constructor
  · intro id f args H v b h
    unfold orA at h
    dsimp only at h
    split at h
    · rename_i r hr; cases h; exact hp.1 _ _ _ _ _ _ hr
    · exact hq.1 _ _ _ _ _ _ h
  · intro f args v h
    unfold orA at h
    dsimp only at h
    split at h
    · rename_i r hr; cases h; exact hp.2 _ _ _ hr
    · exact hq.2 _ _ _ h
def toLists : List (List V) → Option (List (List Int))
  | [] => some []
  | [.sl rows] :: l => match toInts rows with
    | some a => (toLists l).map (a :: ·)
    | none => none
  | _ => none
theorem toLists_eq : ∀ {rows : List (List V)} {l : List (List Int)}, toLists rows = some l → rows = l.map cL
  | [], l, h => by cases h; rfl
  | [.sl rw] :: r, l, h => by
    simp only [toLists] at h
    split at h
    · rename_i a ha
      rw [Option.map_eq_some_iff] at h
      obtain ⟨m, h1, rfl⟩ := h
      rw [toLists_eq h1, toInts_eq ha]; rfl
    · cases h
def sortedPA19 : PrimA := ⟨fun _ _ _ _ => none, fun g args => if g = 19 then match args with
    | [.sl rows] => match toLists rows with
      | some l => if l.length ≤ 1073741824 ∧ (l.all fun w => decide (w.length ≤ 1048576)) = true then some (.sl ((sdW l).map cL)) else none
      | none => none
    | _ => none
  else none⟩
theorem sortedPA19_ok : PrimAOK Try.prog sortedPA19 := by
  constructor
  · intro id g args H v b h; cases h
  · intro g args v h
    unfold sortedPA19 at h
    dsimp only at h
    split at h
    · rename_i hg
      subst hg
      split at h
      · split at h
        · rename_i l hl
          split at h
          · rename_i hc
            cases h
            rw [toLists_eq hl]
            exact sorted_pure l hc.1 fun w hw => by simpa using List.all_eq_true.1 hc.2 w hw
          · cases h
        · cases h
      · cases h
    · cases h
def r6_1 : List SO := [
 sO 15 (.call false 12 []),
 sO 16 (.bslice 3 1 false [.int .i64 0] 1 [(0, .c (.int .i64 1))]),
 sO 17 (.bslice 3 1 false [.int .i64 0] 1 [(0, .c (.int .i64 0))]),
 sO 18 (.bslice 3 1 false [.int .i64 0] 1 [(0, .c (.int .i64 0))]),
 sO 19 (.bslice 3 1 false [.int .i64 0] 1 [(0, .c (.int .i64 2))]),
 sO 20 (.call false 8 [.t 15, .c (.int .i64 0), .t 16, .t 17, .t 18, .t 19]),
 sO 14 (.mv (.t 20)),
 sO 21 (.ext (.t 14) 0),
 sO 22 (.ext (.t 14) 1),
 sO 1 (.alloc 24 [.nilsl]),
 sN (.store 1 (.t 1) (.t 21)),
 sO 2 (.mv (.t 22))]
def r6_2 : List SO := [
 sO 24 (.load true 1 (.t 1)),
 sO 25 (.call false 13 [.t 24, .c (.int .i64 1), .c (.int .i64 2)]),
 sO 23 (.mv (.t 25)),
 sO 26 (.ext (.t 23) 0),
 sO 27 (.ext (.t 23) 1),
 sO 3 (.mv (.t 26)),
 sO 4 (.mv (.t 27))]
def r6_3 : List SO := [
 sO 28 (.bslice 3 1 false [.int .i64 0] 3 [(0, .c (.int .i64 1)), (1, .c (.int .i64 0)), (2, .c (.int .i64 1))]),
 sO 29 (.bslice 3 1 false [.int .i64 0] 3 [(0, .c (.int .i64 0)), (1, .c (.int .i64 1)), (2, .c (.int .i64 2))]),
 sO 30 (.build [.nilsl, .nilsl] [(0, 1, .t 28), (1, 1, .t 29)]),
 sO 31 (.bslice 46 2 false [.nilsl, .nilsl] 1 [(0, .t 30)]),
 sO 32 (.build [.int .i64 0, .nilsl] [(0, 1, .c (.int .i64 2)), (1, 1, .t 31)]),
 sO 5 (.alloc 49 [.int .i64 0, .nilsl]),
 sN (.store 2 (.t 5) (.t 32))]
def r6_4 : List SO := [
 sO 34 (.load true 1 (.t 1)),
 sO 35 (.load true 2 (.t 5)),
 sO 36 (.bslice 3 1 false [.int .i64 0] 2 [(0, .c (.int .i64 1)), (1, .c (.int .i64 0))]),
 sO 37 (.call false 14 [.t 34, .t 35, .t 36]),
 sO 33 (.mv (.t 37)),
 sO 38 (.ext (.t 33) 0),
 sO 39 (.ext (.t 33) 1),
 sO 40 (.ext (.t 33) 2),
 sO 6 (.mv (.t 38)),
 sO 7 (.mv (.t 39)),
 sO 8 (.mv (.t 40))]
def r6_5 : List SO := [
 sO 42 (.load true 1 (.t 1)),
 sO 43 (.build [.int .i64 0, .nilsl] [(0, 1, .c (.int .i64 2))]),
 sO 44 (.bslice 3 1 false [.int .i64 0] 2 [(0, .c (.int .i64 1)), (1, .c (.int .i64 0))]),
 sO 45 (.call false 14 [.t 42, .t 43, .t 44]),
 sO 41 (.mv (.t 45)),
 sO 46 (.ext (.t 41) 0),
 sO 47 (.ext (.t 41) 1),
 sO 48 (.ext (.t 41) 2),
 sO 9 (.mv (.t 46)),
 sO 10 (.mv (.t 47)),
 sO 11 (.mv (.t 48))]
def r6_6 : List SO := [
 sO 50 (.load true 1 (.t 1)),
 sO 51 (.bslice 3 1 false [.int .i64 0] 1 [(0, .c (.int .i64 1))]),
 sO 52 (.bslice 3 1 false [.int .i64 0] 2 [(0, .c (.int .i64 1)), (1, .c (.int .i64 1))]),
 sO 53 (.call false 9 [.t 50, .c (.int .i64 0), .t 51, .t 52]),
 sO 49 (.mv (.t 53)),
 sO 54 (.ext (.t 49) 0),
 sO 55 (.ext (.t 49) 1),
 sO 12 (.alloc 24 [.nilsl]),
 sN (.store 1 (.t 12) (.t 54)),
 sO 13 (.mv (.t 55))]
def r6_7 : List SO := [
 sO 56 (.mv (.t 2)),
 sO 57 (.bin .neq (.t 56) (.c (.int .i64 0))),
 sO 58 (.mv (.t 57)),
 ⟨some (58, false), some 59, .mv (.t 4)⟩,
 ⟨some (58, false), some 60, .bin .neq (.t 59) (.c (.int .i64 0))⟩,
 sO 61 (.pick (.t 58) (.c (.bool true)) (.t 60)),
 sO 62 (.mv (.t 61)),
 ⟨some (62, false), some 63, .mv (.t 8)⟩,
 ⟨some (62, false), some 64, .bin .neq (.t 63) (.c (.int .i64 0))⟩,
 sO 65 (.pick (.t 62) (.c (.bool true)) (.t 64)),
 sO 66 (.mv (.t 65)),
 ⟨some (66, false), some 67, .mv (.t 11)⟩,
 ⟨some (66, false), some 68, .bin .neq (.t 67) (.c (.int .i64 0))⟩,
 sO 69 (.pick (.t 66) (.c (.bool true)) (.t 68)),
 sO 70 (.mv (.t 69)),
 ⟨some (70, false), some 71, .mv (.t 13)⟩,
 ⟨some (70, false), some 72, .bin .neq (.t 71) (.c (.int .i64 0))⟩,
 sO 73 (.pick (.t 70) (.c (.bool true)) (.t 72)),
 sO 74 (.mv (.t 73)),
 ⟨some (74, false), some 75, .fld 0 (.t 12)⟩,
 ⟨some (74, false), some 76, .load false 1 (.t 75)⟩,
 ⟨some (74, false), some 77, .len (.t 76)⟩,
 ⟨some (74, false), some 78, .bin .neq (.t 77) (.c (.int .i64 4))⟩,
 sO 79 (.pick (.t 74) (.c (.bool true)) (.t 78)),
 sO 80 (.mv (.t 79)),
 ⟨some (80, false), some 81, .mv (.t 6)⟩,
 ⟨some (80, false), some 82, .bin .neq (.t 81) (.c (.int .i64 2))⟩,
 sO 83 (.pick (.t 80) (.c (.bool true)) (.t 82)),
 sO 84 (.mv (.t 83)),
 ⟨some (84, false), some 85, .mv (.t 7)⟩,
 ⟨some (84, false), some 86, .len (.t 85)⟩,
 ⟨some (84, false), some 87, .bin .neq (.t 86) (.c (.int .i64 0))⟩,
 sO 88 (.pick (.t 84) (.c (.bool true)) (.t 87)),
 sO 89 (.mv (.t 88)),
 ⟨some (89, false), some 90, .load true 1 (.t 1)⟩,
 ⟨some (89, false), some 91, .call false 16 []⟩,
 ⟨some (89, false), some 92, .call false 15 [.t 90, .t 91]⟩,
 ⟨some (89, false), some 93, .un .not (.t 92)⟩,
 sO 94 (.pick (.t 89) (.c (.bool true)) (.t 93))]
def r6_9 : List SO := [
 sO 95 (.mv (.t 3)),
 sO 96 (.bslice 3 1 false [.int .i64 0] 1 [(0, .c (.int .i64 1))]),
 sO 97 (.call false 17 [.t 95, .t 96]),
 sO 98 (.mv (.t 97)),
 ⟨some (98, true), some 99, .mv (.t 10)⟩,
 ⟨some (98, true), some 100, .bslice 3 1 false [.int .i64 0] 3 [(0, .c (.int .i64 1)), (1, .c (.int .i64 0)), (2, .c (.int .i64 1))]⟩,
 ⟨some (98, true), some 101, .call false 17 [.t 99, .t 100]⟩,
 sO 102 (.pick (.t 98) (.t 101) (.c (.bool false))),
 sO 103 (.mv (.t 102)),
 ⟨some (103, true), some 104, .fld 0 (.t 12)⟩,
 ⟨some (103, true), some 105, .load false 1 (.t 104)⟩,
 ⟨some (103, true), some 106, .idx 5 (.t 105) (.c (.int .i64 0))⟩,
 ⟨some (103, true), some 107, .fld 4 (.t 106)⟩,
 ⟨some (103, true), some 108, .load false 1 (.t 107)⟩,
 ⟨some (103, true), some 109, .bslice 3 1 false [.int .i64 0] 3 [(0, .c (.int .i64 1)), (1, .c (.int .i64 3)), (2, .c (.int .i64 2))]⟩,
 ⟨some (103, true), some 110, .call false 17 [.t 108, .t 109]⟩,
 sO 111 (.pick (.t 103) (.t 110) (.c (.bool false))),
 sO 112 (.mv (.t 111)),
 ⟨some (112, true), some 113, .load true 1 (.t 12)⟩,
 ⟨some (112, true), some 114, .call false 10 [.t 113]⟩,
 ⟨some (112, true), some 115, .bin .eql (.t 114) (.c (.int .i64 0))⟩,
 sO 116 (.pick (.t 112) (.t 115) (.c (.bool false))),
 sO 117 (.mv (.t 116)),
 ⟨some (117, true), some 118, .load true 1 (.t 12)⟩,
 ⟨some (117, true), some 119, .call false 7 [.t 118]⟩,
 ⟨some (117, true), some 120, .bslice 3 1 false [.int .i64 0] 0 []⟩,
 ⟨some (117, true), some 121, .bslice 3 1 false [.int .i64 0] 1 [(0, .c (.int .i64 0))]⟩,
 ⟨some (117, true), some 122, .bslice 3 1 false [.int .i64 0] 2 [(0, .c (.int .i64 1)), (1, .c (.int .i64 1))]⟩,
 ⟨some (117, true), some 123, .bslice 25 1 false [.nilsl] 3 [(0, .t 120), (1, .t 121), (2, .t 122)]⟩,
 ⟨some (117, true), some 124, .call false 18 [.t 119, .t 123]⟩,
 sO 125 (.pick (.t 117) (.t 124) (.c (.bool false))),
 sO 0 (.mv (.t 125))]
def s6 : SF := ⟨126, [.tmp 0], .seq (.reg [sO 0 (.mv (.c (.bool false)))]) (.seq (.reg r6_1) (.seq (.reg r6_2) (.seq (.reg r6_3) (.seq (.reg r6_4) (.seq (.reg r6_5) (.seq (.reg r6_6) (.seq (.seq (.reg r6_7) (.cond (.t 94) (.seq (.reg [sO 0 (.mv (.c (.bool false)))]) (.ret)) (.skip))) (.seq (.reg r6_9) (.ret)))))))))⟩
theorem s6_ok : slimF Try.prog ⟨[22, 25, 26, 31, 32, 67, 68, 69, 73, 79, 81, 86], []⟩ Try.f6 = some s6 := by kernel_rfl
def s7 : SF := ⟨9, [.tmp 2], .seq (.reg [sO 1 (.box 24 1 (.t 0)), sO 2 (.mv (.c (.nilsl)))]) (.seq (.seq (.reg [sO 3 (.load true 1 (.t 1)), sO 4 (.call false 10 [.t 3]), sO 5 (.bin .neq (.t 4) (.c (.int .i64 0)))]) (.cond (.t 5) (.seq (.reg [sO 2 (.mv (.c (.nilsl)))]) (.ret)) (.skip))) (.seq (.reg [sO 6 (.load true 1 (.t 1)), sO 7 (.call false 20 [.t 6]), sO 8 (.call false 19 [.t 7]), sO 2 (.mv (.t 8))]) (.ret)))⟩
theorem s7_ok : slimF Try.prog ⟨[22, 25, 26, 31, 32, 67, 68, 69, 73, 79, 81, 86], []⟩ Try.f7 = some s7 := by kernel_rfl
def r8_4 : List SO := [
 sO 25 (.load true 1 (.t 6)),
 sO 26 (.mv (.t 1)),
 sO 27 (.mv (.t 2)),
 sO 28 (.mv (.t 3)),
 sO 29 (.mv (.t 4)),
 sO 30 (.mv (.t 5)),
 sO 31 (.call false 21 [.t 25, .t 26, .t 27, .t 28, .t 29, .t 30]),
 sO 15 (.mv (.t 31))]
def r8_8 : List SO := [
 sO 38 (.fld 0 (.t 16)),
 sO 39 (.load false 1 (.t 38)),
 sO 40 (.mv (.t 1)),
 sO 41 (.idx 5 (.t 39) (.t 40)),
 sO 42 (.load true 5 (.t 41)),
 sO 17 (.alloc 41 [.bool false, .nilsl, .nilsl, .nilsl, .nilsl]),
 sN (.store 5 (.t 17) (.t 42))]
def r8_9 : List SO := [
 sO 43 (.mv (.t 2)),
 sO 44 (.bslice 25 1 false [.nilsl] 1 [(0, .t 43)]),
 sO 45 (.call false 23 [.t 44]),
 sO 46 (.mv (.t 3)),
 sO 47 (.bslice 25 1 false [.nilsl] 1 [(0, .t 46)]),
 sO 48 (.call false 23 [.t 47]),
 sO 49 (.mv (.t 5)),
 sO 50 (.bslice 25 1 false [.nilsl] 1 [(0, .t 49)]),
 sO 51 (.call false 23 [.t 50]),
 sO 53 (.fld 0 (.t 6)),
 sO 54 (.load false 1 (.t 53)),
 sO 55 (.len (.t 54)),
 sO 56 (.fld 0 (.t 6)),
 sO 57 (.load false 1 (.t 56)),
 sO 58 (.len (.t 57)),
 sO 59 (.bin .add (.t 58) (.c (.int .i64 1))),
 sO 52 (.bslice 25 1 true [.nilsl] 2 [(0, .t 48), (1, .t 51)]),
 sO 60 (.bslice 3 1 true [.int .i64 0] 2 [(0, .t 55), (1, .t 59)]),
 sO 61 (.build [.bool false, .nilsl, .nilsl, .nilsl, .nilsl] [(2, 1, .t 45), (3, 1, .t 52), (4, 1, .t 60)]),
 sO 18 (.alloc 41 [.bool false, .nilsl, .nilsl, .nilsl, .nilsl]),
 sN (.store 5 (.t 18) (.t 61))]
def r8_14 : List SO := [
 sO 77 (.fld 0 (.t 16)),
 sO 78 (.load false 1 (.t 77)),
 sO 79 (.load true 5 (.t 17)),
 sO 80 (.mv (.t 4)),
 sO 81 (.bslice 25 1 false [.nilsl] 1 [(0, .t 80)]),
 sO 82 (.call false 23 [.t 81]),
 sO 83 (.build [.bool false, .nilsl, .nilsl, .nilsl, .nilsl] [(0, 1, .c (.bool true)), (1, 1, .t 82)]),
 sO 84 (.bslice 41 5 false [.bool false, .nilsl, .nilsl, .nilsl, .nilsl] 2 [(0, .t 79), (1, .t 83)]),
 sO 85 (.append 41 5 104 (.t 78) (.t 84)),
 sO 86 (.fld 0 (.t 16)),
 sN (.store 1 (.t 86) (.t 85))]
def s8 : SF := ⟨88, [.cell 12 true 1, .tmp 13], .seq (.reg [sO 6 (.box 24 1 (.t 0)), sO 12 (.alloc 24 [.nilsl]), sO 13 (.mv (.c (.int .i64 0)))]) (.seq (.seq (.reg [sO 19 (.load true 1 (.t 6)), sO 20 (.call false 10 [.t 19]), sO 14 (.mv (.t 20))]) (.seq (.reg [sO 21 (.mv (.t 14)), sO 22 (.bin .neq (.t 21) (.c (.int .i64 0)))]) (.cond (.t 22) (.seq (.reg [sO 23 (.load true 1 (.t 6)), sO 24 (.mv (.t 14)), sN (.store 1 (.t 12) (.t 23)), sO 13 (.mv (.t 24))]) (.ret)) (.skip)))) (.seq (.seq (.reg r8_4) (.seq (.reg [sO 32 (.mv (.t 15)), sO 33 (.bin .neq (.t 32) (.c (.int .i64 0)))]) (.cond (.t 33) (.seq (.reg [sO 34 (.load true 1 (.t 6)), sO 35 (.mv (.t 15)), sN (.store 1 (.t 12) (.t 34)), sO 13 (.mv (.t 35))]) (.ret)) (.skip)))) (.seq (.reg [sO 36 (.load true 1 (.t 6)), sO 37 (.call true 22 [.t 36]), sO 16 (.alloc 24 [.nilsl]), sN (.store 1 (.t 16) (.t 37))]) (.seq (.reg r8_8) (.seq (.dreg [52, 60, 18] r8_9) (.seq (.seq (.reg [sO 62 (.mv (.t 3)), sO 63 (.mv (.t 5)), sO 64 (.call false 24 [.t 62, .t 63]), sO 65 (.bin .gtr (.t 64) (.c (.int .i64 0)))]) (.cond (.t 65) (.seq (.reg [sO 66 (.fld 3 (.t 18)), sO 67 (.load false 1 (.t 66)), sO 68 (.call true 25 [.t 67])]) (.reg [sO 69 (.fld 4 (.t 18)), sO 70 (.load false 1 (.t 69)), sO 71 (.call true 26 [.t 70])])) (.skip))) (.seq (.reg [sO 72 (.fld 0 (.t 16)), sO 73 (.load false 1 (.t 72)), sO 74 (.mv (.t 1)), sO 75 (.load true 5 (.t 18)), sO 76 (.idx 5 (.t 73) (.t 74)), sN (.store 5 (.t 76) (.t 75))]) (.seq (.reg r8_14) (.seq (.reg [sO 87 (.load true 1 (.t 16)), sN (.store 1 (.t 12) (.t 87)), sO 13 (.mv (.c (.int .i64 0)))]) (.ret))))))))))⟩
theorem s8_ok : slimF Try.prog ⟨[22, 25, 26, 31, 32, 67, 68, 69, 73, 79, 81, 86], [52, 60]⟩ Try.f8 = some s8 := by kernel_rfl
def r9_7 : List SO := [
 sO 31 (.mv (.t 2)),
 sO 32 (.fld 0 (.t 4)),
 sO 33 (.load false 1 (.t 32)),
 sO 34 (.mv (.t 1)),
 sO 35 (.idx 5 (.t 33) (.t 34)),
 sO 36 (.fld 2 (.t 35)),
 sO 37 (.load false 1 (.t 36)),
 sO 38 (.call false 28 [.t 31, .t 37]),
 sO 12 (.mv (.t 38))]
def r9_10 : List SO := [
 sO 44 (.fld 0 (.t 4)),
 sO 45 (.load false 1 (.t 44)),
 sO 46 (.mv (.t 1)),
 sO 47 (.idx 5 (.t 45) (.t 46)),
 sO 48 (.load true 5 (.t 47)),
 sO 49 (.mv (.t 2)),
 sO 50 (.call false 29 [.t 48, .t 49]),
 sO 43 (.mv (.t 50)),
 sO 51 (.ext (.t 43) 0),
 sO 52 (.ext (.t 43) 1),
 sO 13 (.mv (.t 51)),
 sO 14 (.mv (.t 52))]
def r9_20 : List SO := [
 sO 73 (.mv (.t 17)),
 sO 74 (.mv (.t 17)),
 sO 75 (.nilck (.t 74)),
 sO 76 (.fld 3 (.t 75)),
 sO 77 (.load false 1 (.t 76)),
 sO 78 (.mv (.t 13)),
 sO 79 (.mv (.t 2)),
 sO 80 (.bslice 25 1 false [.nilsl] 1 [(0, .t 79)]),
 sO 81 (.call false 23 [.t 80]),
 sO 82 (.bslice 25 1 true [.nilsl] 1 [(0, .t 81)]),
 sO 83 (.call true 31 [.t 77, .t 78, .t 82]),
 sO 84 (.nilck (.t 73)),
 sO 85 (.fld 3 (.t 84)),
 sN (.store 1 (.t 85) (.t 83))]
def r9_21 : List SO := [
 sO 86 (.mv (.t 17)),
 sO 87 (.mv (.t 17)),
 sO 88 (.nilck (.t 87)),
 sO 89 (.fld 4 (.t 88)),
 sO 90 (.load false 1 (.t 89)),
 sO 91 (.mv (.t 13)),
 sO 92 (.fld 0 (.t 4)),
 sO 93 (.load false 1 (.t 92)),
 sO 94 (.len (.t 93)),
 sO 95 (.bslice 3 1 true [.int .i64 0] 1 [(0, .t 94)]),
 sO 96 (.call true 32 [.t 90, .t 91, .t 95]),
 sO 97 (.nilck (.t 86)),
 sO 98 (.fld 4 (.t 97)),
 sN (.store 1 (.t 98) (.t 96))]
def r9_22 : List SO := [
 sO 99 (.fld 0 (.t 16)),
 sO 100 (.load false 1 (.t 99)),
 sO 101 (.mv (.t 3)),
 sO 102 (.bslice 25 1 false [.nilsl] 1 [(0, .t 101)]),
 sO 103 (.call false 23 [.t 102]),
 sO 104 (.build [.bool false, .nilsl, .nilsl, .nilsl, .nilsl] [(0, 1, .c (.bool true)), (1, 1, .t 103)]),
 sO 105 (.bslice 41 5 false [.bool false, .nilsl, .nilsl, .nilsl, .nilsl] 1 [(0, .t 104)]),
 sO 106 (.append 41 5 104 (.t 100) (.t 105)),
 sO 107 (.fld 0 (.t 16)),
 sN (.store 1 (.t 107) (.t 106))]
def s9 : SF := ⟨109, [.cell 8 true 1, .tmp 9], .seq (.reg [sO 4 (.box 24 1 (.t 0)), sO 8 (.alloc 24 [.nilsl]), sO 9 (.mv (.c (.int .i64 0)))]) (.seq (.seq (.reg [sO 18 (.load true 1 (.t 4)), sO 19 (.call false 10 [.t 18]), sO 10 (.mv (.t 19))]) (.seq (.reg [sO 20 (.mv (.t 10)), sO 21 (.bin .neq (.t 20) (.c (.int .i64 0)))]) (.cond (.t 21) (.seq (.reg [sO 22 (.load true 1 (.t 4)), sO 23 (.mv (.t 10)), sN (.store 1 (.t 8) (.t 22)), sO 9 (.mv (.t 23))]) (.ret)) (.skip)))) (.seq (.seq (.reg [sO 24 (.load true 1 (.t 4)), sO 25 (.mv (.t 1)), sO 26 (.call false 27 [.t 24, .t 25, .c (.bool false)]), sO 11 (.mv (.t 26))]) (.seq (.reg [sO 27 (.mv (.t 11)), sO 28 (.bin .neq (.t 27) (.c (.int .i64 0)))]) (.cond (.t 28) (.seq (.reg [sO 29 (.load true 1 (.t 4)), sO 30 (.mv (.t 11)), sN (.store 1 (.t 8) (.t 29)), sO 9 (.mv (.t 30))]) (.ret)) (.skip)))) (.seq (.seq (.reg r9_7) (.seq (.reg [sO 39 (.mv (.t 12)), sO 40 (.bin .neq (.t 39) (.c (.int .i64 0)))]) (.cond (.t 40) (.seq (.reg [sO 41 (.load true 1 (.t 4)), sO 42 (.mv (.t 12)), sN (.store 1 (.t 8) (.t 41)), sO 9 (.mv (.t 42))]) (.ret)) (.skip)))) (.seq (.reg r9_10) (.seq (.seq (.reg [sO 53 (.mv (.t 14))]) (.cond (.t 53) (.seq (.reg [sO 54 (.load true 1 (.t 4)), sN (.store 1 (.t 8) (.t 54)), sO 9 (.mv (.c (.int .i64 7)))]) (.ret)) (.skip))) (.seq (.seq (.reg [sO 55 (.load true 1 (.t 4)), sO 56 (.mv (.t 3)), sO 57 (.call false 30 [.t 55, .t 56]), sO 15 (.mv (.t 57))]) (.seq (.reg [sO 58 (.mv (.t 15)), sO 59 (.bin .neq (.t 58) (.c (.int .i64 0)))]) (.cond (.t 59) (.seq (.reg [sO 60 (.load true 1 (.t 4)), sO 61 (.mv (.t 15)), sN (.store 1 (.t 8) (.t 60)), sO 9 (.mv (.t 61))]) (.ret)) (.skip)))) (.seq (.seq (.reg [sO 62 (.fld 0 (.t 4)), sO 63 (.load false 1 (.t 62)), sO 64 (.len (.t 63)), sO 65 (.bin .geq (.t 64) (.c (.int .i64 4096)))]) (.cond (.t 65) (.seq (.reg [sO 66 (.load true 1 (.t 4)), sN (.store 1 (.t 8) (.t 66)), sO 9 (.mv (.c (.int .i64 11)))]) (.ret)) (.skip))) (.seq (.reg [sO 67 (.load true 1 (.t 4)), sO 68 (.call true 22 [.t 67]), sO 16 (.alloc 24 [.nilsl]), sN (.store 1 (.t 16) (.t 68))]) (.seq (.reg [sO 69 (.fld 0 (.t 16)), sO 70 (.load false 1 (.t 69)), sO 71 (.mv (.t 1)), sO 72 (.idx 5 (.t 70) (.t 71)), sO 17 (.mv (.t 72))]) (.seq (.dreg [82] r9_20) (.seq (.dreg [95] r9_21) (.seq (.reg r9_22) (.seq (.reg [sO 108 (.load true 1 (.t 16)), sN (.store 1 (.t 8) (.t 108)), sO 9 (.mv (.c (.int .i64 0)))]) (.ret))))))))))))))⟩
theorem s9_ok : slimF Try.prog ⟨[22, 25, 26, 31, 32, 67, 68, 69, 73, 79, 81, 86], [82, 95]⟩ Try.f9 = some s9 := by kernel_rfl
def b10_0 : SC := .seq (.reg [sO 21 (.bin .lss (.t 20) (.t 19))]) (.seq (.cond (.t 21) (.skip) (.exit 1)) (.seq (.block 2 (.seq (.reg [sO 22 (.idx 5 (.t 18) (.t 20)), sO 23 (.load true 5 (.t 22)), sO 4 (.alloc 41 [.bool false, .nilsl, .nilsl, .nilsl, .nilsl]), sN (.store 5 (.t 4) (.t 23))]) (.seq (.reg [sO 5 (.mv (.c (.int .i64 0)))]) (.seq (.seq (.reg [sO 24 (.fld 0 (.t 4)), sO 25 (.load false 1 (.t 24))]) (.cond (.t 25) (.reg [sO 26 (.load true 5 (.t 4)), sO 27 (.call false 33 [.t 26]), sO 5 (.mv (.t 27))]) (.reg [sO 28 (.load true 5 (.t 4)), sO 29 (.fld 0 (.t 1)), sO 30 (.load false 1 (.t 29)), sO 31 (.len (.t 30)), sO 32 (.call false 34 [.t 28, .t 31]), sO 5 (.mv (.t 32))]))) (.seq (.reg [sO 33 (.mv (.t 5)), sO 34 (.bin .neq (.t 33) (.c (.int .i64 0)))]) (.cond (.t 34) (.seq (.reg [sO 35 (.mv (.t 5)), sO 2 (.mv (.t 35))]) (.ret)) (.skip))))))) (.reg [sO 36 (.bin .add (.t 20) (.c (.int .i64 1))), sO 20 (.mv (.t 36))])))
def s10 : SF := ⟨48, [.tmp 2], .seq (.reg [sO 1 (.box 24 1 (.t 0)), sO 2 (.mv (.c (.int .i64 0)))]) (.seq (.block 0 (.seq (.reg [sO 8 (.fld 0 (.t 1)), sO 9 (.load false 1 (.t 8)), sO 10 (.len (.t 9)), sO 11 (.bin .eql (.t 10) (.c (.int .i64 0))), sO 7 (.mv (.t 11))]) (.cond (.t 7) (.seq (.reg [sO 2 (.mv (.c (.int .i64 19)))]) (.ret)) (.seq (.reg [sO 13 (.fld 0 (.t 1)), sO 14 (.load false 1 (.t 13)), sO 15 (.len (.t 14)), sO 16 (.bin .gtr (.t 15) (.c (.int .i64 4096))), sO 12 (.mv (.t 16))]) (.cond (.t 12) (.seq (.reg [sO 2 (.mv (.c (.int .i64 11)))]) (.ret)) (.skip)))))) (.seq (.seq (.reg [sO 17 (.fld 0 (.t 1)), sO 18 (.load false 1 (.t 17)), sO 19 (.len (.t 18)), sO 20 (.mv (.c (.int .i64 0)))]) (.block 1 (.loop b10_0))) (.seq (.seq (.reg [sO 37 (.load true 1 (.t 1)), sO 38 (.call false 35 [.t 37]), sO 39 (.un .not (.t 38))]) (.cond (.t 39) (.seq (.reg [sO 2 (.mv (.c (.int .i64 1)))]) (.ret)) (.skip))) (.seq (.seq (.reg [sO 40 (.load true 1 (.t 1)), sO 41 (.call false 20 [.t 40]), sO 6 (.mv (.t 41))]) (.seq (.reg [sO 42 (.mv (.t 6)), sO 43 (.call false 19 [.t 42]), sO 44 (.len (.t 43)), sO 45 (.mv (.t 6)), sO 46 (.len (.t 45)), sO 47 (.bin .neq (.t 44) (.t 46))]) (.cond (.t 47) (.seq (.reg [sO 2 (.mv (.c (.int .i64 7)))]) (.ret)) (.skip)))) (.seq (.reg [sO 2 (.mv (.c (.int .i64 0)))]) (.ret))))))⟩
theorem s10_ok : slimF Try.prog ⟨[22, 25, 26, 31, 32, 67, 68, 69, 73, 79, 81, 86], []⟩ Try.f10 = some s10 := by kernel_rfl
def s12 : SF := ⟨4, [.cell 0 true 1], .seq (.reg [sO 0 (.alloc 24 [.nilsl])]) (.seq (.reg [sO 1 (.build [.bool false, .nilsl, .nilsl, .nilsl, .nilsl] [(0, 1, .c (.bool true))]), sO 2 (.bslice 41 5 false [.bool false, .nilsl, .nilsl, .nilsl, .nilsl] 1 [(0, .t 1)]), sO 3 (.build [.nilsl] [(0, 1, .t 2)]), sN (.store 1 (.t 0) (.t 3))]) (.ret))⟩
theorem s12_ok : slimF Try.prog ⟨[22, 25, 26, 31, 32, 67, 68, 69, 73, 79, 81, 86], []⟩ Try.f12 = some s12 := by kernel_rfl
def r13_7 : List SO := [
 sO 25 (.mv (.t 10)),
 sO 26 (.bin .lss (.t 25) (.c (.int .i64 0))),
 sO 27 (.mv (.t 26)),
 ⟨some (27, false), some 28, .mv (.t 10)⟩,
 ⟨some (27, false), some 29, .fld 0 (.t 3)⟩,
 ⟨some (27, false), some 30, .load false 1 (.t 29)⟩,
 ⟨some (27, false), some 31, .len (.t 30)⟩,
 ⟨some (27, false), some 32, .bin .geq (.t 28) (.t 31)⟩,
 sO 33 (.pick (.t 27) (.c (.bool true)) (.t 32))]
def b13_0 : SC := .seq (.reg [sO 23 (.bin .lss (.t 22) (.c (.int .i64 2)))]) (.seq (.cond (.t 23) (.skip) (.exit 0)) (.seq (.block 1 (.seq (.reg [sO 24 (.aidx false 1 2 (.t 21) (.t 22)), sO 10 (.mv (.t 24))]) (.seq (.reg r13_7) (.cond (.t 33) (.seq (.reg [sO 6 (.mv (.c (.nilsl))), sO 7 (.mv (.c (.int .i64 2)))]) (.ret)) (.skip))))) (.reg [sO 34 (.bin .add (.t 22) (.c (.int .i64 1))), sO 22 (.mv (.t 34))])))
def r13_10 : List SO := [
 sO 36 (.fld 0 (.t 3)),
 sO 37 (.load false 1 (.t 36)),
 sO 38 (.mv (.t 1)),
 sO 39 (.idx 5 (.t 37) (.t 38)),
 sO 40 (.fld 0 (.t 39)),
 sO 41 (.load false 1 (.t 40)),
 sO 42 (.un .not (.t 41)),
 sO 43 (.mv (.t 42)),
 ⟨some (43, false), some 44, .fld 0 (.t 3)⟩,
 ⟨some (43, false), some 45, .load false 1 (.t 44)⟩,
 ⟨some (43, false), some 46, .mv (.t 2)⟩,
 ⟨some (43, false), some 47, .idx 5 (.t 45) (.t 46)⟩,
 ⟨some (43, false), some 48, .fld 0 (.t 47)⟩,
 ⟨some (43, false), some 49, .load false 1 (.t 48)⟩,
 ⟨some (43, false), some 50, .un .not (.t 49)⟩,
 sO 51 (.pick (.t 43) (.c (.bool true)) (.t 50)),
 sO 35 (.mv (.t 51))]
def r13_14 : List SO := [
 sO 56 (.load true 1 (.t 3)),
 sO 57 (.mv (.t 1)),
 sO 58 (.call false 37 [.t 56, .t 57]),
 sO 59 (.load true 1 (.t 3)),
 sO 60 (.mv (.t 2)),
 sO 61 (.call false 37 [.t 59, .t 60]),
 sO 11 (.mv (.t 58)),
 sO 12 (.mv (.t 61))]
def r13_16 : List SO := [
 sO 65 (.fld 0 (.t 3)),
 sO 66 (.load false 1 (.t 65)),
 sO 67 (.mv (.t 11)),
 sO 68 (.mv (.t 13)),
 sO 69 (.bin .sub (.t 68) (.c (.int .i64 1))),
 sO 70 (.idx 1 (.t 67) (.t 69)),
 sO 71 (.load false 1 (.t 70)),
 sO 72 (.idx 5 (.t 66) (.t 71)),
 sO 73 (.fld 2 (.t 72)),
 sO 74 (.load false 1 (.t 73)),
 sO 75 (.bslice 25 1 false [.nilsl] 1 [(0, .t 74)]),
 sO 76 (.call false 23 [.t 75]),
 sO 6 (.mv (.t 76)),
 sO 7 (.mv (.c (.int .i64 0)))]
def s13 : SF := ⟨77, [.tmp 6, .tmp 7], .seq (.reg [sO 3 (.box 24 1 (.t 0)), sO 6 (.mv (.c (.nilsl))), sO 7 (.mv (.c (.int .i64 0)))]) (.seq (.seq (.reg [sO 14 (.load true 1 (.t 3)), sO 15 (.call false 10 [.t 14]), sO 8 (.mv (.t 15))]) (.seq (.reg [sO 16 (.mv (.t 8)), sO 17 (.bin .neq (.t 16) (.c (.int .i64 0)))]) (.cond (.t 17) (.seq (.reg [sO 18 (.mv (.t 8)), sO 6 (.mv (.c (.nilsl))), sO 7 (.mv (.t 18))]) (.ret)) (.skip)))) (.seq (.seq (.reg [sO 19 (.mv (.t 1)), sO 20 (.mv (.t 2)), sO 21 (.build [.int .i64 0, .int .i64 0] [(0, 1, .t 19), (1, 1, .t 20)]), sO 22 (.mv (.c (.int .i64 0)))]) (.block 0 (.loop b13_0))) (.seq (.block 2 (.seq (.reg r13_10) (.cond (.t 35) (.seq (.reg [sO 6 (.mv (.c (.nilsl))), sO 7 (.mv (.c (.int .i64 10)))]) (.ret)) (.seq (.reg [sO 53 (.mv (.t 1)), sO 54 (.mv (.t 2)), sO 55 (.bin .eql (.t 53) (.t 54)), sO 52 (.mv (.t 55))]) (.cond (.t 52) (.seq (.reg [sO 6 (.mv (.c (.nilsl))), sO 7 (.mv (.c (.int .i64 8)))]) (.ret)) (.skip)))))) (.seq (.reg r13_14) (.seq (.reg [sO 62 (.mv (.t 11)), sO 63 (.mv (.t 12)), sO 64 (.call false 38 [.t 62, .t 63]), sO 13 (.mv (.t 64))]) (.seq (.reg r13_16) (.ret)))))))⟩
theorem s13_ok : slimF Try.prog ⟨[22, 25, 26, 31, 32, 67, 68, 69, 73, 79, 81, 86], []⟩ Try.f13 = some s13 := by kernel_rfl
end Go.Proofs.Ytmnjchcoigbngaa
