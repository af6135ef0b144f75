import Derived.IntWalk
import Derived.KernelRfl
import Derived.Test.YtngkckefanbhgaaProg
import Derived.Test.YtngkckefanbhgaaHV1
/-
  Rules for proofs over the small code, and how plain data are written as abstract values.
-/
namespace Go.Proofs.Ytngkckefanbhgaa
open Go

theorem St_mono {P : Program} {id : Nat} {x : X} {T : Nat → V} {H : Heap} {k k' : V → Heap → Prop} (hk : ∀ v H, k v H → k' v H) (h : St P id x T H k) : St P id x T H k' := by
  cases x <;> simp only [St] at h ⊢
  case bslice ty esz own z len ps =>
    refine onS_mono (fun rows h => ?_) h
    cases own <;> exact hk _ _ h
  case append ty esz bytes s a =>
    split at h
    · split at h
      · rename_i c1
        rw [if_pos c1]
        split at h
        · rename_i c2
          rw [if_pos c2]
          split at h
          · rename_i c3
            rw [if_pos c3]
            split at h
            · rename_i c4
              rw [if_pos c4]
              split at h
              · rename_i c5
                rw [if_pos c5]
                refine onS_mono (fun new h => ?_) h
                split at h
                · rename_i c6
                  rw [if_pos c6]
                  split at h
                  · rename_i c7
                    rw [if_pos c7]
                    split at h
                    · rename_i c8
                      rw [if_pos c8]
                      exact hk _ _ h
                    · cases h
                  · cases h
                · cases h
              · cases h
            · cases h
          · cases h
        · cases h
      · cases h
    · cases h
  case call e f args =>
    cases e
    · obtain ⟨v, h1, h2⟩ := h; exact ⟨v, h1, hk _ _ h2⟩
    · obtain ⟨v, H', h1, h2⟩ := h; exact ⟨v, H', h1, hk _ _ h2⟩
  case callv e g args =>
    split at h
    · cases e
      · obtain ⟨v, h1, h2⟩ := h; exact ⟨v, h1, hk _ _ h2⟩
      · obtain ⟨v, H', h1, h2⟩ := h; exact ⟨v, H', h1, hk _ _ h2⟩
    · cases h
  case isnil neg a =>
    split at h
    · exact hk _ _ h
    · exact ⟨fun e => hk _ _ (h.1 e), hk _ _ h.2⟩
    · cases h
  all_goals first | exact hk _ _ h | exact onS_mono (fun a h => hk _ _ h) h | cases h

theorem Ops_mono {P : Program} {k0 : Nat} {K K' : (Nat → V) → Heap → Prop} (hk : ∀ T H, K T H → K' T H) : ∀ {ops : List SO} {T : Nat → V} {H : Heap}, Ops P k0 ops T H K → Ops P k0 ops T H K' := by
  intro ops
  induction ops with
  | nil => intro T H h; exact hk _ _ h
  | cons o r ih =>
    intro T H h
    simp only [Ops] at h ⊢
    split at h
    · exact St_mono (fun _ _ h => ih h) h
    · exact onS_mono (fun b h => ⟨fun e => St_mono (fun _ _ h => ih h) (h.1 e), fun e => ih (h.2 e)⟩) h

/-- The region's effect as far as it is needed. -/
theorem Ops_cut {P : Program} {k0 : Nat} {K : (Nat → V) → Heap → Prop} {ops : List SO} {T : Nat → V} {H : Heap} (R : (Nat → V) → Heap → Prop) (h : Ops P k0 ops T H R) (hk : ∀ T H, R T H → K T H) : Ops P k0 ops T H K := Ops_mono hk h

section
variable {P : Program} {k0 : Nat} {Q : Ex → (Nat → V) → Heap → Prop} {T : Nat → V} {H : Heap}

theorem W_seq_reg {ops : List SO} {b : SC} (h : ∀ K : (Nat → V) → Heap → Prop, (∀ T H, W P k0 b Q T H → K T H) → Ops P k0 ops T H K) : W P k0 (.seq (.reg ops) b) Q T H :=
  h _ fun _ _ h => .done h
theorem W_seq_dreg {ops : List SO} {b : SC} {late : List Nat} (hl : ∀ d ∈ late, (H (k0 + d)).live = false) (h : ∀ K : (Nat → V) → Heap → Prop, (∀ T H, W P k0 b Q T H → K T H) → Ops P k0 ops T H K) : W P k0 (.seq (.dreg late ops) b) Q T H :=
  ⟨hl, h _ fun _ _ h => .done h⟩
/-- The same, a step that the code does not see behind the region. -/
theorem W_seq_reg_g {ops : List SO} {b : SC} (h : ∀ K : (Nat → V) → Heap → Prop, (∀ T H, G (W P k0 b Q) T H → K T H) → Ops P k0 ops T H K) : W P k0 (.seq (.reg ops) b) Q T H :=
  h _ fun _ _ h => h
theorem W_seq_seq {a b c : SC} (h : W P k0 (.seq a (.seq b c)) Q T H) : W P k0 (.seq (.seq a b) c) Q T H := by
  simp only [W] at h ⊢
  refine Eq.mp (congrArg (fun q => W P k0 a q T H) (funext fun e => funext fun T => funext fun H => ?_)) h
  cases e <;> rfl
theorem W_reg {ops : List SO} (h : ∀ K : (Nat → V) → Heap → Prop, (∀ T H, Q .norm T H → K T H) → Ops P k0 ops T H K) : W P k0 (.reg ops) Q T H := h _ fun _ _ h => h
theorem W_skip (h : Q .norm T H) : W P k0 .skip Q T H := h
theorem W_ret (h : Q .ret T H) : W P k0 .ret Q T H := h
theorem W_exit {n : Nat} (h : Q (.exit n) T H) : W P k0 (.exit n) Q T H := h
theorem CallK_pure {f : Nat} {args : List V} {v : V} {k : V → Heap → Prop} (h : PureC P f args v) (hk : k v H) : CallK P false f args H k := ⟨v, h.roc H, hk⟩
theorem CallK_roc {f : Nat} {args : List V} {v : V} {k : V → Heap → Prop} (h : ROC P f args H v) (hk : k v H) : CallK P false f args H k := ⟨v, h, hk⟩
theorem CallK_E {f : Nat} {args : List V} {v : V} {H' : Heap} {k : V → Heap → Prop} (h : CallOK P f args H v H') (hk : k v H') : CallK P true f args H k := ⟨v, H', h, hk⟩
theorem W_seq_skip {b : SC} (h : W P k0 b Q T H) : W P k0 (.seq .skip b) Q T H := .done h
theorem W_seq_ret {b : SC} (h : Q .ret T H) : W P k0 (.seq .ret b) Q T H := h
theorem W_seq_exit {b : SC} {n : Nat} (h : Q (.exit n) T H) : W P k0 (.seq (.exit n) b) Q T H := h
theorem W_seq_cond {c : SX} {a b r : SC} {bb : Bool} (hc : asB (ev T c) = some bb) (h1 : bb = true → W P k0 (.seq a r) Q T H) (h2 : bb = false → W P k0 (.seq b r) Q T H) : W P k0 (.seq (.cond c a b) r) Q T H := by
  simp only [W, hc, onS_some] at h1 h2 ⊢
  exact ⟨h1, h2⟩
theorem W_cond {c : SX} {a b : SC} {bb : Bool} (hc : asB (ev T c) = some bb) (h1 : bb = true → W P k0 a Q T H) (h2 : bb = false → W P k0 b Q T H) : W P k0 (.cond c a b) Q T H := by
  simp only [W, hc, onS_some]
  exact ⟨h1, h2⟩
theorem W_seq_block {id : Nat} {a r : SC} (h : ∀ Q' : Ex → (Nat → V) → Heap → Prop, (∀ T H, W P k0 r Q T H → Q' .norm T H) → (∀ T H, W P k0 r Q T H → Q' (.exit id) T H) → (∀ T H, Q .ret T H → Q' .ret T H) →
    (∀ n T H, n ≠ id → Q (.exit n) T H → Q' (.exit n) T H) → W P k0 a Q' T H) : W P k0 (.seq (.block id a) r) Q T H := by
  simp only [W]
  refine h _ (fun T H h => .done h) (fun T H h => ?_) (fun T H h => h) (fun n T H hn h => ?_)
  · simp only [if_true]; exact .done h
  · simp only [if_neg hn]; exact h
theorem W_block {id : Nat} {a : SC} (h : ∀ Q' : Ex → (Nat → V) → Heap → Prop, (∀ T H, Q .norm T H → Q' .norm T H) → (∀ T H, Q .norm T H → Q' (.exit id) T H) → (∀ T H, Q .ret T H → Q' .ret T H) →
    (∀ n T H, n ≠ id → Q (.exit n) T H → Q' (.exit n) T H) → W P k0 a Q' T H) : W P k0 (.block id a) Q T H := by
  simp only [W]
  refine h _ (fun T H h => h) (fun T H h => ?_) (fun T H h => h) (fun n T H hn h => ?_)
  · simp only [if_true]; exact h
  · simp only [if_neg hn]; exact h
theorem W_loop {a : SC} (I : Nat → (Nat → V) → Heap → Prop) (h0 : ∃ n, I n T H)
    (h : ∀ n T H, I n T H → ∀ Q' : Ex → (Nat → V) → Heap → Prop, (∀ m T H, m < n → I m T H → Q' .norm T H) → (∀ T H, Q .ret T H → Q' .ret T H) → (∀ n T H, Q (.exit n) T H → Q' (.exit n) T H) → W P k0 a Q' T H) : W P k0 (.loop a) Q T H := by
  simp only [W]
  obtain ⟨n, h0⟩ := h0
  exact ⟨I, n, h0, fun n T H hI => h n T H hI _ (fun m T H h1 h2 => ⟨m, h1, h2⟩) (fun _ _ h => h) (fun _ _ _ h => h)⟩

end

/-! Simplification. -/

attribute [simp] upd_apply putT asB ev evs Ops St intBin strBin boolBin unV convV fldV partV natV boundV extV slenV mnV mxV ptr ldV lenV rowsOf resV resT mapO V.cells V.one ok Ret T0 undefV fz2 fz1 fz0 V.pure pureL pureLL

/-- The element at a place. -/
def nth {α : Type} [Inhabited α] (l : List α) (k : Nat) : α := l.getD k default
theorem nth_eq {α : Type} [Inhabited α] {l : List α} {k : Nat} (h : k < l.length) : l[k]? = some (nth l k) := by
  simp [nth, h]
theorem nth_getElem {α : Type} [Inhabited α] {l : List α} {k : Nat} (h : k < l.length) : l[k] = nth l k := by
  simp [nth, h]
theorem nth_drop {α : Type} [Inhabited α] {l : List α} {k : Nat} (h : k < l.length) : l.drop k = nth l k :: l.drop (k + 1) := by
  rw [← nth_getElem h]; exact List.drop_eq_getElem_cons h

abbrev iV (n : Int) : V := .int .i64 n
abbrev cI (n : Int) : List V := [.int .i64 n]
abbrev ints (l : List Int) : V := .sl (l.map cI)
abbrev cL (l : List Int) : List V := [ints l]
abbrev intss (l : List (List Int)) : V := .sl (l.map cL)

@[simp] theorem rowAt_map {α : Type} [Inhabited α] (f : α → List V) (l : List α) (k : Int) (h0 : 0 ≤ k) (h : k < l.length) : rowAt (l.map f) k = some (f (nth l k.toNat)) := by
  have : k.toNat < l.length := by omega
  simp [rowAt, h0, nth_eq this]

@[simp] theorem idx_map {α : Type} [Inhabited α] (H : Heap) (e : Nat) (f : α → List V) (l : List α) (kd : IntKind) (k : Int) (h0 : 0 ≤ k) (h : k < l.length) (he : ∀ a, (f a).length = e) :
    idxV H e (.sl (l.map f)) (.int kd k) = some (.pp (f (nth l k.toNat))) := by
  simp [idxV, rowAt_map f l k h0 h, he]

@[simp] theorem wrap_in {n : Int} (h1 : -9223372036854775808 ≤ n) (h2 : n < 9223372036854775808) : IntKind.i64.wrap n = n := IntWalk.i64_in n ⟨by omega, by omega⟩

@[simp] theorem pureLL_map {α : Type} (f : α → List V) (l : List α) (h : ∀ a, pureL (f a) = true) : pureLL (l.map f) = true := by
  rw [pureLL_iff]; intro r hr; obtain ⟨a, _, rfl⟩ := List.mem_map.1 hr; exact h a

@[simp] theorem canon_sl (r : List (List V)) : (V.sl r).canon = canonLL r := by rw [V.canon]
@[simp] theorem canon_pp (r : List V) : (V.pp r).canon = canonL r := by rw [V.canon]
@[simp] theorem canon_agg (r : List V) : (V.agg r).canon = canonL r := by rw [V.canon]
@[simp] theorem canon_tup (r : List V) : (V.tup r).canon = canonL r := by rw [V.canon]
@[simp] theorem canon_fn (f : Nat) (a b : List V) : (V.fn f a b).canon = (canonL a && canonL b) := by rw [V.canon]
@[simp] theorem canon_ms (a b c d : Nat) : (V.ms a b c d).canon = false := by rw [V.canon]
@[simp] theorem canon_mp (a b c d : Nat) : (V.mp a b c d).canon = false := by rw [V.canon]
@[simp] theorem canon_int (k : IntKind) (n : Int) : (V.int k n).canon = true := by rw [V.canon]
@[simp] theorem canon_bool (b : Bool) : (V.bool b).canon = true := by rw [V.canon]
@[simp] theorem canon_str (s : List UInt8) : (V.str s).canon = true := by rw [V.canon]
@[simp] theorem canon_nilsl : V.nilsl.canon = false := by rw [V.canon]
@[simp] theorem canon_nilp : V.nilp.canon = true := by rw [V.canon]
@[simp] theorem canon_raw (c : Value) : (V.raw c).canon = true := by rw [V.canon]
@[simp] theorem canonL_nil : canonL [] = true := by rw [canonL]
@[simp] theorem canonL_cons (v : V) (l : List V) : canonL (v :: l) = (v.canon && canonL l) := by rw [canonL]
@[simp] theorem canonLL_nil : canonLL [] = true := by rw [canonLL]
@[simp] theorem canonLL_cons (v : List V) (l : List (List V)) : canonLL (v :: l) = (canonL v && canonLL l) := by rw [canonLL]

@[simp] theorem fzv_canon' {z : Bool} {H : Heap} {n : Nat} {v : V} (h : v.canon = true) : fzv z H n v = v := fzv_canon n v h
theorem canonLL_map {α : Type} (f : α → List V) (l : List α) (h : ∀ a, canonL (f a) = true) : canonLL (l.map f) = true := by
  rw [canonLL_iff]; intro r hr; obtain ⟨a, _, rfl⟩ := List.mem_map.1 hr; exact h a
@[simp] theorem canonLL_ints (l : List Int) : canonLL (l.map cI) = true := canonLL_map _ _ fun a => by simp [cI]
@[simp] theorem canonLL_intss (l : List (List Int)) : canonLL (l.map cL) = true := canonLL_map _ _ fun a => by simp [cL]


end Go.Proofs.Ytngkckefanbhgaa

/-
  Plain data and what the functions compute, without the program.
-/
namespace Go.Proofs.Ytngkckefanbhgaa
open Go

/-- The first answer that is not 0, from the place k on. -/
def fe (e : Nat → Int) (k : Nat) : Nat → Int
  | 0 => 0
  | n + 1 => if e k = 0 then fe e (k + 1) n else e k
theorem fe_zero (e : Nat → Int) (k : Nat) : fe e k 0 = 0 := rfl
theorem fe_hit {e : Nat → Int} {k N : Nat} (h : e k ≠ 0) (hk : k < N) : fe e k (N - k) = e k := by
  obtain ⟨n, hn⟩ : ∃ n, N - k = n + 1 := ⟨N - k - 1, by omega⟩
  rw [hn]; simp [fe, h]
theorem fe_skip {e : Nat → Int} {k N : Nat} (h : e k = 0) (hk : k < N) : fe e k (N - k) = fe e (k + 1) (N - (k + 1)) := by
  obtain ⟨n, hn⟩ : ∃ n, N - k = n + 1 := ⟨N - k - 1, by omega⟩
  rw [hn, show N - (k + 1) = n by omega]; simp [fe, h]
theorem fe_end {e : Nat → Int} {k N : Nat} (hk : N ≤ k) : fe e k (N - k) = 0 := by
  rw [show N - k = 0 by omega]; rfl
theorem fe_zero_iff {e : Nat → Int} : ∀ {n k : Nat}, fe e k n = 0 ↔ ∀ j, k ≤ j → j < k + n → e j = 0 := by
  intro n
  induction n with
  | zero => intro k; simp only [fe, true_iff]; intro j h1 h2; omega
  | succ n ih =>
    intro k
    simp only [fe]
    split
    · rename_i h
      rw [ih]
      constructor
      · intro hh j h1 h2
        by_cases hj : j = k
        · subst hj; exact h
        · exact hh j (by omega) (by omega)
      · intro hh j h1 h2; exact hh j (by omega) (by omega)
    · rename_i h
      constructor
      · intro hh; exact (h hh).elim
      · intro hh; exact hh k (Nat.le_refl _) (by omega)

/-- The first place at which p holds, from the place k on. -/
def fi (p : Nat → Bool) (k : Nat) : Nat → Int
  | 0 => -1
  | n + 1 => if p k then k else fi p (k + 1) n
theorem fi_hit {p : Nat → Bool} {k N : Nat} (h : p k = true) (hk : k < N) : fi p k (N - k) = k := by
  obtain ⟨n, hn⟩ : ∃ n, N - k = n + 1 := ⟨N - k - 1, by omega⟩
  rw [hn]; simp [fi, h]
theorem fi_skip {p : Nat → Bool} {k N : Nat} (h : p k = false) (hk : k < N) : fi p k (N - k) = fi p (k + 1) (N - (k + 1)) := by
  obtain ⟨n, hn⟩ : ∃ n, N - k = n + 1 := ⟨N - k - 1, by omega⟩
  rw [hn, show N - (k + 1) = n by omega]; simp [fi, h]
theorem fi_end {p : Nat → Bool} {k N : Nat} (hk : N ≤ k) : fi p k (N - k) = -1 := by
  rw [show N - k = 0 by omega]; rfl
theorem fi_fe (p : Nat → Bool) (c : Int) (hc : c ≠ 0) : ∀ n k, decide (0 ≤ fi p k n) = decide (fe (fun j => if p j then c else 0) k n = c) ∧ (fe (fun j => if p j then c else 0) k n = 0 ∨ fe (fun j => if p j then c else 0) k n = c) := by
  intro n
  induction n with
  | zero => intro k; simp [fi, fe, Ne.symm hc]
  | succ n ih =>
    intro k
    simp only [fi, fe]
    by_cases h : p k = true
    · simp [h, hc]
    · simp only [h, if_false, if_true]
      simpa using ih (k + 1)

theorem take_map_len {α β : Type} (f : α → β) (l : List α) : (l.map f).take l.length = l.map f := by
  rw [← List.length_map (f := f), List.take_length]

theorem fzv_ms {z : Bool} {H : Heap} {n id ver off len : Nat} (hn : n ≠ 0) (h : ((H id).live && decide ((H id).ver = ver)) = true) (hc : canonLL (((H id).rows.drop off).take len) = true) :
    fzv z H n (.ms id ver off len) = .sl (((H id).rows.drop off).take len) := by
  obtain ⟨m, rfl⟩ := Nat.exists_eq_succ_of_ne_zero hn
  simp only [fzv]
  rw [if_pos h]
  congr 1
  conv => rhs; rw [← List.map_id (((H id).rows.drop off).take len)]
  refine List.map_congr_left fun r hr => fzv_mapcanon m r (canonLL_iff.1 hc r hr)

theorem take_succ_nth {α : Type} [Inhabited α] {l : List α} {k : Nat} (h : k < l.length) : l.take (k + 1) = l.take k ++ [nth l k] := by
  rw [← nth_getElem h, List.take_succ_eq_append_getElem h]

/-! Words. -/

def wE (w : List Int) (n : Int) (k : Nat) : Int := if nth w k < 0 ∨ n ≤ nth w k then 1 else 0
def wchk (w : List Int) (n : Int) : Int :=
  if n < 1 ∨ 1024 < n then 2 else if 1024 < w.length then 3 else fe (wE w n) 0 w.length

/-! Machines. -/

structure M where
  i : Int
  s : Int
  nx : List (List Int)
  ot : List (List Int)
abbrev mC (m : M) : List V := [iV m.i, iV m.s, intss m.nx, intss m.ot]
abbrev mV (m : M) : V := .agg (mC m)
abbrev mB (m : M) : Blk := ⟨1, true, false, 24, 4, [mC m]⟩

def cell (l : List (List Int)) (s a : Int) : Int := nth (nth l s.toNat) a.toNat

def celE (m : M) (s a : Nat) : Int := if nth (nth m.nx s) a < 0 ∨ m.nx.length ≤ nth (nth m.nx s) a ∨ nth (nth m.ot s) a < 0 ∨ 1048576 < nth (nth m.ot s) a then 2 else 0
def rowE (m : M) (s : Nat) : Int :=
  if ((nth m.nx s).length : Int) ≠ m.i ∨ ((nth m.ot s).length : Int) ≠ m.i then 1
  else fe (celE m s) 0 m.i.toNat

def mval (m : M) : Int :=
  if m.i < 1 ∨ 64 < m.i then 2 else if m.nx.length = 0 then 19 else if 128 < m.nx.length then 11 else if m.s < 0 ∨ m.nx.length ≤ m.s then 2
  else if m.ot.length ≠ m.nx.length then 1 else fe (rowE m) 0 m.nx.length

def outs (m : M) : Int → List Int → List Int
  | _, [] => []
  | s, a :: w => cell m.ot s a :: outs m (cell m.nx s a) w
def goal (m : M) : Int → List Int → Int
  | s, [] => s
  | s, a :: w => goal m (cell m.nx s a) w
theorem outs_len (m : M) : ∀ (w : List Int) (s : Int), (outs m s w).length = w.length
  | [], _ => rfl
  | a :: w, s => by simp [outs, outs_len m w]
theorem outs_append (m : M) : ∀ (u v : List Int) (s : Int), outs m s (u ++ v) = outs m s u ++ outs m (goal m s u) v
  | [], _, _ => rfl
  | a :: u, v, s => by simp [outs, goal, outs_append m u v]
theorem goal_append (m : M) : ∀ (u v : List Int) (s : Int), goal m s (u ++ v) = goal m (goal m s u) v
  | [], _, _ => rfl
  | a :: u, v, s => by simp [goal, goal_append m u v]
theorem outs_step (m : M) (s : Int) {w : List Int} {k : Nat} (h : k < w.length) : outs m s (w.take (k + 1)) = outs m s (w.take k) ++ [cell m.ot (goal m s (w.take k)) (nth w k)] := by
  rw [take_succ_nth h, outs_append]; rfl
theorem goal_step (m : M) (s : Int) {w : List Int} {k : Nat} (h : k < w.length) : goal m s (w.take (k + 1)) = cell m.nx (goal m s (w.take k)) (nth w k) := by
  rw [take_succ_nth h, goal_append]; rfl

theorem mval_ok {m : M} (h : mval m = 0) : 1 ≤ m.i ∧ m.i ≤ 64 ∧ 0 < m.nx.length ∧ m.nx.length ≤ 128 ∧ 0 ≤ m.s ∧ m.s < m.nx.length ∧ m.ot.length = m.nx.length ∧
    (∀ s, s < m.nx.length → ((nth m.nx s).length : Int) = m.i ∧ ((nth m.ot s).length : Int) = m.i ∧ ∀ a : Nat, a < m.i → 0 ≤ nth (nth m.nx s) a ∧ nth (nth m.nx s) a < m.nx.length ∧ 0 ≤ nth (nth m.ot s) a ∧ nth (nth m.ot s) a ≤ 1048576) := by
  unfold mval at h
  split at h; · cases h
  rename_i h1
  split at h; · cases h
  rename_i h2
  split at h; · cases h
  rename_i h3
  split at h; · cases h
  rename_i h4
  split at h; · cases h
  rename_i h5
  refine ⟨by omega, by omega, by omega, by omega, by omega, by omega, by omega, fun s hs => ?_⟩
  have h6 := fe_zero_iff.1 h s (Nat.zero_le _) (by omega)
  unfold rowE at h6
  split at h6; · cases h6
  rename_i h7
  refine ⟨by omega, by omega, fun a ha => ?_⟩
  have h8 := fe_zero_iff.1 h6 a (Nat.zero_le _) (by omega)
  unfold celE at h8
  split at h8
  · cases h8
  · omega

theorem wchk_ok {w : List Int} {n : Int} (h : wchk w n = 0) : w.length ≤ 1024 ∧ ∀ k, k < w.length → 0 ≤ nth w k ∧ nth w k < n := by
  unfold wchk at h
  split at h; · cases h
  split at h; · cases h
  refine ⟨by omega, fun k hk => ?_⟩
  have := fe_zero_iff.1 h k (Nat.zero_le _) (by omega)
  unfold wE at this
  split at this
  · cases this
  · omega

theorem goal_in {m : M} (h : mval m = 0) : ∀ (w : List Int) (s : Int), 0 ≤ s → s < m.nx.length → (∀ k, k < w.length → 0 ≤ nth w k ∧ nth w k < m.i) → 0 ≤ goal m s w ∧ goal m s w < m.nx.length
  | [], s, h0, h1, _ => ⟨h0, h1⟩
  | a :: w, s, h0, h1, hw => by
    have ha : 0 ≤ a ∧ a < m.i := by simpa [nth] using hw 0 (by simp)
    have hc := (mval_ok h).2.2.2.2.2.2.2 s.toNat (by omega)
    have hr := hc.2.2 a.toNat (by omega)
    refine goal_in h w (cell m.nx s a) ?_ ?_ fun k hk => by simpa [nth] using hw (k + 1) (by simp; omega)
    · exact hr.1
    · exact hr.2.1
theorem goal_take {m : M} (h : mval m = 0) {w : List Int} {s : Int} (h0 : 0 ≤ s) (h1 : s < m.nx.length) (hw : ∀ k, k < w.length → 0 ≤ nth w k ∧ nth w k < m.i) (k : Nat) : 0 ≤ goal m s (w.take k) ∧ goal m s (w.take k) < m.nx.length := by
  refine goal_in h _ s h0 h1 fun j hj => ?_
  have : nth (w.take k) j = nth w j := by
    simp only [List.length_take] at hj
    rw [← nth_getElem (by simp; omega), ← nth_getElem (by omega), List.getElem_take]
  rw [this]; exact hw j (by simp at hj; omega)

def stE (m : M) (s : Int) : Int := if mval m ≠ 0 then mval m else if s < 0 ∨ (m.nx.length : Int) ≤ s then 2 else 0
def inE (w : List Int) (n : Int) (k : Nat) : Bool := decide (nth w k < 0 ∨ n ≤ nth w k)
theorem wE_in (w : List Int) (n : Int) : wE w n = fun j => if inE w n j then 1 else 0 := by
  funext j; simp [wE, inE]
theorem in_fe (w : List Int) (n : Int) (c k : Nat) : (0 ≤ fi (inE w n) k c ↔ fe (wE w n) k c = 1) ∧ (fe (wE w n) k c = 0 ∨ fe (wE w n) k c = 1) := by
  rw [wE_in]
  have h := fi_fe (inE w n) 1 (by decide) c k
  exact ⟨by simpa using decide_eq_decide.1 h.1, h.2⟩

theorem stE_ok {m : M} {s : Int} (h : stE m s = 0) : mval m = 0 ∧ 0 ≤ s ∧ s < m.nx.length := by
  unfold stE at h
  split at h
  · contradiction
  · split at h
    · cases h
    · omega
def frE (m : M) (s : Int) (w : List Int) : Int := if stE m s ≠ 0 then stE m s else wchk w m.i
def frOut (m : M) (s : Int) (w : List Int) : List Int := if frE m s w ≠ 0 then [] else outs m s w
def frEnd (m : M) (s : Int) (w : List Int) : Int := if frE m s w ≠ 0 then 0 else goal m s w
/-- What a run of a valid machine meets. -/
theorem run_at {m : M} (hm : mval m = 0) {s : Int} (hs : 0 ≤ s ∧ s < m.nx.length) {w : List Int} (hw : ∀ k, k < w.length → 0 ≤ nth w k ∧ nth w k < m.i) {k : Nat} (hk : k < w.length) :
    (0 ≤ goal m s (w.take k) ∧ goal m s (w.take k) < m.nx.length ∧ m.ot.length = m.nx.length) ∧ 0 ≤ nth w k ∧ nth w k < (nth m.nx (goal m s (w.take k)).toNat).length ∧ nth w k < (nth m.ot (goal m s (w.take k)).toNat).length := by
  have h1 := goal_take hm hs.1 hs.2 hw k
  have h2 := mval_ok hm
  have h3 := h2.2.2.2.2.2.2.2 (goal m s (w.take k)).toNat (by omega)
  have h4 := hw k hk
  omega

/-! Hypotheses. -/

structure Hy where
  m : M
  acc : List (List Int)
abbrev hC (h : Hy) : List V := [iV h.m.i, iV h.m.s, intss h.m.nx, intss h.m.ot, intss h.acc]
abbrev hV (h : Hy) : V := .agg (hC h)
abbrev hB (h : Hy) : Blk := ⟨1, true, false, 26, 5, [hC h]⟩

def accE (h : Hy) (s : Nat) : Int :=
  if wchk (nth h.acc s) h.m.i ≠ 0 then wchk (nth h.acc s) h.m.i else if goal h.m h.m.s (nth h.acc s) ≠ s then 15 else 0

def hval (h : Hy) : Int :=
  if mval h.m ≠ 0 then mval h.m else if h.acc.length ≠ h.m.nx.length then 1
  else if fe (accE h) 0 h.acc.length ≠ 0 then fe (accE h) 0 h.acc.length else if (nth h.acc h.m.s.toNat).length ≠ 0 then 10 else 0

theorem accE_of {h : Hy} (hv : mval h.m = 0) (k : Nat) : accE h k = if frE h.m h.m.s (nth h.acc k) ≠ 0 then frE h.m h.m.s (nth h.acc k) else if frEnd h.m h.m.s (nth h.acc k) ≠ k then 15 else 0 := by
  have h1 := mval_ok hv
  have e : frE h.m h.m.s (nth h.acc k) = wchk (nth h.acc k) h.m.i := by
    rw [frE, if_neg]
    rw [stE, if_neg (by omega), if_neg (by omega)]; simp
  unfold frEnd
  rw [e, accE]
  split
  · rfl
  · rfl

def longE (l : List (List Int)) (k : Nat) : Int := if 200 < (nth l k).length then 1 else 0

end Go.Proofs.Ytngkckefanbhgaa

/-
  One rule for each operation, over values that are known.
-/
namespace Go.Proofs.Ytngkckefanbhgaa
open Go

def ldB (agg : Bool) (n : Nat) (B : Blk) (ver row off : Nat) : Option V := if (B.own && decide (B.ver = ver)) = true then (B.rows[row]?).bind fun r => ldV agg n (r.drop off) else none
def okB (B : Blk) (ver : Nat) : Bool := B.own && decide (B.ver = ver)
def stB (B : Blk) (ver row off n : Nat) (vs : List V) : Option Blk := if okB B ver = true then if vs.length = n then if vs.all V.one = true then match B.rows[row]? with
    | some r => if off + n ≤ r.length then some { B with rows := B.rows.set row (putAt r off vs) } else none
    | none => none
  else none else none else none

section
variable {P : Program} {k0 : Nat} {K : (Nat → V) → Heap → Prop} {T : Nat → V} {H : Heap} {r : List SO} {d : Nat} {a b c : SX} {v u : V}

theorem R_nil (h : K T H) : Ops P k0 [] T H K := h
theorem R_mv (ha : ev T a = v) (h : Ops P k0 r (upd T d v) H K) : Ops P k0 (⟨none, some d, .mv a⟩ :: r) T H K := by subst ha; exact h
theorem R_lazy {i n ty sz : Nat} (hi : k0 + d = i) (hv : (H i).ver = n) (h : Ops P k0 r (upd T d (.ms i (n + 1) 0 0)) (upd H i ⟨n + 1, true, true, ty, sz, []⟩) K) : Ops P k0 (⟨none, some d, .lazy ty sz⟩ :: r) T H K := by
  subst hi; subst hv; exact h
theorem R_alloc {i n ty m : Nat} {z : List V} (hi : k0 + d = i) (hv : (H i).ver = n) (hm : z.length = m) (h : Ops P k0 r (upd T d (.mp i (n + 1) 0 0)) (upd H i ⟨n + 1, true, false, ty, m, [z]⟩) K) : Ops P k0 (⟨none, some d, .alloc ty z⟩ :: r) T H K := by
  subst hi; subst hv; subst hm; exact h
theorem R_box {i n ty q m : Nat} {cs : List V} (hi : k0 + d = i) (hv : (H i).ver = n) (ha : ev T a = v) (hc : v.cells = cs) (hm : cs.length = m) (h : Ops P k0 r (upd T d (.mp i (n + 1) 0 0)) (upd H i ⟨n + 1, true, false, ty, m, [cs]⟩) K) :
    Ops P k0 (⟨none, some d, .box ty q a⟩ :: r) T H K := by
  subst hi; subst hv; subst ha; subst hc; subst hm; exact h
theorem on_some {α : Type} {o : Option α} {x : α} {k : α → Prop} (ho : o = some x) (h : k x) : onS o k := by rw [ho]; exact h
theorem stp {q : X} {o : Option V} (hS : ∀ k : V → Heap → Prop, St P (k0 + d) q T H k = onS o fun v => k v H) (ho : o = some v) (h : Ops P k0 r (upd T d v) H K) : Ops P k0 (⟨none, some d, q⟩ :: r) T H K := by
  simp only [Ops, Option.getD_some, hS, ho, onS_some]; exact h
theorem R_load_pp {agg : Bool} {n : Nat} {cs : List V} (ha : ev T a = .pp cs) (hg : ldV agg n cs = some v) (h : Ops P k0 r (upd T d v) H K) : Ops P k0 (⟨none, some d, .load agg n a⟩ :: r) T H K := by
  refine stp (v := v) (fun _ => rfl) ?_ h
  rw [ha]; exact hg
theorem R_load_mp {agg : Bool} {n id ver row off : Nat} {B : Blk} (ha : ev T a = .mp id ver row off) (hH : H id = B) (hg : ldB agg n B ver row off = some v) (h : Ops P k0 r (upd T d v) H K) : Ops P k0 (⟨none, some d, .load agg n a⟩ :: r) T H K := by
  subst hH
  refine stp (v := v) (fun _ => rfl) ?_ h
  rw [ha]
  simp only [ptr]
  unfold ldB at hg
  split at hg
  · rename_i hc
    rw [if_pos (show ok H id ver = true from hc)]
    cases hr : (H id).rows[row]? with
    | none => rw [hr] at hg; cases hg
    | some w => rw [hr] at hg; exact hg
  · cases hg
theorem R_fld_pp {off : Nat} {cs cs' : List V} (ha : ev T a = .pp cs) (hd : cs.drop off = cs') (h : Ops P k0 r (upd T d (.pp cs')) H K) : Ops P k0 (⟨none, some d, .fld off a⟩ :: r) T H K := by
  subst hd
  refine stp (v := .pp (cs.drop off)) (fun _ => rfl) ?_ h
  rw [ha]; rfl
theorem R_fld_mp {off id ver row o o' : Nat} {B : Blk} (ha : ev T a = .mp id ver row o) (hH : H id = B) (hok : okB B ver = true) (ho : o + off = o') (h : Ops P k0 r (upd T d (.mp id ver row o')) H K) : Ops P k0 (⟨none, some d, .fld off a⟩ :: r) T H K := by
  subst ho; subst hH
  refine stp (v := .mp id ver row (o + off)) (fun _ => rfl) ?_ h
  rw [ha]; simp only [fldV]; exact if_pos (show ok H id ver = true from hok)
theorem R_store {n id ver row off : Nat} {B B' : Blk} {vs : List V} (ha : ev T a = .mp id ver row off) (hb : ev T b = v) (hc : v.cells = vs) (hH : H id = B) (hst : stB B ver row off n vs = some B') (h : Ops P k0 r T (upd H id B') K) :
    Ops P k0 (⟨none, none, .store n a b⟩ :: r) T H K := by
  subst hH; subst hc; subst hb
  simp only [Ops, St]
  refine on_some (x := upd H id B') ?_ h
  rw [ha]
  unfold stB at hst
  simp only [stP]
  by_cases h1 : ok H id ver = true
  · rw [if_pos (show okB (H id) ver = true from h1)] at hst
    rw [if_pos h1]
    by_cases h2 : (ev T b).cells.length = n
    · rw [if_pos h2] at hst ⊢
      by_cases h3 : (ev T b).cells.all V.one = true
      · rw [if_pos h3] at hst ⊢
        cases hw : (H id).rows[row]? with
        | none => rw [hw] at hst; cases hst
        | some w =>
          rw [hw] at hst
          simp only at hst ⊢
          by_cases h4 : off + n ≤ w.length
          · rw [if_pos h4] at hst ⊢; cases hst; rfl
          · rw [if_neg h4] at hst; cases hst
      · rw [if_neg h3] at hst; cases hst
    · rw [if_neg h2] at hst; cases hst
  · rw [if_neg (show ¬okB (H id) ver = true from h1)] at hst; cases hst
theorem R_nilck_mp {id ver row o : Nat} {B : Blk} (ha : ev T a = .mp id ver row o) (hH : H id = B) (hok : okB B ver = true) (h : Ops P k0 r (upd T d (.mp id ver row o)) H K) : Ops P k0 (⟨none, some d, .nilck a⟩ :: r) T H K := by
  subst hH
  refine stp (v := .mp id ver row o) (fun _ => rfl) ?_ h
  rw [ha]; simp only [nilckV]; exact if_pos (show ok H id ver = true from hok)
theorem R_nilck_pp {cs : List V} (ha : ev T a = .pp cs) (h : Ops P k0 r (upd T d (.pp cs)) H K) : Ops P k0 (⟨none, some d, .nilck a⟩ :: r) T H K := by
  refine stp (v := .pp cs) (fun _ => rfl) ?_ h
  rw [ha]; rfl
theorem R_nilck_fn {f : Nat} {x y : List V} (ha : ev T a = .fn f x y) (h : Ops P k0 r (upd T d (.fn f x y)) H K) : Ops P k0 (⟨none, some d, .nilck a⟩ :: r) T H K := by
  refine stp (v := .fn f x y) (fun _ => rfl) ?_ h
  rw [ha]; rfl

/-! Numbers. -/

variable {x y : Int}
theorem R_bin {op : BinOp} {w : V} (ha : ev T a = u) (hb : ev T b = w) (hg : intBin op u w = some v) (h : Ops P k0 r (upd T d v) H K) : Ops P k0 (⟨none, some d, .bin op a b⟩ :: r) T H K := by
  refine stp (v := v) (fun _ => rfl) ?_ h
  rw [ha, hb]; exact hg
theorem R_add (ha : ev T a = iV x) (hb : ev T b = iV y) (h1 : -9223372036854775808 ≤ x + y) (h2 : x + y < 9223372036854775808) (h : Ops P k0 r (upd T d (iV (x + y))) H K) : Ops P k0 (⟨none, some d, .bin .add a b⟩ :: r) T H K :=
  R_bin ha hb (by simp only [intBin, if_true, wrap_in h1 h2]) h
theorem R_addN {m n : Nat} (ha : ev T a = iV (m : Nat)) (hb : ev T b = iV (n : Nat)) (h2 : m + n < 9223372036854775808) (h : Ops P k0 r (upd T d (iV ((m + n : Nat) : Int))) H K) : Ops P k0 (⟨none, some d, .bin .add a b⟩ :: r) T H K :=
  R_add ha hb (by omega) (by omega) (by rw [← Int.natCast_add]; exact h)
theorem R_sub (ha : ev T a = iV x) (hb : ev T b = iV y) (h1 : -9223372036854775808 ≤ x - y) (h2 : x - y < 9223372036854775808) (h : Ops P k0 r (upd T d (iV (x - y))) H K) : Ops P k0 (⟨none, some d, .bin .sub a b⟩ :: r) T H K :=
  R_bin ha hb (by simp only [intBin, if_true, wrap_in h1 h2]) h
theorem R_mul (ha : ev T a = iV x) (hb : ev T b = iV y) (h1 : -9223372036854775808 ≤ x * y) (h2 : x * y < 9223372036854775808) (h : Ops P k0 r (upd T d (iV (x * y))) H K) : Ops P k0 (⟨none, some d, .bin .mul a b⟩ :: r) T H K :=
  R_bin ha hb (by simp only [intBin, if_true, wrap_in h1 h2]) h
theorem R_lss (ha : ev T a = iV x) (hb : ev T b = iV y) (h : Ops P k0 r (upd T d (.bool (decide (x < y)))) H K) : Ops P k0 (⟨none, some d, .bin .lss a b⟩ :: r) T H K := R_bin ha hb (by simp only [intBin, if_true]) h
theorem R_leq (ha : ev T a = iV x) (hb : ev T b = iV y) (h : Ops P k0 r (upd T d (.bool (decide (x ≤ y)))) H K) : Ops P k0 (⟨none, some d, .bin .leq a b⟩ :: r) T H K := R_bin ha hb (by simp only [intBin, if_true]) h
theorem R_gtr (ha : ev T a = iV x) (hb : ev T b = iV y) (h : Ops P k0 r (upd T d (.bool (decide (y < x)))) H K) : Ops P k0 (⟨none, some d, .bin .gtr a b⟩ :: r) T H K := R_bin ha hb (by simp only [intBin, if_true]) h
theorem R_geq (ha : ev T a = iV x) (hb : ev T b = iV y) (h : Ops P k0 r (upd T d (.bool (decide (y ≤ x)))) H K) : Ops P k0 (⟨none, some d, .bin .geq a b⟩ :: r) T H K := R_bin ha hb (by simp only [intBin, if_true]) h
theorem R_eql (ha : ev T a = iV x) (hb : ev T b = iV y) (h : Ops P k0 r (upd T d (.bool (decide (x = y)))) H K) : Ops P k0 (⟨none, some d, .bin .eql a b⟩ :: r) T H K := R_bin ha hb (by simp only [intBin, if_true]; rfl) h
theorem R_neq (ha : ev T a = iV x) (hb : ev T b = iV y) (h : Ops P k0 r (upd T d (.bool (decide (x ≠ y)))) H K) : Ops P k0 (⟨none, some d, .bin .neq a b⟩ :: r) T H K := R_bin ha hb (by simp only [intBin, if_true]; by_cases e : x = y <;> simp [e, bne]) h
theorem R_not {p : Prop} [Decidable p] (ha : ev T a = .bool (decide p)) (h : Ops P k0 r (upd T d (.bool (decide (¬p)))) H K) : Ops P k0 (⟨none, some d, .un .not a⟩ :: r) T H K := by
  refine stp (v := .bool (decide (¬p))) (fun _ => rfl) ?_ h
  rw [ha]; simp [unV]
theorem R_notb {q : Bool} (ha : ev T a = .bool q) (h : Ops P k0 r (upd T d (.bool (!q))) H K) : Ops P k0 (⟨none, some d, .un .not a⟩ :: r) T H K := by
  refine stp (v := .bool (!q)) (fun _ => rfl) ?_ h
  rw [ha]; rfl
theorem R_mnN {m n : Nat} (ha : ev T a = iV (m : Nat)) (hb : ev T b = iV (n : Nat)) (h : Ops P k0 r (upd T d (iV ((min m n : Nat) : Int))) H K) : Ops P k0 (⟨none, some d, .mn a b⟩ :: r) T H K := by
  refine stp (v := iV ((min m n : Nat) : Int)) (fun _ => rfl) ?_ h
  rw [ha, hb]
  simp only [mnV]
  congr 2
  split <;> omega
theorem R_pickT (hc : ev T c = .bool true) (ha : ev T a = v) (h : Ops P k0 r (upd T d v) H K) : Ops P k0 (⟨none, some d, .pick c a b⟩ :: r) T H K := by
  subst ha
  simp only [Ops, St, hc, asB, onS_some]; exact h
theorem R_pickF (hc : ev T c = .bool false) (hb : ev T b = v) (h : Ops P k0 r (upd T d v) H K) : Ops P k0 (⟨none, some d, .pick c a b⟩ :: r) T H K := by
  subst hb
  simp only [Ops, St, hc, asB, onS_some]; exact h

/-! Slices. -/

theorem R_idx {α : Type} [Inhabited α] {e : Nat} {l : List α} {f : α → List V} {k : IntKind} {i : Nat} (ha : ev T a = .sl (l.map f)) (hb : ev T b = .int k (i : Nat)) (hi : i < l.length) (he : (f (nth l i)).length = e)
    (h : Ops P k0 r (upd T d (.pp (f (nth l i)))) H K) : Ops P k0 (⟨none, some d, .idx e a b⟩ :: r) T H K := by
  refine stp (v := .pp (f (nth l i))) (fun _ => rfl) ?_ h
  rw [ha, hb]
  simp only [idxV]
  rw [rowAt_map f l i (by omega) (by omega)]
  simp [he]
theorem R_idxI {α : Type} [Inhabited α] {e : Nat} {l : List α} {f : α → List V} {k : IntKind} {i : Int} (ha : ev T a = .sl (l.map f)) (hb : ev T b = .int k i) (h0 : 0 ≤ i) (hi : i < l.length) (he : (f (nth l i.toNat)).length = e)
    (h : Ops P k0 r (upd T d (.pp (f (nth l i.toNat)))) H K) : Ops P k0 (⟨none, some d, .idx e a b⟩ :: r) T H K := by
  refine stp (v := .pp (f (nth l i.toNat))) (fun _ => rfl) ?_ h
  rw [ha, hb]
  simp only [idxV]
  rw [rowAt_map f l i h0 hi]
  simp [he]
theorem R_idx_lit {e : Nat} {rows : List (List V)} {row : List V} {k : IntKind} {i : Int} (ha : ev T a = .sl rows) (hb : ev T b = .int k i) (hi : rowAt rows i = some row) (he : row.length = e)
    (h : Ops P k0 r (upd T d (.pp row)) H K) : Ops P k0 (⟨none, some d, .idx e a b⟩ :: r) T H K := by
  refine stp (v := .pp row) (fun _ => rfl) ?_ h
  rw [ha, hb]
  simp [idxV, hi, he]
theorem R_idx_ms {e id ver off len i : Nat} {B : Blk} {k : IntKind} (ha : ev T a = .ms id ver off len) (hb : ev T b = .int k (i : Nat)) (hH : H id = B) (hok : okB B ver = true) (hs : B.sz = e) (hi : i < len)
    (h : Ops P k0 r (upd T d (.mp id ver (off + i) 0)) H K) : Ops P k0 (⟨none, some d, .idx e a b⟩ :: r) T H K := by
  subst hH
  refine stp (v := .mp id ver (off + i) 0) (fun _ => rfl) ?_ h
  rw [ha, hb]
  simp only [idxV]
  rw [if_pos (show ok H id ver = true from hok), if_pos hs, if_pos (by omega)]
  simp
theorem R_len {α : Type} {l : List α} {f : α → List V} (ha : ev T a = .sl (l.map f)) (h : Ops P k0 r (upd T d (iV (l.length : Nat))) H K) : Ops P k0 (⟨none, some d, .len a⟩ :: r) T H K := by
  refine stp (v := iV (l.length : Nat)) (fun _ => rfl) ?_ h
  rw [ha]; simp [lenV]
theorem R_len_lit {rows : List (List V)} {n : Nat} (ha : ev T a = .sl rows) (hn : rows.length = n) (h : Ops P k0 r (upd T d (iV (n : Nat))) H K) : Ops P k0 (⟨none, some d, .len a⟩ :: r) T H K := by
  subst hn
  refine stp (v := iV (rows.length : Nat)) (fun _ => rfl) ?_ h
  rw [ha]; rfl
theorem R_len_nil (ha : ev T a = .nilsl) (h : Ops P k0 r (upd T d (iV ((0 : Nat) : Int))) H K) : Ops P k0 (⟨none, some d, .len a⟩ :: r) T H K := by
  refine stp (v := iV ((0 : Nat) : Int)) (fun _ => rfl) ?_ h
  rw [ha]; rfl
theorem R_len_ms {id ver off len : Nat} {B : Blk} (ha : ev T a = .ms id ver off len) (hH : H id = B) (hok : (B.live && decide (B.ver = ver)) = true) (h : Ops P k0 r (upd T d (iV (len : Nat))) H K) : Ops P k0 (⟨none, some d, .len a⟩ :: r) T H K := by
  subst hH
  refine stp (v := iV (len : Nat)) (fun _ => rfl) ?_ h
  rw [ha]; exact if_pos hok

theorem all_len {α : Type} {f : α → List V} {e : Nat} (he : ∀ x, (f x).length = e) (l : List α) : (l.map f).all (fun r => r.length == e) = true := by
  rw [List.all_eq_true]; intro r hr; obtain ⟨x, _, rfl⟩ := List.mem_map.1 hr; simp [he]
theorem slice_S {α : Type} {f : α → List V} {e : Nat} (he : ∀ x, (f x).length = e) (l : List α) {lo hi : Nat} {olo ohi : Option V} (h1 : boundV 0 olo = some lo) (h2 : boundV l.length ohi = some hi) (h3 : lo ≤ hi) (h4 : hi ≤ l.length) :
    sliceV H e olo ohi (.sl (l.map f)) = some (.sl (((l.take hi).drop lo).map f)) := by
  simp only [sliceV]
  rw [List.length_map, h1, h2]
  simp only [Option.bind_some]
  rw [if_pos h3, if_pos (by simpa using h4), if_pos (all_len he l), List.map_drop, List.map_take]
theorem bnd_some' {o : Option V} {dd n : Nat} {k : IntKind} {w : V} (ho : o = some w) (hw : w = .int k (n : Nat)) : boundV dd o = some n := by
  subst ho; subst hw
  simp only [boundV, natV]
  rw [if_pos (by omega)]; simp
theorem R_slice_lo {α : Type} {e n : Nat} {l : List α} {f : α → List V} {k : IntKind} {x : SX} (ha : ev T a = .sl (l.map f)) (hx : ev T x = .int k (n : Nat)) (hn : n ≤ l.length) (he : ∀ x, (f x).length = e)
    (h : Ops P k0 r (upd T d (.sl ((l.drop n).map f))) H K) : Ops P k0 (⟨none, some d, .slice e a (some x) none⟩ :: r) T H K := by
  refine stp (v := .sl ((l.drop n).map f)) (fun _ => rfl) ?_ h
  rw [ha]
  simp only [Option.map_some, Option.map_none]
  rw [slice_S he l (lo := n) (hi := l.length) (bnd_some' rfl hx) (by simp [boundV]) hn (Nat.le_refl _), List.take_length]
theorem R_slice_hi {α : Type} {e n : Nat} {l : List α} {f : α → List V} {k : IntKind} {x : SX} (ha : ev T a = .sl (l.map f)) (hx : ev T x = .int k (n : Nat)) (hn : n ≤ l.length) (he : ∀ x, (f x).length = e)
    (h : Ops P k0 r (upd T d (.sl ((l.take n).map f))) H K) : Ops P k0 (⟨none, some d, .slice e a none (some x)⟩ :: r) T H K := by
  refine stp (v := .sl ((l.take n).map f)) (fun _ => rfl) ?_ h
  rw [ha]
  simp only [Option.map_some, Option.map_none]
  rw [slice_S he l (lo := 0) (hi := n) (by simp [boundV]) (bnd_some' rfl hx) (Nat.zero_le _) hn, List.drop_zero]
theorem R_slice_lh {α : Type} {e m n : Nat} {l : List α} {f : α → List V} {k k' : IntKind} {x y : SX} (ha : ev T a = .sl (l.map f)) (hx : ev T x = .int k (m : Nat)) (hy : ev T y = .int k' (n : Nat)) (hm : m ≤ n) (hn : n ≤ l.length) (he : ∀ x, (f x).length = e)
    (h : Ops P k0 r (upd T d (.sl (((l.take n).drop m).map f))) H K) : Ops P k0 (⟨none, some d, .slice e a (some x) (some y)⟩ :: r) T H K := by
  refine stp (v := .sl (((l.take n).drop m).map f)) (fun _ => rfl) ?_ h
  rw [ha]
  simp only [Option.map_some, Option.map_none]
  rw [slice_S he l (lo := m) (hi := n) (bnd_some' rfl hx) (bnd_some' rfl hy) hm hn]
theorem R_build {z cs : List V} {ps : List (Nat × Nat × SX)} {qs : List (Nat × Nat × V)} (hq : ps.map (fun p => (p.1, p.2.1, ev T p.2.2)) = qs) (hb : bld z qs = some cs) (h : Ops P k0 r (upd T d (.agg cs)) H K) : Ops P k0 (⟨none, some d, .build z ps⟩ :: r) T H K := by
  simp only [Ops, St]
  rw [hq, hb]; exact h
theorem R_bslice {ty e len : Nat} {z : List V} {ps : List (Nat × SX)} {qs : List (Nat × V)} {rows : List (List V)} (hq : ps.map (fun p => (p.1, ev T p.2)) = qs) (hb : brows e (List.replicate len z) qs = some rows) (h : Ops P k0 r (upd T d (.sl rows)) H K) :
    Ops P k0 (⟨none, some d, .bslice ty e false z len ps⟩ :: r) T H K := by
  simp only [Ops, St]
  rw [hq, hb]; exact h
theorem R_bslice_own {ty e len i n : Nat} {z : List V} {ps : List (Nat × SX)} {qs : List (Nat × V)} {rows : List (List V)} (hi : k0 + d = i) (hv : (H i).ver = n) (hq : ps.map (fun p => (p.1, ev T p.2)) = qs) (hb : brows e (List.replicate len z) qs = some rows)
    (h : Ops P k0 r (upd T d (.ms i (n + 1) 0 rows.length)) (upd H i ⟨n + 1, true, false, ty, e, rows⟩) K) : Ops P k0 (⟨none, some d, .bslice ty e true z len ps⟩ :: r) T H K := by
  subst hi; subst hv
  simp only [Ops, St]
  rw [hq, hb]; exact h
theorem R_mks {ty e bytes i n : Nat} {z : List V} {m q : Nat} (hi : k0 + d = i) (hv : (H i).ver = n) (ha : ev T a = iV (m : Nat)) (hb : ev T b = iV (q : Nat)) (h1 : m ≤ q) (h2 : q * bytes ≤ 281474976710656) (h3 : q ≤ 9223372036854775807)
    (h : Ops P k0 r (upd T d (.ms i (n + 1) 0 m)) (upd H i ⟨n + 1, true, false, ty, e, List.replicate m z⟩) K) : Ops P k0 (⟨none, some d, .mks ty e bytes z a b⟩ :: r) T H K := by
  subst hi; subst hv
  have e : mksV bytes (iV (m : Nat)) (iV (q : Nat)) = some (m, q) := by
    unfold mksV
    have h2' : (q : Int) * (bytes : Int) ≤ 281474976710656 := by have := Int.ofNat_le.2 h2; simpa using this
    exact (if_pos (by omega)).trans ((if_pos (by omega)).trans ((if_pos h2').trans ((if_pos (by omega)).trans rfl)))
  simp only [Ops, St]
  rw [ha, hb, e]; exact h
theorem R_append {ty e bytes id ver len : Nat} {lz : Bool} {rows new : List (List V)} (ha : ev T a = .ms id ver 0 len) (hH : H id = ⟨ver, true, lz, ty, e, rows⟩) (hl : len = rows.length) (hn : rowsOf H (ev T b) = some new) (hf : fitRows e new = true)
    (h1 : (len + new.length) * bytes ≤ 140737488355328) (h2 : len + new.length ≤ 9223372036854775807)
    (h : Ops P k0 r (upd T d (.ms id (ver + 1) 0 (len + new.length))) (upd H id ⟨ver + 1, true, lz, ty, e, rows ++ new⟩) K) : Ops P k0 (⟨none, some d, .append ty e bytes a b⟩ :: r) T H K := by
  simp only [Ops, St]
  rw [ha]
  simp only [hH]
  rw [if_pos (by simp), if_pos trivial, if_pos hl, if_pos trivial, if_pos trivial, hn, onS_some, if_pos hf, if_pos h1, if_pos h2]
  exact h
theorem fit_one {α : Type} {f : α → List V} {e : Nat} {x : α} (he : (f x).length = e) (h1 : (f x).all V.one = true) : fitRows e [f x] = true := by simp [fitRows, he, h1]
theorem R_append1 {α : Type} {ty e bytes id ver n : Nat} {lz : Bool} {l : List α} {f : α → List V} {x : α} (ha : ev T a = .ms id ver 0 n) (hH : H id = ⟨ver, true, lz, ty, e, l.map f⟩) (hn : n = l.length) (hb : ev T b = .sl [f x]) (he : (f x).length = e) (h1 : (f x).all V.one = true)
    (h2 : (n + 1) * bytes ≤ 140737488355328) (h3 : n + 1 ≤ 9223372036854775807)
    (h : Ops P k0 r (upd T d (.ms id (ver + 1) 0 (n + 1))) (upd H id ⟨ver + 1, true, lz, ty, e, (l ++ [x]).map f⟩) K) : Ops P k0 (⟨none, some d, .append ty e bytes a b⟩ :: r) T H K := by
  refine R_append ha hH (by simpa using hn) (new := [f x]) (by rw [hb]; rfl) (fit_one he h1) (by simpa using h2) (by simpa using h3) ?_
  rw [List.map_append] at h
  exact h
theorem R_appendS {α : Type} {ty e bytes id ver n : Nat} {lz : Bool} {l m : List α} {f : α → List V} (ha : ev T a = .ms id ver 0 n) (hH : H id = ⟨ver, true, lz, ty, e, l.map f⟩) (hn : n = l.length) (hb : ev T b = .sl (m.map f)) (he : ∀ x, (f x).length = e) (h1 : ∀ x, (f x).all V.one = true)
    (h2 : (n + m.length) * bytes ≤ 140737488355328) (h3 : n + m.length ≤ 9223372036854775807)
    (h : Ops P k0 r (upd T d (.ms id (ver + 1) 0 (n + m.length))) (upd H id ⟨ver + 1, true, lz, ty, e, (l ++ m).map f⟩) K) : Ops P k0 (⟨none, some d, .append ty e bytes a b⟩ :: r) T H K := by
  refine R_append ha hH (by simpa using hn) (new := m.map f) (by rw [hb]; rfl) ?_ (by simpa using h2) (by simpa using h3) ?_
  · simp only [fitRows, List.all_eq_true]
    intro r hr
    obtain ⟨x, _, rfl⟩ := List.mem_map.1 hr
    simp only [he, beq_self_eq_true, Bool.true_and]
    exact h1 x
  · rw [List.map_append, show m.length = (m.map f).length by simp] at h
    exact h

/-! Calls, functions, tuples. -/

theorem R_call {f : Nat} {args : List SX} {as0 us : List V} (he : evs T args = as0) (hc : PureC P f us v) (ha : as0.map (fzv true H 6) = us) (hp : pureL us = true) (hs : pureL as0 = true ∨ v.scalar = true) (h : Ops P k0 r (upd T d v) H K) :
    Ops P k0 (⟨none, some d, .call false f args⟩ :: r) T H K := by
  subst he
  exact CallK_z true 6 (k := fun v H' => Ops P k0 r (upd T d v) H' K) hc ha hp hs h
theorem R_callv {f : Nat} {first caps : List V} {g : SX} {args : List SX} {as0 us : List V} (hg : ev T g = .fn f first caps) (he : evs T args = as0) (hc : PureC P f us v) (ha : (first ++ as0 ++ caps).map (fzv true H 6) = us) (hp : pureL us = true)
    (hs : pureL (first ++ as0 ++ caps) = true ∨ v.scalar = true) (h : Ops P k0 r (upd T d v) H K) : Ops P k0 (⟨none, some d, .callv false g args⟩ :: r) T H K := by
  subst he
  simp only [Ops, St]
  rw [hg]
  exact CallK_z true 6 hc ha hp hs h
theorem R_callE {f : Nat} {args : List SX} {as0 : List V} {H' : Heap} (he : evs T args = as0) (hc : CallOK P f as0 H v H') (h : Ops P k0 r (upd T d v) H' K) : Ops P k0 (⟨none, some d, .call true f args⟩ :: r) T H K := by
  subst he
  exact CallK_E hc h
theorem R_ext {i : Nat} {vs : List V} (ha : ev T a = .tup vs) (hi : vs[i]? = some v) (h : Ops P k0 r (upd T d v) H K) : Ops P k0 (⟨none, some d, .ext a i⟩ :: r) T H K := by
  refine stp (v := v) (fun _ => rfl) ?_ h
  rw [ha]; exact hi
theorem R_mkf {f : Nat} {caps : List SX} {cs : List V} (he : evs T caps = cs) (h : Ops P k0 r (upd T d (.fn f [] cs)) H K) : Ops P k0 (⟨none, some d, .mkf f caps⟩ :: r) T H K := by
  subst he; exact h
theorem R_part {agg : Bool} {off n : Nat} (ha : ev T a = u) (hg : partV agg off n u = some v) (h : Ops P k0 r (upd T d v) H K) : Ops P k0 (⟨none, some d, .part agg off n a⟩ :: r) T H K := by
  refine stp (v := v) (fun _ => rfl) ?_ h
  rw [ha]; exact hg
theorem R_isnil_sl {neg : Bool} {rows : List (List V)} (ha : ev T a = .sl rows) (h1 : rows = [] → Ops P k0 r (upd T d (.bool (!neg))) H K) (h2 : Ops P k0 r (upd T d (.bool neg)) H K) : Ops P k0 (⟨none, some d, .isnil neg a⟩ :: r) T H K := by
  simp only [Ops, St]; rw [ha]; exact ⟨h1, h2⟩
theorem R_isnil_nil {neg : Bool} (ha : ev T a = .nilsl) (h : Ops P k0 r (upd T d (.bool (!neg))) H K) : Ops P k0 (⟨none, some d, .isnil neg a⟩ :: r) T H K := by
  simp only [Ops, St]; rw [ha]; exact h

/-! Guards. -/

theorem G_yes {t : Nat} {w : Bool} {od : Option Nat} {q : X} (ht : T t = .bool w) (h : Ops P k0 (⟨none, od, q⟩ :: r) T H K) : Ops P k0 (⟨some (t, w), od, q⟩ :: r) T H K := by
  simp only [Ops, ht, asB, onS_some] at h ⊢
  exact ⟨fun _ => h, fun hn => (hn rfl).elim⟩
theorem G_no {t : Nat} {w w' : Bool} {q : X} (ht : T t = .bool w') (hw : w' ≠ w) (h : Ops P k0 r (upd T d (.raw undef)) H K) : Ops P k0 (⟨some (t, w), some d, q⟩ :: r) T H K := by
  simp only [Ops, ht, asB, onS_some] at h ⊢
  exact ⟨fun hn => (hw hn).elim, fun _ => h⟩
theorem Ops_append (a b : List SO) : Ops P k0 (a ++ b) T H K ↔ Ops P k0 a T H fun T H => Ops P k0 b T H K := by
  induction a generalizing T H with
  | nil => exact Iff.rfl
  | cons o a ih =>
    simp only [List.cons_append, Ops]
    cases o.g with
    | none => simp only; rw [show (fun v H' => Ops P k0 (a ++ b) (putT T o.d v) H' K) = fun v H' => Ops P k0 a (putT T o.d v) H' fun T H => Ops P k0 b T H K from funext fun v => funext fun H' => propext ih]
    | some p => simp only [ih]
/-- A part of the region, by what is needed of it. -/
theorem Ops_seg (n : Nat) {ops : List SO} (R : (Nat → V) → Heap → Prop) (h1 : Ops P k0 (ops.take n) T H R) (h2 : ∀ T' H', R T' H' → Ops P k0 (ops.drop n) T' H' K) : Ops P k0 ops T H K := by
  rw [← List.take_append_drop n ops, Ops_append]
  exact Ops_mono h2 h1
theorem upd_out {α : Type} {T A : Nat → α} {l : List Nat} (h : ∀ j, j ∉ l → A j = T j) {d : Nat} {v : α} (hd : d ∈ l) : ∀ j, j ∉ l → upd A d v j = T j := by
  intro j hj
  rw [upd_ne _ _ fun e => hj (by rw [e]; exact hd)]
  exact h j hj
theorem dec_T {p : Prop} [Decidable p] (hp : p) : V.bool true = V.bool (decide p) := by simp [hp]
theorem dec_F {p : Prop} [Decidable p] (hp : ¬p) : V.bool false = V.bool (decide p) := by simp [hp]
theorem dec_orT {p q : Prop} [Decidable p] [Decidable q] (hp : p) : V.bool true = V.bool (decide (p ∨ q)) := by simp [hp]
theorem dec_orF {p q : Prop} [Decidable p] [Decidable q] (hp : ¬p) : V.bool (decide q) = V.bool (decide (p ∨ q)) := by simp [hp]
theorem dec_andF {p q : Prop} [Decidable p] [Decidable q] (hp : ¬p) : V.bool false = V.bool (decide (p ∧ q)) := by simp [hp]
theorem dec_andT {p q : Prop} [Decidable p] [Decidable q] (hp : p) : V.bool (decide q) = V.bool (decide (p ∧ q)) := by simp [hp]

end

section
variable {P : Program} {k0 : Nat} {Q : Ex → (Nat → V) → Heap → Prop} {T : Nat → V} {H : Heap}

theorem W_seq_if {c : SX} {a b r : SC} {p : Prop} [Decidable p] (hc : ev T c = .bool (decide p)) (h1 : p → W P k0 (.seq a r) Q T H) (h2 : ¬p → W P k0 (.seq b r) Q T H) : W P k0 (.seq (.cond c a b) r) Q T H :=
  W_seq_cond (bb := decide p) (by rw [hc]; rfl) (fun h => h1 (of_decide_eq_true h)) fun h => h2 (of_decide_eq_false h)
theorem W_if {c : SX} {a b : SC} {p : Prop} [Decidable p] (hc : ev T c = .bool (decide p)) (h1 : p → W P k0 a Q T H) (h2 : ¬p → W P k0 b Q T H) : W P k0 (.cond c a b) Q T H :=
  W_cond (bb := decide p) (by rw [hc]; rfl) (fun h => h1 (of_decide_eq_true h)) fun h => h2 (of_decide_eq_false h)
theorem W_seq_ifb {c : SX} {a b r : SC} {q : Bool} (hc : ev T c = .bool q) (h1 : q = true → W P k0 (.seq a r) Q T H) (h2 : q = false → W P k0 (.seq b r) Q T H) : W P k0 (.seq (.cond c a b) r) Q T H :=
  W_seq_cond (bb := q) (by rw [hc]; rfl) h1 h2
theorem W_ifb {c : SX} {a b : SC} {q : Bool} (hc : ev T c = .bool q) (h1 : q = true → W P k0 a Q T H) (h2 : q = false → W P k0 b Q T H) : W P k0 (.cond c a b) Q T H :=
  W_cond (bb := q) (by rw [hc]; rfl) h1 h2

/-- A region, by what is needed of it. -/
theorem W_seq_regc {ops : List SO} {b : SC} (R : (Nat → V) → Heap → Prop) (h : Ops P k0 ops T H R) (hk : ∀ T H, R T H → W P k0 b Q T H) : W P k0 (.seq (.reg ops) b) Q T H :=
  W_seq_reg fun _ hK => Ops_mono (fun T H hr => hK T H (hk T H hr)) h
theorem W_seq_dregc {ops : List SO} {b : SC} {late : List Nat} (R : (Nat → V) → Heap → Prop) (hl : ∀ d ∈ late, (H (k0 + d)).live = false) (h : Ops P k0 ops T H R) (hk : ∀ T H, R T H → W P k0 b Q T H) : W P k0 (.seq (.dreg late ops) b) Q T H :=
  W_seq_dreg hl fun _ hK => Ops_mono (fun T H hr => hK T H (hk T H hr)) h
theorem W_regc {ops : List SO} (R : (Nat → V) → Heap → Prop) (h : Ops P k0 ops T H R) (hk : ∀ T H, R T H → Q .norm T H) : W P k0 (.reg ops) Q T H :=
  Ops_mono hk h
theorem W_dregc {ops : List SO} {late : List Nat} (R : (Nat → V) → Heap → Prop) (hl : ∀ d ∈ late, (H (k0 + d)).live = false) (h : Ops P k0 ops T H R) (hk : ∀ T H, R T H → Q .norm T H) : W P k0 (.dreg late ops) Q T H :=
  ⟨hl, Ops_mono hk h⟩
/-- The same, an own block being written no more from here on. -/
theorem W_seq_frz {ops : List SO} {b : SC} (id : Nat) (R : (Nat → V) → Heap → Prop) (h : Ops P k0 ops T H R) (hk : ∀ T H, R T H → W P k0 b Q (fzT id H T) (kill id H)) : W P k0 (.seq (.reg ops) b) Q T H :=
  W_seq_reg_g fun _ hK => Ops_mono (fun T H hr => hK T H (.freeze id (.done (hk T H hr)))) h

/-! Results. -/

theorem Ret_1 {t : Nat} {u v : V} {n : Nat} (h1 : T t = u) (h2 : fzv true H n u = v) : Ret [.tmp t] (fun u G => fzv true G n u = v) .ret T H := by
  simp only [Ret, resT, mapO, resV, onS_some, h1]; exact h2
theorem Ret_2 {t1 t2 : Nat} {u1 u2 v1 v2 : V} {n : Nat} (h1 : T t1 = u1) (h2 : T t2 = u2) (g1 : fzv true H n u1 = v1) (g2 : fzv true H n u2 = v2) : Ret [.tmp t1, .tmp t2] (fun u G => fzv true G (n + 1) u = .tup [v1, v2]) .ret T H := by
  simp only [Ret, resT, mapO, resV, onS_some, h1, h2, fzv, List.map_cons, List.map_nil, g1, g2]
theorem Ret_3 {t1 t2 t3 : Nat} {u1 u2 u3 v1 v2 v3 : V} {n : Nat} (h1 : T t1 = u1) (h2 : T t2 = u2) (h3 : T t3 = u3) (g1 : fzv true H n u1 = v1) (g2 : fzv true H n u2 = v2) (g3 : fzv true H n u3 = v3) :
    Ret [.tmp t1, .tmp t2, .tmp t3] (fun u G => fzv true G (n + 1) u = .tup [v1, v2, v3]) .ret T H := by
  simp only [Ret, resT, mapO, resV, onS_some, h1, h2, h3, fzv, List.map_cons, List.map_nil, g1, g2, g3]
theorem RetE_1 {t : Nat} {v : V} {H' : Heap} (h1 : T t = v) (h2 : H = H') : Ret [.tmp t] (fun u G => u = v ∧ G = H') .ret T H := by
  simp only [Ret, resT, mapO, resV, onS_some, h1]; exact ⟨trivial, h2⟩
theorem heap1 {Hi : Heap} {a : Nat} {A : Blk} (hF : ∀ j, j ∉ [a] → H j = Hi j) (h1 : H a = A) (_ : True) : H = upd Hi a A := by
  funext j
  by_cases e : j = a
  · subst e; rw [upd_same, h1]
  · rw [upd_ne _ _ e]; exact hF j (by simpa using e)
theorem heap2 {Hi : Heap} {a b : Nat} {A B : Blk} (hF : ∀ j, j ∉ [a, b] → H j = Hi j) (h1 : H a = A) (h2 : H b = B) (hne : a ≠ b) : H = upd (upd Hi a A) b B := by
  funext j
  by_cases e : j = b
  · subst e; rw [upd_same, h2]
  · rw [upd_ne _ _ e]
    by_cases e' : j = a
    · subst e'; rw [upd_same, h1]
    · rw [upd_ne _ _ e']; exact hF j (by simp [e, e'])
theorem fz_int {n : Nat} {x y : Int} (h : x = y) : fzv true H n (iV x) = iV y := by rw [fzv_canon n _ (by simp), h]
theorem fz_bool {n : Nat} {x y : Bool} (h : x = y) : fzv true H n (.bool x) = .bool y := by rw [fzv_canon n _ (by simp), h]
theorem fz_sl {α : Type} {n : Nat} {f : α → List V} {l m : List α} (h : l = m) (hc : ∀ a, canonL (f a) = true) : fzv true H n (.sl (l.map f)) = .sl (m.map f) := by
  rw [fzv_canon n _ (by rw [canon_sl]; exact canonLL_map _ _ hc), h]
theorem fz_nil {α : Type} {n : Nat} {f : α → List V} {m : List α} (h : m = []) : fzv true H (n + 1) .nilsl = .sl (m.map f) := by subst h; rfl
theorem fz_ms {α : Type} {n id ver len : Nat} {B : Blk} {f : α → List V} {l m : List α} (hH : H id = B) (hok : (B.live && decide (B.ver = ver)) = true) (hr : B.rows = l.map f) (hl : len = l.length) (hc : ∀ a, canonL (f a) = true) (h : l = m) :
    fzv true H (n + 1) (.ms id ver 0 len) = .sl (m.map f) := by
  subst hH; subst hl; subst h
  have hx : List.take l.length (List.map f l) = List.map f l := by rw [show l.length = (l.map f).length by simp, List.take_length]
  simp only [fzv]
  rw [if_pos hok, hr, List.drop_zero, hx]
  congr 1
  rw [List.map_map]
  refine List.map_congr_left fun a _ => fzv_mapcanon n _ (hc a)
theorem fz_canon {n : Nat} {u v : V} (hc : u.canon = true) (h : u = v) : fzv true H n u = v := by rw [fzv_canon n _ hc, h]

end
theorem fork_ {R : (Nat → V) → Heap → Prop} {K : (Nat → V) → Heap → Prop} {T : Nat → V} {H : Heap} (h : R T H) (hk : ∀ T H, R T H → K T H) : K T H := hk T H h
theorem mcons {α β : Type} {g : α → β} {a : α} {b : β} {l : List α} {m : List β} (h1 : g a = b) (h2 : l.map g = m) : (a :: l).map g = b :: m := by subst h1; subst h2; rfl
theorem evcons {T : Nat → V} {a : SX} {v : V} {l : List SX} {m : List V} (h1 : ev T a = v) (h2 : evs T l = m) : evs T (a :: l) = v :: m := by subst h1; subst h2; rfl
theorem evnil {T : Nat → V} : evs T [] = [] := rfl

end Go.Proofs.Ytngkckefanbhgaa

/-
  The small code, executed: what an execution ends with is what W needs.
-/
namespace Go.Proofs.Ytngkckefanbhgaa
open Go

/-- A function, and before which calls (by the slot of their result) which own blocks are written no more. -/
structure XF where
  s : SF
  fz : List (Nat × Nat)

abbrev CallF := Bool → Nat → List V → Heap → Option (V × Heap)

def exX (call : CallF) (id : Nat) (x : X) (T : Nat → V) (H : Heap) : Option (V × Heap) :=
  match x with
  | .mv a => some (ev T a, H)
  | .lazy ty sz => some (.ms id ((H id).ver + 1) 0 0, upd H id ⟨(H id).ver + 1, true, true, ty, sz, []⟩)
  | .pick c a b => match asB (ev T c) with
    | some bb => some (if bb then ev T a else ev T b, H)
    | none => none
  | .alloc ty z => some (.mp id ((H id).ver + 1) 0 0, upd H id ⟨(H id).ver + 1, true, false, ty, z.length, [z]⟩)
  | .box ty _ a => some (.mp id ((H id).ver + 1) 0 0, upd H id ⟨(H id).ver + 1, true, false, ty, (ev T a).cells.length, [(ev T a).cells]⟩)
  | .build z ps => (bld z (ps.map fun p => (p.1, p.2.1, ev T p.2.2))).map fun cs => (.agg cs, H)
  | .bslice ty esz own z len ps => (brows esz (List.replicate len z) (ps.map fun p => (p.1, ev T p.2))).map fun rows =>
      if own then (.ms id ((H id).ver + 1) 0 rows.length, upd H id ⟨(H id).ver + 1, true, false, ty, esz, rows⟩) else (.sl rows, H)
  | .load agg n a => ((ptr H (ev T a)).bind (ldV agg n)).map fun v => (v, H)
  | .store n a b => (stP H n (ev T b).cells (ev T a)).map fun H' => (.raw undef, H')
  | .bin op a b => (intBin op (ev T a) (ev T b)).map fun v => (v, H)
  | .sbin op a b => (strBin op (ev T a) (ev T b)).map fun v => (v, H)
  | .bbin op a b => (boolBin op (ev T a) (ev T b)).map fun v => (v, H)
  | .un op a => (unV op (ev T a)).map fun v => (v, H)
  | .conv kd a => (convV kd (ev T a)).map fun v => (v, H)
  | .fld off a => (fldV H off (ev T a)).map fun v => (v, H)
  | .part agg off n a => (partV agg off n (ev T a)).map fun v => (v, H)
  | .idx esz a i => (idxV H esz (ev T a) (ev T i)).map fun v => (v, H)
  | .sidx a i => (sidxV (ev T a) (ev T i)).map fun v => (v, H)
  | .slice esz a lo hi => (sliceV H esz (lo.map (ev T)) (hi.map (ev T)) (ev T a)).map fun v => (v, H)
  | .sslice a lo hi => (ssliceV (lo.map (ev T)) (hi.map (ev T)) (ev T a)).map fun v => (v, H)
  | .mks ty esz bytes z l c => (mksV bytes (ev T l) (ev T c)).map fun n =>
      (.ms id ((H id).ver + 1) 0 n.1, upd H id ⟨(H id).ver + 1, true, false, ty, esz, List.replicate n.1 z⟩)
  | .ext a i => (extV i (ev T a)).map fun v => (v, H)
  | .mkf f caps => some (.fn f [] (evs T caps), H)
  | .nilck a => (nilckV H (ev T a)).map fun v => (v, H)
  | .len a => (lenV H (ev T a)).map fun v => (v, H)
  | .slen a => (slenV (ev T a)).map fun v => (v, H)
  | .mn a b => (mnV (ev T a) (ev T b)).map fun v => (v, H)
  | .mx a b => (mxV (ev T a) (ev T b)).map fun v => (v, H)
  | .append ty esz bytes s a => match ev T s with
    | .ms i ver off len => if (H i).live && decide ((H i).ver = ver) then if off = 0 then if len = (H i).rows.length then if (H i).ty = ty then if (H i).sz = esz then
        match rowsOf H (ev T a) with
        | some new => if fitRows esz new = true then if (len + new.length) * bytes ≤ 140737488355328 then if len + new.length ≤ 9223372036854775807 then
            some (.ms i (ver + 1) 0 (len + new.length), upd H i { H i with ver := ver + 1, rows := (H i).rows ++ new })
          else none else none else none
        | none => none
        else none else none else none else none else none
    | _ => none
  | .call e f args => call e f (evs T args) H
  | .callv e g args => match ev T g with
    | .fn f first caps => call e f (first ++ evs T args ++ caps) H
    | _ => none
  | .isnil neg a => match ev T a with
    | .nilsl => some (.bool (!neg), H)
    | .sl (_ :: _) => some (.bool neg, H)
    | _ => none
  | .bad => none

theorem exX_St {P : Program} {call : CallF} (hc : ∀ e f args H v H', call e f args H = some (v, H') → ∀ k : V → Heap → Prop, k v H' → CallK P e f args H k)
    {id : Nat} {x : X} {T : Nat → V} {H : Heap} {v : V} {H' : Heap} (h : exX call id x T H = some (v, H')) {k : V → Heap → Prop} (hk : k v H') : St P id x T H k := by
  have hm : ∀ {α : Type} {o : Option α} {g : α → V × Heap}, o.map g = some (v, H') → onS o fun a => k (g a).1 (g a).2 := by
    intro α o g h
    cases o with
    | none => cases h
    | some a => simp only [Option.map_some, Option.some.injEq] at h; simp [h, hk]
  cases x <;> simp only [exX] at h <;> simp only [St]
  case mv a => cases h; exact hk
  case lazy => cases h; exact hk
  case alloc => cases h; exact hk
  case box => cases h; exact hk
  case mkf => cases h; exact hk
  case pick c a b =>
    split at h
    · rename_i bb hb; cases h; rw [hb]; exact hk
    · cases h
  case bslice ty esz own z len ps =>
    have := hm h
    rw [onS_iff] at this ⊢
    obtain ⟨rows, h1, h2⟩ := this
    refine ⟨rows, h1, ?_⟩
    cases own <;> exact h2
  case append ty esz bytes s a =>
    split at h
    · rename_i i ver off len he
      rw [he]
      split at h
      · rename_i c1
        split at h
        · rename_i c2
          split at h
          · rename_i c3
            split at h
            · rename_i c4
              split at h
              · rename_i c5
                split at h
                · rename_i new hn
                  split at h
                  · rename_i c6
                    split at h
                    · rename_i c7
                      split at h
                      · rename_i c8
                        cases h
                        simp only
                        rw [if_pos c1, if_pos c2, if_pos c3, if_pos c4, if_pos c5, hn, onS_some, if_pos c6, if_pos c7, if_pos c8]
                        exact hk
                      · cases h
                    · cases h
                  · cases h
                · cases h
              · cases h
            · cases h
          · cases h
        · cases h
      · cases h
    · cases h
  case call e f args => exact hc _ _ _ _ _ _ h _ hk
  case callv e g args =>
    split at h
    · rename_i f first caps he; rw [he]; exact hc _ _ _ _ _ _ h _ hk
    · cases h
  case isnil neg a =>
    split at h
    · rename_i he; rw [he]; cases h; exact hk
    · rename_i r l he; rw [he]; cases h; exact ⟨fun h => (List.cons_ne_nil _ _ h).elim, hk⟩
    · cases h
  case bad => cases h
  all_goals exact hm h

def exOps (call : CallF) (k0 : Nat) : List SO → (Nat → V) → Heap → Option ((Nat → V) × Heap)
  | [], T, H => some (T, H)
  | o :: r, T, H => match o.g with
    | none => match exX call (k0 + o.d.getD 0) o.x T H with
      | some (v, H') => exOps call k0 r (putT T o.d v) H'
      | none => none
    | some (t, want) => match asB (T t) with
      | some b => if b = want then match exX call (k0 + o.d.getD 0) o.x T H with
          | some (v, H') => exOps call k0 r (putT T o.d v) H'
          | none => none
        else exOps call k0 r (putT T o.d (.raw undef)) H
      | none => none

theorem exOps_Ops {P : Program} {call : CallF} (hc : ∀ e f args H v H', call e f args H = some (v, H') → ∀ k : V → Heap → Prop, k v H' → CallK P e f args H k) {k0 : Nat} :
    ∀ (ops : List SO) (T : Nat → V) (H : Heap) (T' : Nat → V) (H' : Heap), exOps call k0 ops T H = some (T', H') → ∀ K : (Nat → V) → Heap → Prop, K T' H' → Ops P k0 ops T H K := by
  intro ops
  induction ops with
  | nil => intro T H T' H' h K hK; cases h; exact hK
  | cons o r ih =>
    intro T H T' H' h K hK
    simp only [exOps] at h
    simp only [Ops]
    split at h
    · rename_i hg
      split at h
      · rename_i v H1 h1
        rw [hg]
        exact exX_St hc h1 (ih _ _ _ _ h K hK)
      · cases h
    · rename_i t want hg
      rw [hg]
      split at h
      · rename_i b hb
        simp only [hb, onS_some]
        split at h
        · rename_i hw
          split at h
          · rename_i v H1 h1
            exact ⟨fun _ => exX_St hc h1 (ih _ _ _ _ h K hK), fun hn => (hn hw).elim⟩
          · cases h
        · rename_i hw
          exact ⟨fun hn => (hw hn).elim, fun _ => ih _ _ _ _ h K hK⟩
      · cases h

/-- The ids that are frozen before a piece of code: those that its head region names. -/
def heads (k0 : Nat) (fz : List (Nat × Nat)) : SC → List Nat
  | .reg ops => ops.foldr (fun o l => match o.d with
    | some d => (fz.filter (fun p => p.1 == d)).map (fun p => k0 + p.2) ++ l
    | none => l) []
  | .seq a _ => heads k0 fz a
  | _ => []

def frz : List Nat → (Nat → V) → Heap → (Nat → V) × Heap
  | [], T, H => (T, H)
  | id :: l, T, H => frz l (fzT id H T) (kill id H)

theorem frz_G {K : (Nat → V) → Heap → Prop} : ∀ (l : List Nat) (T : Nat → V) (H : Heap), K (frz l T H).1 (frz l T H).2 → G K T H
  | [], _, _, h => .done h
  | id :: l, T, H, h => .freeze id (frz_G l _ _ h)

abbrev RunF := Nat → Nat → List (Nat × Nat) → SC → (Nat → V) → Heap → Option (Ex × (Nat → V) × Heap)

/-- A call, by what runs code. -/
def callF (F : Nat → Option XF) (run : RunF) (k1 : Nat) : CallF := fun e f args H => match F f with
  | none => none
  | some g => if args.length ≤ g.s.n then match e with
    | true => match run k1 g.s.n g.fz g.s.body (T0 args) H with
      | some (.exit _, _, _) => none
      | some (_, T', H') => (resT g.s.res T' H').map fun v => (v, H')
      | none => none
    | false => if pureL (args.map (fzv false H 4)) then match run 0 g.s.n g.fz g.s.body (T0 (args.map (fzv false H 4))) H0 with
        | some (.exit _, _, _) => none
        | some (_, T', H') => match resT g.s.res T' H' with
          | some u => if (fzv false H' 6 u).pure then if pureL args || (fzv false H' 6 u).scalar then some (fzv false H' 6 u, H) else none else none
          | none => none
        | none => none
      else none
    else none

/-- One step of fuel. -/
def runS (F : Nat → Option XF) (run : RunF) : RunF := fun k0 n fz c T H => match c with
  | .skip => some (.norm, T, H)
  | .ret => some (.ret, T, H)
  | .exit j => some (.exit j, T, H)
  | .reg ops => (exOps (callF F run (k0 + n)) k0 ops T H).map fun p => (.norm, p.1, p.2)
  | .dreg late ops => if late.all (fun d => !(H (k0 + d)).live) then (exOps (callF F run (k0 + n)) k0 ops T H).map fun p => (.norm, p.1, p.2) else none
  | .seq a b => match run k0 n fz a T H with
    | some (.norm, T', H') => run k0 n fz b (frz (heads k0 fz b) T' H').1 (frz (heads k0 fz b) T' H').2
    | r => r
  | .cond c a b => match asB (ev T c) with
    | some true => run k0 n fz a T H
    | some false => run k0 n fz b T H
    | none => none
  | .block id a => match run k0 n fz a T H with
    | some (.exit j, T', H') => if j = id then some (.norm, T', H') else some (.exit j, T', H')
    | r => r
  | .loop a => match run k0 n fz a T H with
    | some (.norm, T', H') => run k0 n fz (.loop a) T' H'
    | r => r

def run (F : Nat → Option XF) (m : Nat) : RunF := Nat.rec (fun _ _ _ _ _ _ => none) (fun _ ih => runS F ih) m

theorem run_zero (F : Nat → Option XF) : run F 0 = fun _ _ _ _ _ _ => none := rfl
theorem run_succ (F : Nat → Option XF) (m : Nat) : run F (m + 1) = runS F (run F m) := rfl

def Good (P : Program) (F : Nat → Option XF) : Prop := ∀ f g, F f = some g → ∃ fn op, P.funcs[f]? = some fn ∧ slimF P op fn = some g.s ∧ (fn.name == "runtime.NumGoroutine") = false

section
variable {P : Program} {F : Nat → Option XF}

def RunOK (P : Program) (r : RunF) : Prop := ∀ k0 n fz c T H e T' H', r k0 n fz c T H = some (e, T', H') → ∀ Q : Ex → (Nat → V) → Heap → Prop, Q e T' H' → W P k0 c Q T H

theorem callF_pure (hF : Good P F) {r : RunF} (hr : RunOK P r) {k1 f : Nat} {args : List V} {H : Heap} {v : V} {H' : Heap} (h : callF F r k1 false f args H = some (v, H')) :
    H' = H ∧ PureC P f (args.map (fzv false H 4)) v ∧ pureL (args.map (fzv false H 4)) = true ∧ (pureL args = true ∨ v.scalar = true) := by
  simp only [callF] at h
  split at h
  · cases h
  · rename_i g hg
    obtain ⟨fn, op, h1, h2, h3⟩ := hF _ _ hg
    split at h
    · rename_i hl
      split at h
      · rename_i hp
        split at h
        · cases h
        · rename_i e T1 H1 hne hrun
          split at h
          · rename_i u hu
            split at h
            · rename_i hpu
              split at h
              · rename_i hs
                cases h
                refine ⟨rfl, pure_of_Wz false 6 h1 h2 h3 (by simpa using hl) hp hpu (hr _ _ _ _ _ _ _ _ _ hrun _ ?_), hp, by simpa using hs⟩
                cases e with
                | norm => simp only [Ret, hu, onS_some]
                | ret => simp only [Ret, hu, onS_some]
                | exit j => exact (hne _ rfl).elim
              · cases h
            · cases h
          · cases h
        · cases h
      · cases h
    · cases h

theorem callF_ok (hF : Good P F) {r : RunF} (hr : RunOK P r) {k1 : Nat} (e : Bool) (f : Nat) (args : List V) (H : Heap) (v : V) (H' : Heap) (h : callF F r k1 e f args H = some (v, H')) (k : V → Heap → Prop) (hk : k v H') : CallK P e f args H k := by
  cases e with
  | false =>
    obtain ⟨rfl, h1, h2, h3⟩ := callF_pure hF hr h
    by_cases hp : pureL args = true
    · have h1 := h1.argz false 4 hp
      exact CallK_pure h1 hk
    · have hs : v.scalar = true := h3.resolve_left hp
      exact CallK_roc (h1.lendz false 4 h2 hs) hk
  | true =>
    simp only [callF] at h
    split at h
    · cases h
    · rename_i g hg
      obtain ⟨fn, op, h1, h2, h3⟩ := hF _ _ hg
      split at h
      · rename_i hl
        split at h
        · cases h
        · rename_i e T1 H1 hne hrun
          rw [Option.map_eq_some_iff] at h
          obtain ⟨u, hu, he⟩ := h
          cases he
          refine CallK_E (CallOK_of_W (k0 := k1) h1 h2 h3 hl (hr _ _ _ _ _ _ _ _ _ hrun _ ?_)) hk
          cases e with
          | norm => simp only [Ret, hu, onS_some, and_self]
          | ret => simp only [Ret, hu, onS_some, and_self]
          | exit j => exact (hne _ rfl).elim
        · cases h
      · cases h

theorem run_ok (hF : Good P F) : ∀ m, (∀ j, j < m → RunOK P (run F j)) → RunOK P (run F m) := by
  intro m hm
  cases m with
  | zero => intro k0 n fz c T H e T' H' h; rw [run_zero] at h; cases h
  | succ m =>
    intro k0 n fz c T H e T' H' h Q hQ
    have hr : RunOK P (run F m) := hm m (Nat.lt_succ_self m)
    rw [run_succ] at h
    cases c <;> simp only [runS] at h
    case skip => cases h; exact hQ
    case ret => cases h; exact hQ
    case exit => cases h; exact hQ
    case reg ops =>
      rw [Option.map_eq_some_iff] at h
      obtain ⟨p, hp, he⟩ := h
      cases he
      exact exOps_Ops (fun e f args H v H' h k hk => callF_ok hF hr e f args H v H' h k hk) _ _ _ _ _ hp _ hQ
    case dreg late ops =>
      split at h
      · rename_i hl
        rw [Option.map_eq_some_iff] at h
        obtain ⟨p, hp, he⟩ := h
        cases he
        refine ⟨fun d hd => ?_, exOps_Ops (fun e f args H v H' h k hk => callF_ok hF hr e f args H v H' h k hk) _ _ _ _ _ hp _ hQ⟩
        have := List.all_eq_true.1 hl d hd
        simpa using this
      · cases h
    case seq a b =>
      simp only [W]
      split at h
      · rename_i T1 H1 h1
        refine hr _ _ _ _ _ _ _ _ _ h1 _ ?_
        exact frz_G _ _ _ (hr _ _ _ _ _ _ _ _ _ h Q hQ)
      · rename_i r hne
        refine hr _ _ _ _ _ _ _ _ _ h _ ?_
        cases e with
        | norm => exact (hne _ _ h).elim
        | ret => exact hQ
        | exit j => exact hQ
    case cond c a b =>
      simp only [W]
      split at h
      · rename_i hb; simp only [hb, onS_some]; exact ⟨fun _ => hr _ _ _ _ _ _ _ _ _ h Q hQ, fun hn => by cases hn⟩
      · rename_i hb; simp only [hb, onS_some]; exact ⟨fun hn => (by cases hn), fun _ => hr _ _ _ _ _ _ _ _ _ h Q hQ⟩
      · cases h
    case block id a =>
      simp only [W]
      split at h
      · rename_i j T1 H1 h1
        refine hr _ _ _ _ _ _ _ _ _ h1 _ ?_
        simp only
        split at h
        · rename_i hj; cases h; rw [if_pos hj]; exact hQ
        · rename_i hj; cases h; rw [if_neg hj]; exact hQ
      · rename_i r hne
        refine hr _ _ _ _ _ _ _ _ _ h _ ?_
        cases e with
        | norm => exact hQ
        | ret => exact hQ
        | exit j => exact (hne _ _ _ h).elim
    case loop a =>
      refine W_loop (fun j T H => j ≤ m + 1 ∧ run F j k0 n fz (.loop a) T H = some (e, T', H')) ⟨m + 1, Nat.le_refl _, by rw [run_succ]; exact h⟩ ?_
      intro j T2 H2 ⟨hj, h2⟩ Q' p1 p2 p3
      cases j with
      | zero => rw [run_zero] at h2; cases h2
      | succ j =>
        rw [run_succ] at h2
        simp only [runS] at h2
        have hrj : RunOK P (run F j) := hm j (by omega)
        split at h2
        · rename_i T1 H1 h1
          exact hrj _ _ _ _ _ _ _ _ _ h1 _ (p1 j T1 H1 (by omega) ⟨by omega, h2⟩)
        · rename_i r hne
          refine hrj _ _ _ _ _ _ _ _ _ h2 _ ?_
          cases e with
          | norm => exact (hne _ _ h2).elim
          | ret => exact p2 _ _ hQ
          | exit q => exact p3 _ _ _ hQ

theorem run_sound (hF : Good P F) (m : Nat) : RunOK P (run F m) := by
  induction m using Nat.strongRecOn with
  | _ m ih => exact run_ok hF m ih

/-- A call without anything open, executed. -/
theorem pure_of_run (hF : Good P F) (m : Nat) {f : Nat} {args : List V} {v : V} (hp : pureL args = true) (h : (callF F (run F m) 0 false f args H0).map (·.1) = some v) : PureC P f args v := by
  rw [Option.map_eq_some_iff] at h
  obtain ⟨⟨v', H'⟩, h, he⟩ := h
  cases he
  obtain ⟨_, h1, h2, h3⟩ := callF_pure hF (run_sound hF m) h
  exact h1.argz false 4 hp

def Good1 (P : Program) (p : Nat × XF) : Prop := ∃ fn op, P.funcs[p.1]? = some fn ∧ slimF P op fn = some p.2.s ∧ (fn.name == "runtime.NumGoroutine") = false

theorem Good_of {P : Program} {tab : List (Nat × XF)} (h : ∀ p ∈ tab, Good1 P p) : Good P fun f => (tab.find? (fun p => p.1 == f)).map (·.2) := by
  intro f g hg
  rw [Option.map_eq_some_iff] at hg
  obtain ⟨p, hp, rfl⟩ := hg
  have h1 := List.find?_some hp
  have h2 := h p (List.mem_of_find?_eq_some hp)
  simp only [beq_iff_eq] at h1
  subst h1
  exact h2

end
end Go.Proofs.Ytngkckefanbhgaa

namespace Go.Proofs.Ytngkckefanbhgaa
open Go Go.Proofs

def r3_0 : List SO := [
  ⟨none, some 1, .box 26 5 (.t 0)⟩,
  ⟨none, some 2, .mv (.c (.bool false))⟩]
def r3_1 : List SO := [
  ⟨none, some 3, .load true 5 (.t 1)⟩,
  ⟨none, some 4, .call false 15 [.t 3]⟩]
def r3_2 : List SO := [
  ⟨none, some 5, .call false 16 []⟩,
  ⟨none, some 2, .mv (.t 5)⟩]
def r3_3 : List SO := [
  ⟨none, some 6, .load true 5 (.t 1)⟩,
  ⟨none, some 7, .call false 17 [.t 6]⟩,
  ⟨none, some 8, .load true 5 (.t 1)⟩,
  ⟨none, some 9, .call false 18 [.t 8]⟩,
  ⟨none, some 10, .bin .eql (.t 7) (.t 9)⟩,
  ⟨none, some 11, .mv (.t 10)⟩,
  ⟨some (11, true), some 12, .call false 16 []⟩,
  ⟨none, some 13, .pick (.t 11) (.t 12) (.c (.bool false))⟩,
  ⟨none, some 2, .mv (.t 13)⟩]
def s3 : SF := ⟨14, [.tmp 2], .seq (.reg r3_0) (.seq (.seq (.reg r3_1) (.cond (.t 4) (.seq (.reg r3_2) (.ret)) (.skip))) (.seq (.reg r3_3) (.ret)))⟩
theorem s3_ok : slimF Try.prog ⟨[94], []⟩ Try.f3 = some s3 := by kernel_rfl
def r15_0 : List SO := [
  ⟨none, some 1, .box 26 5 (.t 0)⟩,
  ⟨none, some 2, .mv (.c (.bool false))⟩]
def r15_1 : List SO := [
  ⟨none, some 3, .fld 0 (.t 1)⟩,
  ⟨none, some 4, .load true 4 (.t 3)⟩,
  ⟨none, some 5, .call false 31 [.t 4]⟩,
  ⟨none, some 6, .mv (.t 5)⟩,
  ⟨some (6, false), some 7, .fld 4 (.t 1)⟩,
  ⟨some (6, false), some 8, .load false 1 (.t 7)⟩,
  ⟨some (6, false), some 9, .call false 26 [.t 8]⟩,
  ⟨none, some 10, .pick (.t 6) (.c (.bool true)) (.t 9)⟩,
  ⟨none, some 2, .mv (.t 10)⟩]
def s15 : SF := ⟨11, [.tmp 2], .seq (.reg r15_0) (.seq (.reg r15_1) (.ret))⟩
theorem s15_ok : slimF Try.prog ⟨[94], []⟩ Try.f15 = some s15 := by kernel_rfl
def r16_0 : List SO := [
  ⟨none, some 0, .mv (.c (.bool false))⟩]
def r16_1 : List SO := [
  ⟨none, some 10, .bslice 3 1 false [.int .i64 0] 2 [(0, .c (.int .i64 0)), (1, .c (.int .i64 0))]⟩,
  ⟨none, some 11, .bslice 35 1 false [.nilsl] 1 [(0, .t 10)]⟩,
  ⟨none, some 12, .bslice 3 1 false [.int .i64 0] 2 [(0, .c (.int .i64 1)), (1, .c (.int .i64 0))]⟩,
  ⟨none, some 13, .bslice 35 1 false [.nilsl] 1 [(0, .t 12)]⟩,
  ⟨none, some 14, .build [.int .i64 0, .int .i64 0, .nilsl, .nilsl] [(0, 1, .c (.int .i64 2)), (2, 1, .t 11), (3, 1, .t 13)]⟩,
  ⟨none, some 15, .bslice 35 1 false [.nilsl] 1 [(0, .c (.nilsl))]⟩,
  ⟨none, some 16, .build [.int .i64 0, .int .i64 0, .nilsl, .nilsl, .nilsl] [(0, 4, .t 14), (4, 1, .t 15)]⟩,
  ⟨none, some 1, .alloc 26 [.int .i64 0, .int .i64 0, .nilsl, .nilsl, .nilsl]⟩,
  ⟨none, none, .store 5 (.t 1) (.t 16)⟩]
def r16_2 : List SO := [
  ⟨none, some 17, .bslice 3 1 false [.int .i64 0] 1 [(0, .c (.int .i64 1))]⟩,
  ⟨none, some 18, .bslice 3 1 false [.int .i64 0] 1 [(0, .c (.int .i64 0))]⟩,
  ⟨none, some 19, .build [.nilsl, .nilsl] [(0, 1, .t 17), (1, 1, .t 18)]⟩,
  ⟨none, some 20, .bslice 3 1 false [.int .i64 0] 2 [(0, .c (.int .i64 0)), (1, .c (.int .i64 1))]⟩,
  ⟨none, some 21, .bslice 3 1 false [.int .i64 0] 2 [(0, .c (.int .i64 1)), (1, .c (.int .i64 2))]⟩,
  ⟨none, some 22, .build [.nilsl, .nilsl] [(0, 1, .t 20), (1, 1, .t 21)]⟩,
  ⟨none, some 23, .bslice 63 2 false [.nilsl, .nilsl] 2 [(0, .t 19), (1, .t 22)]⟩,
  ⟨none, some 24, .build [.int .i64 0, .nilsl] [(0, 1, .c (.int .i64 2)), (1, 1, .t 23)]⟩,
  ⟨none, some 2, .alloc 34 [.int .i64 0, .nilsl]⟩,
  ⟨none, none, .store 2 (.t 2) (.t 24)⟩]
def r16_3 : List SO := [
  ⟨none, some 26, .load true 5 (.t 1)⟩,
  ⟨none, some 27, .load true 2 (.t 2)⟩,
  ⟨none, some 28, .call false 23 [.t 26, .t 27]⟩,
  ⟨none, some 25, .mv (.t 28)⟩,
  ⟨none, some 29, .ext (.t 25) 0⟩,
  ⟨none, some 30, .ext (.t 25) 1⟩,
  ⟨none, some 31, .ext (.t 25) 2⟩,
  ⟨none, some 3, .mv (.t 29)⟩,
  ⟨none, some 4, .mv (.t 30)⟩,
  ⟨none, some 5, .mv (.t 31)⟩]
def r16_4 : List SO := [
  ⟨none, some 33, .load true 2 (.t 2)⟩,
  ⟨none, some 34, .bslice 3 1 false [.int .i64 0] 1 [(0, .c (.int .i64 0))]⟩,
  ⟨none, some 35, .call false 27 [.t 33, .c (.nilsl), .t 34]⟩,
  ⟨none, some 32, .mv (.t 35)⟩,
  ⟨none, some 36, .ext (.t 32) 0⟩,
  ⟨none, some 37, .ext (.t 32) 1⟩,
  ⟨none, some 6, .mv (.t 36)⟩,
  ⟨none, some 7, .mv (.t 37)⟩]
def r16_5 : List SO := [
  ⟨none, some 39, .load true 5 (.t 1)⟩,
  ⟨none, some 40, .bslice 3 1 false [.int .i64 0] 2 [(0, .c (.int .i64 0)), (1, .c (.int .i64 1))]⟩,
  ⟨none, some 41, .call false 21 [.t 39, .t 40]⟩,
  ⟨none, some 38, .mv (.t 41)⟩,
  ⟨none, some 42, .ext (.t 38) 0⟩,
  ⟨none, some 43, .ext (.t 38) 1⟩,
  ⟨none, some 8, .mv (.t 42)⟩,
  ⟨none, some 9, .mv (.t 43)⟩]
def r16_6 : List SO := [
  ⟨none, some 44, .load true 5 (.t 1)⟩,
  ⟨none, some 45, .call false 17 [.t 44]⟩,
  ⟨none, some 46, .bin .eql (.t 45) (.c (.int .i64 0))⟩,
  ⟨none, some 47, .mv (.t 46)⟩,
  ⟨some (47, true), some 48, .mv (.t 4)⟩,
  ⟨none, some 49, .pick (.t 47) (.t 48) (.c (.bool false))⟩,
  ⟨none, some 50, .mv (.t 49)⟩,
  ⟨some (50, true), some 51, .mv (.t 5)⟩,
  ⟨some (50, true), some 52, .bin .eql (.t 51) (.c (.int .i64 0))⟩,
  ⟨none, some 53, .pick (.t 50) (.t 52) (.c (.bool false))⟩,
  ⟨none, some 54, .mv (.t 53)⟩,
  ⟨some (54, true), some 55, .mv (.t 3)⟩,
  ⟨some (54, true), some 56, .bslice 3 1 false [.int .i64 0] 2 [(0, .c (.int .i64 0)), (1, .c (.int .i64 1))]⟩,
  ⟨some (54, true), some 57, .call false 25 [.t 55, .t 56]⟩,
  ⟨none, some 58, .pick (.t 54) (.t 57) (.c (.bool false))⟩,
  ⟨none, some 59, .mv (.t 58)⟩,
  ⟨some (59, true), some 60, .mv (.t 7)⟩,
  ⟨none, some 61, .pick (.t 59) (.t 60) (.c (.bool false))⟩,
  ⟨none, some 62, .mv (.t 61)⟩,
  ⟨some (62, true), some 63, .mv (.t 6)⟩,
  ⟨some (62, true), some 64, .bslice 3 1 false [.int .i64 0] 1 [(0, .c (.int .i64 1))]⟩,
  ⟨some (62, true), some 65, .call false 25 [.t 63, .t 64]⟩,
  ⟨none, some 66, .pick (.t 62) (.t 65) (.c (.bool false))⟩,
  ⟨none, some 67, .mv (.t 66)⟩,
  ⟨some (67, true), some 68, .load true 2 (.t 2)⟩,
  ⟨some (67, true), some 69, .bslice 3 1 false [.int .i64 0] 1 [(0, .c (.int .i64 0))]⟩,
  ⟨some (67, true), some 70, .bslice 35 1 false [.nilsl] 2 [(0, .c (.nilsl)), (1, .t 69)]⟩,
  ⟨some (67, true), some 71, .call false 29 [.t 68, .t 70]⟩,
  ⟨some (67, true), some 72, .bin .eql (.t 71) (.c (.int .i64 2))⟩,
  ⟨none, some 73, .pick (.t 67) (.t 72) (.c (.bool false))⟩,
  ⟨none, some 74, .mv (.t 73)⟩,
  ⟨some (74, true), some 75, .mv (.t 9)⟩,
  ⟨some (74, true), some 76, .bin .eql (.t 75) (.c (.int .i64 0))⟩,
  ⟨none, some 77, .pick (.t 74) (.t 76) (.c (.bool false))⟩,
  ⟨none, some 78, .mv (.t 77)⟩,
  ⟨some (78, true), some 79, .mv (.t 8)⟩,
  ⟨some (78, true), some 80, .len (.t 79)⟩,
  ⟨some (78, true), some 81, .bin .eql (.t 80) (.c (.int .i64 0))⟩,
  ⟨none, some 82, .pick (.t 78) (.t 81) (.c (.bool false))⟩,
  ⟨none, some 0, .mv (.t 82)⟩]
def s16 : SF := ⟨83, [.tmp 0], .seq (.reg r16_0) (.seq (.reg r16_1) (.seq (.reg r16_2) (.seq (.reg r16_3) (.seq (.reg r16_4) (.seq (.reg r16_5) (.seq (.reg r16_6) (.ret)))))))⟩
theorem s16_ok : slimF Try.prog ⟨[94], []⟩ Try.f16 = some s16 := by kernel_rfl
def r17_0 : List SO := [
  ⟨none, some 1, .box 26 5 (.t 0)⟩,
  ⟨none, some 2, .mv (.c (.int .i64 0))⟩]
def r17_1 : List SO := [
  ⟨none, some 9, .fld 0 (.t 1)⟩,
  ⟨none, some 10, .load true 4 (.t 9)⟩,
  ⟨none, some 11, .call false 55 [.t 10]⟩,
  ⟨none, some 3, .mv (.t 11)⟩]
def r17_2 : List SO := [
  ⟨none, some 12, .mv (.t 3)⟩,
  ⟨none, some 13, .bin .neq (.t 12) (.c (.int .i64 0))⟩]
def r17_3 : List SO := [
  ⟨none, some 14, .mv (.t 3)⟩,
  ⟨none, some 2, .mv (.t 14)⟩]
def r17_4 : List SO := [
  ⟨none, some 15, .fld 4 (.t 1)⟩,
  ⟨none, some 16, .load false 1 (.t 15)⟩,
  ⟨none, some 17, .len (.t 16)⟩,
  ⟨none, some 18, .fld 0 (.t 1)⟩,
  ⟨none, some 19, .fld 2 (.t 18)⟩,
  ⟨none, some 20, .load false 1 (.t 19)⟩,
  ⟨none, some 21, .len (.t 20)⟩,
  ⟨none, some 22, .bin .neq (.t 17) (.t 21)⟩]
def r17_5 : List SO := [
  ⟨none, some 2, .mv (.c (.int .i64 1))⟩]
def r17_6 : List SO := [
  ⟨none, some 23, .fld 4 (.t 1)⟩,
  ⟨none, some 24, .load false 1 (.t 23)⟩,
  ⟨none, some 25, .len (.t 24)⟩,
  ⟨none, some 26, .mv (.c (.int .i64 0))⟩]
def r17_7 : List SO := [
  ⟨none, some 27, .bin .lss (.t 26) (.t 25)⟩]
def r17_8 : List SO := [
  ⟨none, some 28, .mv (.t 26)⟩,
  ⟨none, some 29, .idx 1 (.t 24) (.t 26)⟩,
  ⟨none, some 30, .load false 1 (.t 29)⟩,
  ⟨none, some 4, .mv (.t 28)⟩,
  ⟨none, some 5, .mv (.t 30)⟩]
def r17_9 : List SO := [
  ⟨none, some 32, .fld 0 (.t 1)⟩,
  ⟨none, some 33, .load true 4 (.t 32)⟩,
  ⟨none, some 34, .fld 0 (.t 1)⟩,
  ⟨none, some 35, .fld 1 (.t 34)⟩,
  ⟨none, some 36, .load false 1 (.t 35)⟩,
  ⟨none, some 37, .mv (.t 5)⟩,
  ⟨none, some 38, .call false 56 [.t 33, .t 36, .t 37]⟩,
  ⟨none, some 31, .mv (.t 38)⟩,
  ⟨none, some 39, .ext (.t 31) 0⟩,
  ⟨none, some 40, .ext (.t 31) 1⟩,
  ⟨none, some 41, .ext (.t 31) 2⟩,
  ⟨none, some 6, .mv (.t 39)⟩,
  ⟨none, some 7, .mv (.t 40)⟩,
  ⟨none, some 8, .mv (.t 41)⟩]
def r17_10 : List SO := [
  ⟨none, some 42, .mv (.t 8)⟩,
  ⟨none, some 43, .bin .neq (.t 42) (.c (.int .i64 0))⟩]
def r17_11 : List SO := [
  ⟨none, some 44, .mv (.t 8)⟩,
  ⟨none, some 2, .mv (.t 44)⟩]
def r17_12 : List SO := [
  ⟨none, some 45, .mv (.t 7)⟩,
  ⟨none, some 46, .mv (.t 4)⟩,
  ⟨none, some 47, .bin .neq (.t 45) (.t 46)⟩]
def r17_13 : List SO := [
  ⟨none, some 2, .mv (.c (.int .i64 15))⟩]
def r17_14 : List SO := [
  ⟨none, some 48, .bin .add (.t 26) (.c (.int .i64 1))⟩,
  ⟨none, some 26, .mv (.t 48)⟩]
def b17_0 : SC := .seq (.reg r17_7) (.seq (.cond (.t 27) (.skip) (.exit 0)) (.seq (.block 1 (.seq (.reg r17_8) (.seq (.reg r17_9) (.seq (.seq (.reg r17_10) (.cond (.t 43) (.seq (.reg r17_11) (.ret)) (.skip))) (.seq (.reg r17_12) (.cond (.t 47) (.seq (.reg r17_13) (.ret)) (.skip))))))) (.reg r17_14)))
def r17_15 : List SO := [
  ⟨none, some 49, .fld 4 (.t 1)⟩,
  ⟨none, some 50, .load false 1 (.t 49)⟩,
  ⟨none, some 51, .fld 0 (.t 1)⟩,
  ⟨none, some 52, .fld 1 (.t 51)⟩,
  ⟨none, some 53, .load false 1 (.t 52)⟩,
  ⟨none, some 54, .idx 1 (.t 50) (.t 53)⟩,
  ⟨none, some 55, .load false 1 (.t 54)⟩,
  ⟨none, some 56, .len (.t 55)⟩,
  ⟨none, some 57, .bin .neq (.t 56) (.c (.int .i64 0))⟩]
def r17_16 : List SO := [
  ⟨none, some 2, .mv (.c (.int .i64 10))⟩]
def r17_17 : List SO := [
  ⟨none, some 2, .mv (.c (.int .i64 0))⟩]
def s17 : SF := ⟨58, [.tmp 2], .seq (.reg r17_0) (.seq (.seq (.reg r17_1) (.seq (.reg r17_2) (.cond (.t 13) (.seq (.reg r17_3) (.ret)) (.skip)))) (.seq (.seq (.reg r17_4) (.cond (.t 22) (.seq (.reg r17_5) (.ret)) (.skip))) (.seq (.seq (.reg r17_6) (.block 0 (.loop b17_0))) (.seq (.seq (.reg r17_15) (.cond (.t 57) (.seq (.reg r17_16) (.ret)) (.skip))) (.seq (.reg r17_17) (.ret))))))⟩
theorem s17_ok : slimF Try.prog ⟨[94], []⟩ Try.f17 = some s17 := by kernel_rfl
def r18_0 : List SO := [
  ⟨none, some 1, .box 26 5 (.t 0)⟩,
  ⟨none, some 2, .mv (.c (.int .i64 0))⟩]
def r18_1 : List SO := [
  ⟨none, some 9, .fld 0 (.t 1)⟩,
  ⟨none, some 10, .load true 4 (.t 9)⟩,
  ⟨none, some 11, .call false 57 [.t 10]⟩,
  ⟨none, some 3, .mv (.t 11)⟩]
def r18_2 : List SO := [
  ⟨none, some 12, .mv (.t 3)⟩,
  ⟨none, some 13, .bin .neq (.t 12) (.c (.int .i64 0))⟩]
def r18_3 : List SO := [
  ⟨none, some 14, .mv (.t 3)⟩,
  ⟨none, some 2, .mv (.t 14)⟩]
def r18_4 : List SO := [
  ⟨none, some 15, .fld 4 (.t 1)⟩,
  ⟨none, some 16, .load false 1 (.t 15)⟩,
  ⟨none, some 17, .len (.t 16)⟩,
  ⟨none, some 18, .fld 0 (.t 1)⟩,
  ⟨none, some 19, .fld 2 (.t 18)⟩,
  ⟨none, some 20, .load false 1 (.t 19)⟩,
  ⟨none, some 21, .len (.t 20)⟩,
  ⟨none, some 22, .bin .neq (.t 17) (.t 21)⟩]
def r18_5 : List SO := [
  ⟨none, some 2, .mv (.c (.int .i64 1))⟩]
def r18_6 : List SO := [
  ⟨none, some 4, .mv (.c (.int .i64 0))⟩]
def r18_7 : List SO := [
  ⟨none, some 23, .mv (.t 4)⟩,
  ⟨none, some 24, .fld 4 (.t 1)⟩,
  ⟨none, some 25, .load false 1 (.t 24)⟩,
  ⟨none, some 26, .len (.t 25)⟩,
  ⟨none, some 27, .bin .lss (.t 23) (.t 26)⟩]
def r18_9 : List SO := [
  ⟨none, some 30, .fld 4 (.t 1)⟩,
  ⟨none, some 31, .load false 1 (.t 30)⟩,
  ⟨none, some 32, .mv (.t 4)⟩,
  ⟨none, some 33, .idx 1 (.t 31) (.t 32)⟩,
  ⟨none, some 34, .load false 1 (.t 33)⟩,
  ⟨none, some 5, .mv (.t 34)⟩]
def r18_10 : List SO := [
  ⟨none, some 35, .mv (.t 5)⟩,
  ⟨none, some 36, .fld 0 (.t 1)⟩,
  ⟨none, some 37, .fld 0 (.t 36)⟩,
  ⟨none, some 38, .load false 1 (.t 37)⟩,
  ⟨none, some 39, .call false 58 [.t 35, .t 38]⟩,
  ⟨none, some 6, .mv (.t 39)⟩]
def r18_11 : List SO := [
  ⟨none, some 40, .mv (.t 6)⟩,
  ⟨none, some 41, .bin .neq (.t 40) (.c (.int .i64 0))⟩]
def r18_12 : List SO := [
  ⟨none, some 42, .mv (.t 6)⟩,
  ⟨none, some 2, .mv (.t 42)⟩]
def r18_13 : List SO := [
  ⟨none, some 44, .fld 0 (.t 1)⟩,
  ⟨none, some 45, .load true 4 (.t 44)⟩,
  ⟨none, some 46, .fld 0 (.t 1)⟩,
  ⟨none, some 47, .fld 1 (.t 46)⟩,
  ⟨none, some 48, .load false 1 (.t 47)⟩,
  ⟨none, some 49, .mv (.t 5)⟩,
  ⟨none, some 50, .call false 59 [.t 45, .t 48, .t 49]⟩,
  ⟨none, some 43, .mv (.t 50)⟩,
  ⟨none, some 51, .ext (.t 43) 0⟩,
  ⟨none, some 52, .ext (.t 43) 1⟩,
  ⟨none, some 7, .mv (.t 51)⟩,
  ⟨none, some 8, .mv (.t 52)⟩]
def r18_14 : List SO := [
  ⟨none, some 53, .mv (.t 8)⟩,
  ⟨none, some 54, .mv (.t 4)⟩,
  ⟨none, some 55, .bin .neq (.t 53) (.t 54)⟩]
def r18_15 : List SO := [
  ⟨none, some 2, .mv (.c (.int .i64 15))⟩]
def r18_8 : List SO := [
  ⟨none, some 28, .mv (.t 4)⟩,
  ⟨none, some 29, .bin .add (.t 28) (.c (.int .i64 1))⟩,
  ⟨none, some 4, .mv (.t 29)⟩]
def b18_0 : SC := .seq (.seq (.reg r18_7) (.cond (.t 27) (.skip) (.exit 0))) (.seq (.block 1 (.seq (.reg r18_9) (.seq (.seq (.reg r18_10) (.seq (.reg r18_11) (.cond (.t 41) (.seq (.reg r18_12) (.ret)) (.skip)))) (.seq (.reg r18_13) (.seq (.reg r18_14) (.cond (.t 55) (.seq (.reg r18_15) (.ret)) (.skip))))))) (.reg r18_8))
def r18_16 : List SO := [
  ⟨none, some 56, .fld 4 (.t 1)⟩,
  ⟨none, some 57, .load false 1 (.t 56)⟩,
  ⟨none, some 58, .fld 0 (.t 1)⟩,
  ⟨none, some 59, .fld 1 (.t 58)⟩,
  ⟨none, some 60, .load false 1 (.t 59)⟩,
  ⟨none, some 61, .idx 1 (.t 57) (.t 60)⟩,
  ⟨none, some 62, .load false 1 (.t 61)⟩,
  ⟨none, some 63, .len (.t 62)⟩,
  ⟨none, some 64, .bin .gtr (.t 63) (.c (.int .i64 0))⟩]
def r18_17 : List SO := [
  ⟨none, some 2, .mv (.c (.int .i64 10))⟩]
def r18_18 : List SO := [
  ⟨none, some 2, .mv (.c (.int .i64 0))⟩]
def s18 : SF := ⟨65, [.tmp 2], .seq (.reg r18_0) (.seq (.seq (.reg r18_1) (.seq (.reg r18_2) (.cond (.t 13) (.seq (.reg r18_3) (.ret)) (.skip)))) (.seq (.seq (.reg r18_4) (.cond (.t 22) (.seq (.reg r18_5) (.ret)) (.skip))) (.seq (.seq (.reg r18_6) (.block 0 (.loop b18_0))) (.seq (.seq (.reg r18_16) (.cond (.t 64) (.seq (.reg r18_17) (.ret)) (.skip))) (.seq (.reg r18_18) (.ret))))))⟩
theorem s18_ok : slimF Try.prog ⟨[94], []⟩ Try.f18 = some s18 := by kernel_rfl
def r21_0 : List SO := [
  ⟨none, some 2, .box 26 5 (.t 0)⟩,
  ⟨none, some 4, .mv (.c (.nilsl))⟩,
  ⟨none, some 5, .mv (.c (.int .i64 0))⟩]
def r21_1 : List SO := [
  ⟨none, some 10, .fld 0 (.t 2)⟩,
  ⟨none, some 11, .load true 4 (.t 10)⟩,
  ⟨none, some 12, .fld 0 (.t 2)⟩,
  ⟨none, some 13, .fld 1 (.t 12)⟩,
  ⟨none, some 14, .load false 1 (.t 13)⟩,
  ⟨none, some 15, .mv (.t 1)⟩,
  ⟨none, some 16, .call false 56 [.t 11, .t 14, .t 15]⟩,
  ⟨none, some 9, .mv (.t 16)⟩,
  ⟨none, some 17, .ext (.t 9) 0⟩,
  ⟨none, some 18, .ext (.t 9) 1⟩,
  ⟨none, some 19, .ext (.t 9) 2⟩,
  ⟨none, some 6, .mv (.t 17)⟩,
  ⟨none, some 7, .mv (.t 18)⟩,
  ⟨none, some 8, .mv (.t 19)⟩]
def r21_2 : List SO := [
  ⟨none, some 20, .mv (.t 8)⟩,
  ⟨none, some 21, .bin .neq (.t 20) (.c (.int .i64 0))⟩]
def r21_3 : List SO := [
  ⟨none, some 22, .mv (.t 8)⟩,
  ⟨none, some 4, .mv (.c (.nilsl))⟩,
  ⟨none, some 5, .mv (.t 22)⟩]
def r21_4 : List SO := [
  ⟨none, some 23, .fld 4 (.t 2)⟩,
  ⟨none, some 24, .load false 1 (.t 23)⟩,
  ⟨none, some 25, .mv (.t 7)⟩,
  ⟨none, some 26, .idx 1 (.t 24) (.t 25)⟩,
  ⟨none, some 27, .load false 1 (.t 26)⟩,
  ⟨none, some 28, .call false 63 [.t 27]⟩,
  ⟨none, some 4, .mv (.t 28)⟩,
  ⟨none, some 5, .mv (.c (.int .i64 0))⟩]
def s21 : SF := ⟨29, [.tmp 4, .tmp 5], .seq (.reg r21_0) (.seq (.reg r21_1) (.seq (.seq (.reg r21_2) (.cond (.t 21) (.seq (.reg r21_3) (.ret)) (.skip))) (.seq (.reg r21_4) (.ret))))⟩
theorem s21_ok : slimF Try.prog ⟨[94], []⟩ Try.f21 = some s21 := by kernel_rfl
def r23_0 : List SO := [
  ⟨none, some 2, .box 26 5 (.t 0)⟩,
  ⟨none, some 3, .box 34 2 (.t 1)⟩,
  ⟨none, some 4, .mv (.c (.nilsl))⟩,
  ⟨none, some 5, .mv (.c (.bool false))⟩,
  ⟨none, some 6, .mv (.c (.int .i64 0))⟩]
def r23_1 : List SO := [
  ⟨none, some 16, .fld 0 (.t 2)⟩,
  ⟨none, some 17, .fld 0 (.t 16)⟩,
  ⟨none, some 18, .load false 1 (.t 17)⟩,
  ⟨none, some 19, .fld 0 (.t 3)⟩,
  ⟨none, some 20, .load false 1 (.t 19)⟩,
  ⟨none, some 21, .bin .neq (.t 18) (.t 20)⟩]
def r23_2 : List SO := [
  ⟨none, some 4, .mv (.c (.nilsl))⟩,
  ⟨none, some 5, .mv (.c (.bool false))⟩,
  ⟨none, some 6, .mv (.c (.int .i64 15))⟩]
def r23_3 : List SO := [
  ⟨none, some 7, .lazy 35 1⟩]
def r23_4 : List SO := [
  ⟨none, some 22, .fld 1 (.t 3)⟩,
  ⟨none, some 23, .load false 1 (.t 22)⟩,
  ⟨none, some 24, .len (.t 23)⟩,
  ⟨none, some 25, .mv (.c (.int .i64 0))⟩]
def r23_5 : List SO := [
  ⟨none, some 26, .bin .lss (.t 25) (.t 24)⟩]
def r23_6 : List SO := [
  ⟨none, some 27, .idx 2 (.t 23) (.t 25)⟩,
  ⟨none, some 28, .load true 2 (.t 27)⟩,
  ⟨none, some 9, .alloc 63 [.nilsl, .nilsl]⟩,
  ⟨none, none, .store 2 (.t 9) (.t 28)⟩]
def r23_7 : List SO := [
  ⟨none, some 30, .fld 0 (.t 2)⟩,
  ⟨none, some 31, .load true 4 (.t 30)⟩,
  ⟨none, some 32, .fld 0 (.t 9)⟩,
  ⟨none, some 33, .load false 1 (.t 32)⟩,
  ⟨none, some 34, .call false 37 [.t 31, .t 33]⟩,
  ⟨none, some 29, .mv (.t 34)⟩,
  ⟨none, some 35, .ext (.t 29) 0⟩,
  ⟨none, some 36, .ext (.t 29) 1⟩,
  ⟨none, some 10, .mv (.t 35)⟩,
  ⟨none, some 11, .mv (.t 36)⟩]
def r23_8 : List SO := [
  ⟨none, some 37, .mv (.t 11)⟩,
  ⟨none, some 38, .bin .neq (.t 37) (.c (.int .i64 0))⟩]
def r23_9 : List SO := [
  ⟨none, some 39, .mv (.t 11)⟩,
  ⟨none, some 4, .mv (.c (.nilsl))⟩,
  ⟨none, some 5, .mv (.c (.bool false))⟩,
  ⟨none, some 6, .mv (.t 39)⟩]
def r23_10 : List SO := [
  ⟨none, some 41, .mv (.t 10)⟩,
  ⟨none, some 42, .fld 1 (.t 9)⟩,
  ⟨none, some 43, .load false 1 (.t 42)⟩,
  ⟨none, some 44, .call false 64 [.t 41, .t 43]⟩,
  ⟨none, some 40, .mv (.t 44)⟩,
  ⟨none, some 45, .ext (.t 40) 0⟩,
  ⟨none, some 46, .ext (.t 40) 1⟩,
  ⟨none, some 12, .mv (.t 45)⟩,
  ⟨none, some 13, .mv (.t 46)⟩]
def r23_11 : List SO := [
  ⟨none, some 47, .mv (.t 13)⟩]
def r23_12 : List SO := [
  ⟨none, some 48, .mv (.t 7)⟩,
  ⟨none, some 49, .fld 0 (.t 9)⟩,
  ⟨none, some 50, .load false 1 (.t 49)⟩,
  ⟨none, some 51, .mv (.t 12)⟩,
  ⟨none, some 52, .bin .add (.t 51) (.c (.int .i64 1))⟩,
  ⟨none, some 53, .slice 1 (.t 50) none (some (.t 52))⟩,
  ⟨none, some 54, .bslice 35 1 false [.nilsl] 1 [(0, .t 53)]⟩,
  ⟨none, some 55, .append 35 1 24 (.t 48) (.t 54)⟩,
  ⟨none, some 7, .mv (.t 55)⟩]
def r23_13 : List SO := [
  ⟨none, some 56, .bin .add (.t 25) (.c (.int .i64 1))⟩,
  ⟨none, some 25, .mv (.t 56)⟩]
def b23_0 : SC := .seq (.reg r23_5) (.seq (.cond (.t 26) (.skip) (.exit 0)) (.seq (.block 1 (.seq (.reg r23_6) (.seq (.reg r23_7) (.seq (.seq (.reg r23_8) (.cond (.t 38) (.seq (.reg r23_9) (.ret)) (.skip))) (.seq (.reg r23_10) (.seq (.reg r23_11) (.cond (.t 47) (.reg r23_12) (.skip)))))))) (.reg r23_13)))
def r23_14 : List SO := [
  ⟨none, some 58, .mv (.t 7)⟩,
  ⟨none, some 59, .call false 65 [.t 58, .c (.fn 66 [] [])]⟩,
  ⟨none, some 57, .mv (.t 59)⟩,
  ⟨none, some 60, .ext (.t 57) 0⟩,
  ⟨none, some 61, .ext (.t 57) 1⟩,
  ⟨none, some 14, .mv (.t 60)⟩,
  ⟨none, some 15, .mv (.t 61)⟩]
def r23_15 : List SO := [
  ⟨none, some 62, .mv (.t 14)⟩,
  ⟨none, some 63, .call false 63 [.t 62]⟩,
  ⟨none, some 64, .mv (.t 15)⟩,
  ⟨none, some 4, .mv (.t 63)⟩,
  ⟨none, some 5, .mv (.t 64)⟩,
  ⟨none, some 6, .mv (.c (.int .i64 0))⟩]
def s23 : SF := ⟨65, [.tmp 4, .tmp 5, .tmp 6], .seq (.reg r23_0) (.seq (.seq (.reg r23_1) (.cond (.t 21) (.seq (.reg r23_2) (.ret)) (.skip))) (.seq (.reg r23_3) (.seq (.seq (.reg r23_4) (.block 0 (.loop b23_0))) (.seq (.reg r23_14) (.seq (.reg r23_15) (.ret))))))⟩
theorem s23_ok : slimF Try.prog ⟨[94], [7]⟩ Try.f23 = some s23 := by kernel_rfl
def r25_0 : List SO := [
  ⟨none, some 4, .mv (.c (.bool false))⟩]
def r25_1 : List SO := [
  ⟨none, some 6, .mv (.t 0)⟩,
  ⟨none, some 7, .len (.t 6)⟩,
  ⟨none, some 8, .mv (.t 1)⟩,
  ⟨none, some 9, .len (.t 8)⟩,
  ⟨none, some 10, .bin .neq (.t 7) (.t 9)⟩]
def r25_2 : List SO := [
  ⟨none, some 4, .mv (.c (.bool false))⟩]
def r25_3 : List SO := [
  ⟨none, some 5, .mv (.c (.int .i64 0))⟩]
def r25_4 : List SO := [
  ⟨none, some 11, .mv (.t 5)⟩,
  ⟨none, some 12, .mv (.t 0)⟩,
  ⟨none, some 13, .len (.t 12)⟩,
  ⟨none, some 14, .bin .lss (.t 11) (.t 13)⟩]
def r25_6 : List SO := [
  ⟨none, some 17, .mv (.t 0)⟩,
  ⟨none, some 18, .mv (.t 5)⟩,
  ⟨none, some 19, .idx 1 (.t 17) (.t 18)⟩,
  ⟨none, some 20, .load false 1 (.t 19)⟩,
  ⟨none, some 21, .mv (.t 1)⟩,
  ⟨none, some 22, .mv (.t 5)⟩,
  ⟨none, some 23, .idx 1 (.t 21) (.t 22)⟩,
  ⟨none, some 24, .load false 1 (.t 23)⟩,
  ⟨none, some 25, .bin .neq (.t 20) (.t 24)⟩]
def r25_7 : List SO := [
  ⟨none, some 4, .mv (.c (.bool false))⟩]
def r25_5 : List SO := [
  ⟨none, some 15, .mv (.t 5)⟩,
  ⟨none, some 16, .bin .add (.t 15) (.c (.int .i64 1))⟩,
  ⟨none, some 5, .mv (.t 16)⟩]
def b25_0 : SC := .seq (.seq (.reg r25_4) (.cond (.t 14) (.skip) (.exit 0))) (.seq (.block 1 (.seq (.reg r25_6) (.cond (.t 25) (.seq (.reg r25_7) (.ret)) (.skip)))) (.reg r25_5))
def r25_8 : List SO := [
  ⟨none, some 4, .mv (.c (.bool true))⟩]
def s25 : SF := ⟨26, [.tmp 4], .seq (.reg r25_0) (.seq (.seq (.reg r25_1) (.cond (.t 10) (.seq (.reg r25_2) (.ret)) (.skip))) (.seq (.seq (.reg r25_3) (.block 0 (.loop b25_0))) (.seq (.reg r25_8) (.ret))))⟩
theorem s25_ok : slimF Try.prog ⟨[94], []⟩ Try.f25 = some s25 := by kernel_rfl
def r26_0 : List SO := [
  ⟨none, some 2, .mv (.c (.bool false))⟩]
def r26_1 : List SO := [
  ⟨none, some 4, .mv (.t 0)⟩,
  ⟨none, some 5, .len (.t 4)⟩,
  ⟨none, some 6, .bin .gtr (.t 5) (.c (.int .i64 200))⟩]
def r26_2 : List SO := [
  ⟨none, some 2, .mv (.c (.bool true))⟩]
def r26_3 : List SO := [
  ⟨none, some 3, .mv (.c (.int .i64 0))⟩]
def r26_4 : List SO := [
  ⟨none, some 7, .mv (.t 3)⟩,
  ⟨none, some 8, .mv (.t 0)⟩,
  ⟨none, some 9, .len (.t 8)⟩,
  ⟨none, some 10, .bin .lss (.t 7) (.t 9)⟩]
def r26_6 : List SO := [
  ⟨none, some 13, .mv (.t 0)⟩,
  ⟨none, some 14, .mv (.t 3)⟩,
  ⟨none, some 15, .idx 1 (.t 13) (.t 14)⟩,
  ⟨none, some 16, .load false 1 (.t 15)⟩,
  ⟨none, some 17, .len (.t 16)⟩,
  ⟨none, some 18, .bin .gtr (.t 17) (.c (.int .i64 200))⟩]
def r26_7 : List SO := [
  ⟨none, some 2, .mv (.c (.bool true))⟩]
def r26_5 : List SO := [
  ⟨none, some 11, .mv (.t 3)⟩,
  ⟨none, some 12, .bin .add (.t 11) (.c (.int .i64 1))⟩,
  ⟨none, some 3, .mv (.t 12)⟩]
def b26_0 : SC := .seq (.seq (.reg r26_4) (.cond (.t 10) (.skip) (.exit 0))) (.seq (.block 1 (.seq (.reg r26_6) (.cond (.t 18) (.seq (.reg r26_7) (.ret)) (.skip)))) (.reg r26_5))
def r26_8 : List SO := [
  ⟨none, some 2, .mv (.c (.bool false))⟩]
def s26 : SF := ⟨19, [.tmp 2], .seq (.reg r26_0) (.seq (.seq (.reg r26_1) (.cond (.t 6) (.seq (.reg r26_2) (.ret)) (.skip))) (.seq (.seq (.reg r26_3) (.block 0 (.loop b26_0))) (.seq (.reg r26_8) (.ret))))⟩
theorem s26_ok : slimF Try.prog ⟨[94], []⟩ Try.f26 = some s26 := by kernel_rfl
def r27_0 : List SO := [
  ⟨none, some 3, .box 34 2 (.t 0)⟩,
  ⟨none, some 6, .mv (.c (.nilsl))⟩,
  ⟨none, some 7, .mv (.c (.bool false))⟩]
def r27_1 : List SO := [
  ⟨none, some 8, .lazy 35 1⟩]
def r27_2 : List SO := [
  ⟨none, some 19, .load true 2 (.t 3)⟩,
  ⟨none, some 20, .mv (.t 2)⟩,
  ⟨none, some 21, .call false 68 [.t 19, .t 20]⟩,
  ⟨none, some 9, .mv (.t 21)⟩]
def r27_3 : List SO := [
  ⟨none, some 22, .load true 2 (.t 3)⟩,
  ⟨none, some 23, .mv (.t 1)⟩,
  ⟨none, some 24, .call false 68 [.t 22, .t 23]⟩,
  ⟨none, some 25, .len (.t 24)⟩,
  ⟨none, some 26, .mv (.c (.int .i64 0))⟩]
def r27_4 : List SO := [
  ⟨none, some 27, .bin .lss (.t 26) (.t 25)⟩]
def r27_5 : List SO := [
  ⟨none, some 28, .idx 2 (.t 24) (.t 26)⟩,
  ⟨none, some 29, .load true 2 (.t 28)⟩,
  ⟨none, some 11, .alloc 63 [.nilsl, .nilsl]⟩,
  ⟨none, none, .store 2 (.t 11) (.t 29)⟩]
def r27_6 : List SO := [
  ⟨none, some 30, .mv (.t 9)⟩,
  ⟨none, some 31, .len (.t 30)⟩,
  ⟨none, some 32, .mv (.c (.int .i64 0))⟩]
def r27_7 : List SO := [
  ⟨none, some 33, .bin .lss (.t 32) (.t 31)⟩]
def r27_8 : List SO := [
  ⟨none, some 34, .idx 2 (.t 30) (.t 32)⟩,
  ⟨none, some 35, .load true 2 (.t 34)⟩,
  ⟨none, some 13, .alloc 63 [.nilsl, .nilsl]⟩,
  ⟨none, none, .store 2 (.t 13) (.t 35)⟩]
def r27_9 : List SO := [
  ⟨none, some 36, .fld 0 (.t 11)⟩,
  ⟨none, some 37, .load false 1 (.t 36)⟩,
  ⟨none, some 38, .fld 0 (.t 13)⟩,
  ⟨none, some 39, .load false 1 (.t 38)⟩,
  ⟨none, some 40, .call false 69 [.t 37, .t 39]⟩,
  ⟨none, some 14, .mv (.t 40)⟩]
def r27_10 : List SO := [
  ⟨none, some 42, .fld 1 (.t 11)⟩,
  ⟨none, some 43, .load false 1 (.t 42)⟩,
  ⟨none, some 44, .mv (.t 14)⟩,
  ⟨none, some 45, .slice 1 (.t 43) none (some (.t 44))⟩,
  ⟨none, some 46, .fld 1 (.t 13)⟩,
  ⟨none, some 47, .load false 1 (.t 46)⟩,
  ⟨none, some 48, .mv (.t 14)⟩,
  ⟨none, some 49, .slice 1 (.t 47) none (some (.t 48))⟩,
  ⟨none, some 50, .call false 64 [.t 45, .t 49]⟩,
  ⟨none, some 41, .mv (.t 50)⟩,
  ⟨none, some 51, .ext (.t 41) 0⟩,
  ⟨none, some 52, .ext (.t 41) 1⟩,
  ⟨none, some 15, .mv (.t 51)⟩,
  ⟨none, some 16, .mv (.t 52)⟩]
def r27_11 : List SO := [
  ⟨none, some 53, .mv (.t 16)⟩]
def r27_12 : List SO := [
  ⟨none, some 54, .mv (.t 8)⟩,
  ⟨none, some 55, .fld 0 (.t 11)⟩,
  ⟨none, some 56, .load false 1 (.t 55)⟩,
  ⟨none, some 57, .mv (.t 15)⟩,
  ⟨none, some 58, .bin .add (.t 57) (.c (.int .i64 1))⟩,
  ⟨none, some 59, .slice 1 (.t 56) none (some (.t 58))⟩,
  ⟨none, some 60, .bslice 35 1 false [.nilsl] 1 [(0, .t 59)]⟩,
  ⟨none, some 61, .append 35 1 24 (.t 54) (.t 60)⟩,
  ⟨none, some 8, .mv (.t 61)⟩]
def r27_13 : List SO := [
  ⟨none, some 62, .bin .add (.t 32) (.c (.int .i64 1))⟩,
  ⟨none, some 32, .mv (.t 62)⟩]
def b27_1 : SC := .seq (.reg r27_7) (.seq (.cond (.t 33) (.skip) (.exit 2)) (.seq (.block 3 (.seq (.reg r27_8) (.seq (.reg r27_9) (.seq (.reg r27_10) (.seq (.reg r27_11) (.cond (.t 53) (.reg r27_12) (.skip))))))) (.reg r27_13)))
def r27_14 : List SO := [
  ⟨none, some 63, .bin .add (.t 26) (.c (.int .i64 1))⟩,
  ⟨none, some 26, .mv (.t 63)⟩]
def b27_0 : SC := .seq (.reg r27_4) (.seq (.cond (.t 27) (.skip) (.exit 0)) (.seq (.block 1 (.seq (.reg r27_5) (.seq (.reg r27_6) (.block 2 (.loop b27_1))))) (.reg r27_14)))
def r27_15 : List SO := [
  ⟨none, some 65, .mv (.t 8)⟩,
  ⟨none, some 66, .call false 65 [.t 65, .c (.fn 66 [] [])]⟩,
  ⟨none, some 64, .mv (.t 66)⟩,
  ⟨none, some 67, .ext (.t 64) 0⟩,
  ⟨none, some 68, .ext (.t 64) 1⟩,
  ⟨none, some 17, .mv (.t 67)⟩,
  ⟨none, some 18, .mv (.t 68)⟩]
def r27_16 : List SO := [
  ⟨none, some 69, .mv (.t 17)⟩,
  ⟨none, some 70, .call false 63 [.t 69]⟩,
  ⟨none, some 71, .mv (.t 18)⟩,
  ⟨none, some 6, .mv (.t 70)⟩,
  ⟨none, some 7, .mv (.t 71)⟩]
def s27 : SF := ⟨72, [.tmp 6, .tmp 7], .seq (.reg r27_0) (.seq (.reg r27_1) (.seq (.reg r27_2) (.seq (.seq (.reg r27_3) (.block 0 (.loop b27_0))) (.seq (.reg r27_15) (.seq (.reg r27_16) (.ret))))))⟩
theorem s27_ok : slimF Try.prog ⟨[94], [8]⟩ Try.f27 = some s27 := by kernel_rfl
def r29_0 : List SO := [
  ⟨none, some 2, .box 34 2 (.t 0)⟩,
  ⟨none, some 4, .mv (.c (.int .i64 0))⟩]
def r29_1 : List SO := [
  ⟨none, some 5, .lazy 35 1⟩]
def r29_2 : List SO := [
  ⟨none, some 13, .mv (.t 1)⟩,
  ⟨none, some 14, .len (.t 13)⟩,
  ⟨none, some 15, .mv (.c (.int .i64 0))⟩]
def r29_3 : List SO := [
  ⟨none, some 16, .bin .lss (.t 15) (.t 14)⟩]
def r29_4 : List SO := [
  ⟨none, some 17, .idx 1 (.t 13) (.t 15)⟩,
  ⟨none, some 18, .load false 1 (.t 17)⟩,
  ⟨none, some 7, .mv (.t 18)⟩]
def r29_5 : List SO := [
  ⟨none, some 8, .mv (.c (.bool true))⟩]
def r29_6 : List SO := [
  ⟨none, some 19, .mv (.t 5)⟩,
  ⟨none, some 20, .len (.t 19)⟩,
  ⟨none, some 21, .mv (.c (.int .i64 0))⟩]
def r29_7 : List SO := [
  ⟨none, some 22, .bin .lss (.t 21) (.t 20)⟩]
def r29_8 : List SO := [
  ⟨none, some 23, .idx 1 (.t 19) (.t 21)⟩,
  ⟨none, some 24, .load false 1 (.t 23)⟩,
  ⟨none, some 10, .mv (.t 24)⟩]
def r29_9 : List SO := [
  ⟨none, some 26, .load true 2 (.t 2)⟩,
  ⟨none, some 27, .mv (.t 7)⟩,
  ⟨none, some 28, .mv (.t 10)⟩,
  ⟨none, some 29, .call false 27 [.t 26, .t 27, .t 28]⟩,
  ⟨none, some 25, .mv (.t 29)⟩,
  ⟨none, some 30, .ext (.t 25) 0⟩,
  ⟨none, some 31, .ext (.t 25) 1⟩,
  ⟨none, some 11, .mv (.t 30)⟩,
  ⟨none, some 12, .mv (.t 31)⟩]
def r29_10 : List SO := [
  ⟨none, some 32, .mv (.t 8)⟩,
  ⟨none, some 33, .mv (.t 32)⟩,
  ⟨some (33, true), some 34, .mv (.t 12)⟩,
  ⟨none, some 35, .pick (.t 33) (.t 34) (.c (.bool false))⟩,
  ⟨none, some 8, .mv (.t 35)⟩]
def r29_11 : List SO := [
  ⟨none, some 36, .bin .add (.t 21) (.c (.int .i64 1))⟩,
  ⟨none, some 21, .mv (.t 36)⟩]
def b29_1 : SC := .seq (.reg r29_7) (.seq (.cond (.t 22) (.skip) (.exit 2)) (.seq (.block 3 (.seq (.reg r29_8) (.seq (.reg r29_9) (.reg r29_10)))) (.reg r29_11)))
def r29_12 : List SO := [
  ⟨none, some 37, .mv (.t 8)⟩]
def r29_13 : List SO := [
  ⟨none, some 38, .mv (.t 5)⟩,
  ⟨none, some 39, .mv (.t 7)⟩,
  ⟨none, some 40, .bslice 35 1 false [.nilsl] 1 [(0, .t 39)]⟩,
  ⟨none, some 41, .append 35 1 24 (.t 38) (.t 40)⟩,
  ⟨none, some 5, .mv (.t 41)⟩]
def r29_14 : List SO := [
  ⟨none, some 42, .bin .add (.t 15) (.c (.int .i64 1))⟩,
  ⟨none, some 15, .mv (.t 42)⟩]
def b29_0 : SC := .seq (.reg r29_3) (.seq (.cond (.t 16) (.skip) (.exit 0)) (.seq (.block 1 (.seq (.reg r29_4) (.seq (.reg r29_5) (.seq (.seq (.reg r29_6) (.block 2 (.loop b29_1))) (.seq (.reg r29_12) (.cond (.t 37) (.reg r29_13) (.skip))))))) (.reg r29_14)))
def r29_15 : List SO := [
  ⟨none, some 43, .mv (.t 5)⟩,
  ⟨none, some 44, .len (.t 43)⟩,
  ⟨none, some 4, .mv (.t 44)⟩]
def s29 : SF := ⟨45, [.tmp 4], .seq (.reg r29_0) (.seq (.reg r29_1) (.seq (.seq (.reg r29_2) (.block 0 (.loop b29_0))) (.seq (.reg r29_15) (.ret))))⟩
theorem s29_ok : slimF Try.prog ⟨[94], [5]⟩ Try.f29 = some s29 := by kernel_rfl
def r31_0 : List SO := [
  ⟨none, some 1, .box 24 4 (.t 0)⟩,
  ⟨none, some 2, .mv (.c (.bool false))⟩]
def r31_1 : List SO := [
  ⟨none, some 3, .fld 2 (.t 1)⟩,
  ⟨none, some 4, .load false 1 (.t 3)⟩,
  ⟨none, some 5, .len (.t 4)⟩,
  ⟨none, some 6, .bin .gtr (.t 5) (.c (.int .i64 40))⟩,
  ⟨none, some 7, .mv (.t 6)⟩,
  ⟨some (7, false), some 8, .fld 3 (.t 1)⟩,
  ⟨some (7, false), some 9, .load false 1 (.t 8)⟩,
  ⟨some (7, false), some 10, .len (.t 9)⟩,
  ⟨some (7, false), some 11, .bin .gtr (.t 10) (.c (.int .i64 40))⟩,
  ⟨none, some 12, .pick (.t 7) (.c (.bool true)) (.t 11)⟩,
  ⟨none, some 13, .mv (.t 12)⟩,
  ⟨some (13, false), some 14, .fld 0 (.t 1)⟩,
  ⟨some (13, false), some 15, .load false 1 (.t 14)⟩,
  ⟨some (13, false), some 16, .bin .gtr (.t 15) (.c (.int .i64 20))⟩,
  ⟨none, some 17, .pick (.t 13) (.c (.bool true)) (.t 16)⟩,
  ⟨none, some 2, .mv (.t 17)⟩]
def s31 : SF := ⟨18, [.tmp 2], .seq (.reg r31_0) (.seq (.reg r31_1) (.ret))⟩
theorem s31_ok : slimF Try.prog ⟨[94], []⟩ Try.f31 = some s31 := by kernel_rfl
def r37_0 : List SO := [
  ⟨none, some 2, .box 24 4 (.t 0)⟩,
  ⟨none, some 4, .mv (.c (.nilsl))⟩,
  ⟨none, some 5, .mv (.c (.int .i64 0))⟩]
def r37_1 : List SO := [
  ⟨none, some 10, .load true 4 (.t 2)⟩,
  ⟨none, some 11, .fld 1 (.t 2)⟩,
  ⟨none, some 12, .load false 1 (.t 11)⟩,
  ⟨none, some 13, .mv (.t 1)⟩,
  ⟨none, some 14, .call false 56 [.t 10, .t 12, .t 13]⟩,
  ⟨none, some 9, .mv (.t 14)⟩,
  ⟨none, some 15, .ext (.t 9) 0⟩,
  ⟨none, some 16, .ext (.t 9) 1⟩,
  ⟨none, some 17, .ext (.t 9) 2⟩,
  ⟨none, some 6, .mv (.t 15)⟩,
  ⟨none, some 7, .mv (.t 16)⟩,
  ⟨none, some 8, .mv (.t 17)⟩]
def r37_2 : List SO := [
  ⟨none, some 18, .mv (.t 6)⟩,
  ⟨none, some 19, .mv (.t 8)⟩,
  ⟨none, some 4, .mv (.t 18)⟩,
  ⟨none, some 5, .mv (.t 19)⟩]
def s37 : SF := ⟨20, [.tmp 4, .tmp 5], .seq (.reg r37_0) (.seq (.reg r37_1) (.seq (.reg r37_2) (.ret)))⟩
theorem s37_ok : slimF Try.prog ⟨[94], []⟩ Try.f37 = some s37 := by kernel_rfl
def r55_0 : List SO := [
  ⟨none, some 1, .box 24 4 (.t 0)⟩,
  ⟨none, some 2, .mv (.c (.int .i64 0))⟩]
def r55_1 : List SO := [
  ⟨none, some 8, .fld 2 (.t 1)⟩,
  ⟨none, some 9, .load false 1 (.t 8)⟩,
  ⟨none, some 10, .len (.t 9)⟩,
  ⟨none, some 3, .mv (.t 10)⟩]
def r55_2 : List SO := [
  ⟨none, some 12, .fld 0 (.t 1)⟩,
  ⟨none, some 13, .load false 1 (.t 12)⟩,
  ⟨none, some 14, .bin .lss (.t 13) (.c (.int .i64 1))⟩,
  ⟨none, some 15, .mv (.t 14)⟩,
  ⟨some (15, false), some 16, .fld 0 (.t 1)⟩,
  ⟨some (15, false), some 17, .load false 1 (.t 16)⟩,
  ⟨some (15, false), some 18, .bin .gtr (.t 17) (.c (.int .i64 64))⟩,
  ⟨none, some 19, .pick (.t 15) (.c (.bool true)) (.t 18)⟩,
  ⟨none, some 11, .mv (.t 19)⟩]
def r55_3 : List SO := [
  ⟨none, some 2, .mv (.c (.int .i64 2))⟩]
def r55_4 : List SO := [
  ⟨none, some 21, .mv (.t 3)⟩,
  ⟨none, some 22, .bin .eql (.t 21) (.c (.int .i64 0))⟩,
  ⟨none, some 20, .mv (.t 22)⟩]
def r55_5 : List SO := [
  ⟨none, some 2, .mv (.c (.int .i64 19))⟩]
def r55_6 : List SO := [
  ⟨none, some 24, .mv (.t 3)⟩,
  ⟨none, some 25, .bin .gtr (.t 24) (.c (.int .i64 128))⟩,
  ⟨none, some 23, .mv (.t 25)⟩]
def r55_7 : List SO := [
  ⟨none, some 2, .mv (.c (.int .i64 11))⟩]
def r55_8 : List SO := [
  ⟨none, some 27, .fld 1 (.t 1)⟩,
  ⟨none, some 28, .load false 1 (.t 27)⟩,
  ⟨none, some 29, .bin .lss (.t 28) (.c (.int .i64 0))⟩,
  ⟨none, some 30, .mv (.t 29)⟩,
  ⟨some (30, false), some 31, .fld 1 (.t 1)⟩,
  ⟨some (30, false), some 32, .load false 1 (.t 31)⟩,
  ⟨some (30, false), some 33, .mv (.t 3)⟩,
  ⟨some (30, false), some 34, .bin .geq (.t 32) (.t 33)⟩,
  ⟨none, some 35, .pick (.t 30) (.c (.bool true)) (.t 34)⟩,
  ⟨none, some 26, .mv (.t 35)⟩]
def r55_9 : List SO := [
  ⟨none, some 2, .mv (.c (.int .i64 2))⟩]
def r55_10 : List SO := [
  ⟨none, some 37, .fld 3 (.t 1)⟩,
  ⟨none, some 38, .load false 1 (.t 37)⟩,
  ⟨none, some 39, .len (.t 38)⟩,
  ⟨none, some 40, .mv (.t 3)⟩,
  ⟨none, some 41, .bin .neq (.t 39) (.t 40)⟩,
  ⟨none, some 36, .mv (.t 41)⟩]
def r55_11 : List SO := [
  ⟨none, some 2, .mv (.c (.int .i64 1))⟩]
def r55_12 : List SO := [
  ⟨none, some 42, .mv (.t 3)⟩,
  ⟨none, some 43, .mv (.c (.int .i64 0))⟩]
def r55_13 : List SO := [
  ⟨none, some 44, .bin .lss (.t 43) (.t 42)⟩]
def r55_14 : List SO := [
  ⟨none, some 45, .mv (.t 43)⟩,
  ⟨none, some 4, .mv (.t 45)⟩]
def r55_15 : List SO := [
  ⟨none, some 46, .fld 2 (.t 1)⟩,
  ⟨none, some 47, .load false 1 (.t 46)⟩,
  ⟨none, some 48, .mv (.t 4)⟩,
  ⟨none, some 49, .idx 1 (.t 47) (.t 48)⟩,
  ⟨none, some 50, .load false 1 (.t 49)⟩,
  ⟨none, some 51, .len (.t 50)⟩,
  ⟨none, some 52, .fld 0 (.t 1)⟩,
  ⟨none, some 53, .load false 1 (.t 52)⟩,
  ⟨none, some 54, .bin .neq (.t 51) (.t 53)⟩,
  ⟨none, some 55, .mv (.t 54)⟩,
  ⟨some (55, false), some 56, .fld 3 (.t 1)⟩,
  ⟨some (55, false), some 57, .load false 1 (.t 56)⟩,
  ⟨some (55, false), some 58, .mv (.t 4)⟩,
  ⟨some (55, false), some 59, .idx 1 (.t 57) (.t 58)⟩,
  ⟨some (55, false), some 60, .load false 1 (.t 59)⟩,
  ⟨some (55, false), some 61, .len (.t 60)⟩,
  ⟨some (55, false), some 62, .fld 0 (.t 1)⟩,
  ⟨some (55, false), some 63, .load false 1 (.t 62)⟩,
  ⟨some (55, false), some 64, .bin .neq (.t 61) (.t 63)⟩,
  ⟨none, some 65, .pick (.t 55) (.c (.bool true)) (.t 64)⟩]
def r55_16 : List SO := [
  ⟨none, some 2, .mv (.c (.int .i64 1))⟩]
def r55_17 : List SO := [
  ⟨none, some 66, .fld 0 (.t 1)⟩,
  ⟨none, some 67, .load false 1 (.t 66)⟩,
  ⟨none, some 68, .mv (.c (.int .i64 0))⟩]
def r55_18 : List SO := [
  ⟨none, some 69, .bin .lss (.t 68) (.t 67)⟩]
def r55_19 : List SO := [
  ⟨none, some 70, .mv (.t 68)⟩,
  ⟨none, some 5, .mv (.t 70)⟩]
def r55_20 : List SO := [
  ⟨none, some 71, .fld 2 (.t 1)⟩,
  ⟨none, some 72, .load false 1 (.t 71)⟩,
  ⟨none, some 73, .mv (.t 4)⟩,
  ⟨none, some 74, .idx 1 (.t 72) (.t 73)⟩,
  ⟨none, some 75, .load false 1 (.t 74)⟩,
  ⟨none, some 76, .mv (.t 5)⟩,
  ⟨none, some 77, .idx 1 (.t 75) (.t 76)⟩,
  ⟨none, some 78, .load false 1 (.t 77)⟩,
  ⟨none, some 79, .fld 3 (.t 1)⟩,
  ⟨none, some 80, .load false 1 (.t 79)⟩,
  ⟨none, some 81, .mv (.t 4)⟩,
  ⟨none, some 82, .idx 1 (.t 80) (.t 81)⟩,
  ⟨none, some 83, .load false 1 (.t 82)⟩,
  ⟨none, some 84, .mv (.t 5)⟩,
  ⟨none, some 85, .idx 1 (.t 83) (.t 84)⟩,
  ⟨none, some 86, .load false 1 (.t 85)⟩,
  ⟨none, some 6, .mv (.t 78)⟩,
  ⟨none, some 7, .mv (.t 86)⟩]
def r55_21 : List SO := [
  ⟨none, some 87, .mv (.t 6)⟩,
  ⟨none, some 88, .bin .lss (.t 87) (.c (.int .i64 0))⟩,
  ⟨none, some 89, .mv (.t 88)⟩,
  ⟨some (89, false), some 90, .mv (.t 6)⟩,
  ⟨some (89, false), some 91, .mv (.t 3)⟩,
  ⟨some (89, false), some 92, .bin .geq (.t 90) (.t 91)⟩,
  ⟨none, some 93, .pick (.t 89) (.c (.bool true)) (.t 92)⟩,
  ⟨none, some 94, .mv (.t 93)⟩,
  ⟨some (94, false), some 95, .mv (.t 7)⟩,
  ⟨some (94, false), some 96, .bin .lss (.t 95) (.c (.int .i64 0))⟩,
  ⟨none, some 97, .pick (.t 94) (.c (.bool true)) (.t 96)⟩,
  ⟨none, some 98, .mv (.t 97)⟩,
  ⟨some (98, false), some 99, .mv (.t 7)⟩,
  ⟨some (98, false), some 100, .bin .gtr (.t 99) (.c (.int .i64 1048576))⟩,
  ⟨none, some 101, .pick (.t 98) (.c (.bool true)) (.t 100)⟩]
def r55_22 : List SO := [
  ⟨none, some 2, .mv (.c (.int .i64 2))⟩]
def r55_23 : List SO := [
  ⟨none, some 102, .bin .add (.t 68) (.c (.int .i64 1))⟩,
  ⟨none, some 68, .mv (.t 102)⟩]
def b55_1 : SC := .seq (.reg r55_18) (.seq (.cond (.t 69) (.skip) (.exit 3)) (.seq (.block 4 (.seq (.reg r55_19) (.seq (.reg r55_20) (.seq (.reg r55_21) (.cond (.t 101) (.seq (.reg r55_22) (.ret)) (.skip)))))) (.reg r55_23)))
def r55_24 : List SO := [
  ⟨none, some 103, .bin .add (.t 43) (.c (.int .i64 1))⟩,
  ⟨none, some 43, .mv (.t 103)⟩]
def b55_0 : SC := .seq (.reg r55_13) (.seq (.cond (.t 44) (.skip) (.exit 1)) (.seq (.block 2 (.seq (.reg r55_14) (.seq (.seq (.reg r55_15) (.cond (.t 65) (.seq (.reg r55_16) (.ret)) (.skip))) (.seq (.reg r55_17) (.block 3 (.loop b55_1)))))) (.reg r55_24)))
def r55_25 : List SO := [
  ⟨none, some 2, .mv (.c (.int .i64 0))⟩]
def s55 : SF := ⟨104, [.tmp 2], .seq (.reg r55_0) (.seq (.reg r55_1) (.seq (.block 0 (.seq (.reg r55_2) (.cond (.t 11) (.seq (.reg r55_3) (.ret)) (.seq (.reg r55_4) (.cond (.t 20) (.seq (.reg r55_5) (.ret)) (.seq (.reg r55_6) (.cond (.t 23) (.seq (.reg r55_7) (.ret)) (.seq (.reg r55_8) (.cond (.t 26) (.seq (.reg r55_9) (.ret)) (.seq (.reg r55_10) (.cond (.t 36) (.seq (.reg r55_11) (.ret)) (.skip)))))))))))) (.seq (.seq (.reg r55_12) (.block 1 (.loop b55_0))) (.seq (.reg r55_25) (.ret)))))⟩
theorem s55_ok : slimF Try.prog ⟨[94], []⟩ Try.f55 = some s55 := by kernel_rfl
def r56_0 : List SO := [
  ⟨none, some 3, .box 24 4 (.t 0)⟩,
  ⟨none, some 6, .mv (.c (.nilsl))⟩,
  ⟨none, some 7, .mv (.c (.int .i64 0))⟩,
  ⟨none, some 8, .mv (.c (.int .i64 0))⟩]
def r56_1 : List SO := [
  ⟨none, some 13, .load true 4 (.t 3)⟩,
  ⟨none, some 14, .mv (.t 1)⟩,
  ⟨none, some 15, .call false 93 [.t 13, .t 14]⟩,
  ⟨none, some 9, .mv (.t 15)⟩]
def r56_2 : List SO := [
  ⟨none, some 16, .mv (.t 9)⟩,
  ⟨none, some 17, .bin .neq (.t 16) (.c (.int .i64 0))⟩]
def r56_3 : List SO := [
  ⟨none, some 18, .mv (.t 9)⟩,
  ⟨none, some 6, .mv (.c (.nilsl))⟩,
  ⟨none, some 7, .mv (.c (.int .i64 0))⟩,
  ⟨none, some 8, .mv (.t 18)⟩]
def r56_4 : List SO := [
  ⟨none, some 19, .mv (.t 2)⟩,
  ⟨none, some 20, .fld 0 (.t 3)⟩,
  ⟨none, some 21, .load false 1 (.t 20)⟩,
  ⟨none, some 22, .call false 77 [.t 19, .t 21]⟩,
  ⟨none, some 10, .mv (.t 22)⟩]
def r56_5 : List SO := [
  ⟨none, some 23, .mv (.t 10)⟩,
  ⟨none, some 24, .bin .neq (.t 23) (.c (.int .i64 0))⟩]
def r56_6 : List SO := [
  ⟨none, some 25, .mv (.t 10)⟩,
  ⟨none, some 6, .mv (.c (.nilsl))⟩,
  ⟨none, some 7, .mv (.c (.int .i64 0))⟩,
  ⟨none, some 8, .mv (.t 25)⟩]
def r56_7 : List SO := [
  ⟨none, some 26, .load true 4 (.t 3)⟩,
  ⟨none, some 27, .build [.int .i64 0, .int .i64 0, .nilsl, .nilsl] [(0, 4, .t 26)]⟩,
  ⟨none, some 28, .mv (.t 1)⟩,
  ⟨none, some 29, .build [.int .i64 0, .int .i64 0, .nilsl, .nilsl, .int .i64 0] [(0, 4, .t 27), (4, 1, .t 28)]⟩,
  ⟨none, some 30, .box 122 5 (.t 29)⟩,
  ⟨none, some 11, .mv (.t 30)⟩]
def r56_8 : List SO := [
  ⟨none, some 31, .mv (.t 11)⟩,
  ⟨none, some 32, .mv (.t 2)⟩,
  ⟨none, some 33, .call true 94 [.t 31, .t 32]⟩,
  ⟨none, some 12, .mv (.t 33)⟩]
def r56_9 : List SO := [
  ⟨none, some 34, .mv (.t 12)⟩,
  ⟨none, some 35, .mv (.t 11)⟩,
  ⟨none, some 36, .nilck (.t 35)⟩,
  ⟨none, some 37, .fld 4 (.t 36)⟩,
  ⟨none, some 38, .load false 1 (.t 37)⟩,
  ⟨none, some 6, .mv (.t 34)⟩,
  ⟨none, some 7, .mv (.t 38)⟩,
  ⟨none, some 8, .mv (.c (.int .i64 0))⟩]
def s56 : SF := ⟨39, [.tmp 6, .tmp 7, .tmp 8], .seq (.reg r56_0) (.seq (.seq (.reg r56_1) (.seq (.reg r56_2) (.cond (.t 17) (.seq (.reg r56_3) (.ret)) (.skip)))) (.seq (.seq (.reg r56_4) (.seq (.reg r56_5) (.cond (.t 24) (.seq (.reg r56_6) (.ret)) (.skip)))) (.seq (.reg r56_7) (.seq (.reg r56_8) (.seq (.reg r56_9) (.ret))))))⟩
theorem s56_ok : slimF Try.prog ⟨[94], []⟩ Try.f56 = some s56 := by kernel_rfl
def r57_0 : List SO := [
  ⟨none, some 1, .box 24 4 (.t 0)⟩,
  ⟨none, some 2, .mv (.c (.int .i64 0))⟩]
def r57_1 : List SO := [
  ⟨none, some 5, .fld 0 (.t 1)⟩,
  ⟨none, some 6, .load false 1 (.t 5)⟩,
  ⟨none, some 7, .bin .lss (.t 6) (.c (.int .i64 1))⟩,
  ⟨none, some 8, .mv (.t 7)⟩,
  ⟨some (8, false), some 9, .fld 0 (.t 1)⟩,
  ⟨some (8, false), some 10, .load false 1 (.t 9)⟩,
  ⟨some (8, false), some 11, .bin .gtr (.t 10) (.c (.int .i64 64))⟩,
  ⟨none, some 12, .pick (.t 8) (.c (.bool true)) (.t 11)⟩]
def r57_2 : List SO := [
  ⟨none, some 2, .mv (.c (.int .i64 2))⟩]
def r57_3 : List SO := [
  ⟨none, some 13, .fld 2 (.t 1)⟩,
  ⟨none, some 14, .load false 1 (.t 13)⟩,
  ⟨none, some 15, .len (.t 14)⟩,
  ⟨none, some 16, .bin .eql (.t 15) (.c (.int .i64 0))⟩]
def r57_4 : List SO := [
  ⟨none, some 2, .mv (.c (.int .i64 19))⟩]
def r57_5 : List SO := [
  ⟨none, some 17, .fld 2 (.t 1)⟩,
  ⟨none, some 18, .load false 1 (.t 17)⟩,
  ⟨none, some 19, .len (.t 18)⟩,
  ⟨none, some 20, .bin .gtr (.t 19) (.c (.int .i64 128))⟩]
def r57_6 : List SO := [
  ⟨none, some 2, .mv (.c (.int .i64 11))⟩]
def r57_7 : List SO := [
  ⟨none, some 21, .fld 1 (.t 1)⟩,
  ⟨none, some 22, .load false 1 (.t 21)⟩,
  ⟨none, some 23, .bin .lss (.t 22) (.c (.int .i64 0))⟩,
  ⟨none, some 24, .mv (.t 23)⟩,
  ⟨some (24, false), some 25, .fld 1 (.t 1)⟩,
  ⟨some (24, false), some 26, .load false 1 (.t 25)⟩,
  ⟨some (24, false), some 27, .fld 2 (.t 1)⟩,
  ⟨some (24, false), some 28, .load false 1 (.t 27)⟩,
  ⟨some (24, false), some 29, .len (.t 28)⟩,
  ⟨some (24, false), some 30, .bin .geq (.t 26) (.t 29)⟩,
  ⟨none, some 31, .pick (.t 24) (.c (.bool true)) (.t 30)⟩]
def r57_8 : List SO := [
  ⟨none, some 2, .mv (.c (.int .i64 2))⟩]
def r57_9 : List SO := [
  ⟨none, some 32, .fld 3 (.t 1)⟩,
  ⟨none, some 33, .load false 1 (.t 32)⟩,
  ⟨none, some 34, .len (.t 33)⟩,
  ⟨none, some 35, .fld 2 (.t 1)⟩,
  ⟨none, some 36, .load false 1 (.t 35)⟩,
  ⟨none, some 37, .len (.t 36)⟩,
  ⟨none, some 38, .bin .neq (.t 34) (.t 37)⟩]
def r57_10 : List SO := [
  ⟨none, some 2, .mv (.c (.int .i64 1))⟩]
def r57_11 : List SO := [
  ⟨none, some 3, .mv (.c (.int .i64 0))⟩]
def r57_12 : List SO := [
  ⟨none, some 39, .mv (.t 3)⟩,
  ⟨none, some 40, .fld 2 (.t 1)⟩,
  ⟨none, some 41, .load false 1 (.t 40)⟩,
  ⟨none, some 42, .len (.t 41)⟩,
  ⟨none, some 43, .bin .lss (.t 39) (.t 42)⟩]
def r57_14 : List SO := [
  ⟨none, some 46, .load true 4 (.t 1)⟩,
  ⟨none, some 47, .mv (.t 3)⟩,
  ⟨none, some 48, .call false 95 [.t 46, .t 47]⟩,
  ⟨none, some 4, .mv (.t 48)⟩]
def r57_15 : List SO := [
  ⟨none, some 49, .mv (.t 4)⟩,
  ⟨none, some 50, .bin .neq (.t 49) (.c (.int .i64 0))⟩]
def r57_16 : List SO := [
  ⟨none, some 51, .mv (.t 4)⟩,
  ⟨none, some 2, .mv (.t 51)⟩]
def r57_13 : List SO := [
  ⟨none, some 44, .mv (.t 3)⟩,
  ⟨none, some 45, .bin .add (.t 44) (.c (.int .i64 1))⟩,
  ⟨none, some 3, .mv (.t 45)⟩]
def b57_0 : SC := .seq (.seq (.reg r57_12) (.cond (.t 43) (.skip) (.exit 0))) (.seq (.block 1 (.seq (.reg r57_14) (.seq (.reg r57_15) (.cond (.t 50) (.seq (.reg r57_16) (.ret)) (.skip))))) (.reg r57_13))
def r57_17 : List SO := [
  ⟨none, some 2, .mv (.c (.int .i64 0))⟩]
def s57 : SF := ⟨52, [.tmp 2], .seq (.reg r57_0) (.seq (.seq (.reg r57_1) (.cond (.t 12) (.seq (.reg r57_2) (.ret)) (.skip))) (.seq (.seq (.reg r57_3) (.cond (.t 16) (.seq (.reg r57_4) (.ret)) (.skip))) (.seq (.seq (.reg r57_5) (.cond (.t 20) (.seq (.reg r57_6) (.ret)) (.skip))) (.seq (.seq (.reg r57_7) (.cond (.t 31) (.seq (.reg r57_8) (.ret)) (.skip))) (.seq (.seq (.reg r57_9) (.cond (.t 38) (.seq (.reg r57_10) (.ret)) (.skip))) (.seq (.seq (.reg r57_11) (.block 0 (.loop b57_0))) (.seq (.reg r57_17) (.ret))))))))⟩
theorem s57_ok : slimF Try.prog ⟨[94], []⟩ Try.f57 = some s57 := by kernel_rfl
def r58_0 : List SO := [
  ⟨none, some 4, .mv (.c (.int .i64 0))⟩]
def r58_1 : List SO := [
  ⟨none, some 6, .mv (.t 1)⟩,
  ⟨none, some 7, .call false 96 [.t 6]⟩,
  ⟨none, some 8, .un .not (.t 7)⟩]
def r58_2 : List SO := [
  ⟨none, some 4, .mv (.c (.int .i64 2))⟩]
def r58_3 : List SO := [
  ⟨none, some 9, .mv (.t 0)⟩,
  ⟨none, some 10, .len (.t 9)⟩,
  ⟨none, some 11, .bin .gtr (.t 10) (.c (.int .i64 1024))⟩]
def r58_4 : List SO := [
  ⟨none, some 4, .mv (.c (.int .i64 3))⟩]
def r58_5 : List SO := [
  ⟨none, some 5, .mv (.c (.int .i64 0))⟩]
def r58_6 : List SO := [
  ⟨none, some 12, .mv (.t 5)⟩,
  ⟨none, some 13, .mv (.t 0)⟩,
  ⟨none, some 14, .len (.t 13)⟩,
  ⟨none, some 15, .bin .lss (.t 12) (.t 14)⟩]
def r58_8 : List SO := [
  ⟨none, some 18, .mv (.t 0)⟩,
  ⟨none, some 19, .mv (.t 5)⟩,
  ⟨none, some 20, .idx 1 (.t 18) (.t 19)⟩,
  ⟨none, some 21, .load false 1 (.t 20)⟩,
  ⟨none, some 22, .bin .lss (.t 21) (.c (.int .i64 0))⟩,
  ⟨none, some 23, .mv (.t 22)⟩,
  ⟨some (23, false), some 24, .mv (.t 0)⟩,
  ⟨some (23, false), some 25, .mv (.t 5)⟩,
  ⟨some (23, false), some 26, .idx 1 (.t 24) (.t 25)⟩,
  ⟨some (23, false), some 27, .load false 1 (.t 26)⟩,
  ⟨some (23, false), some 28, .mv (.t 1)⟩,
  ⟨some (23, false), some 29, .bin .geq (.t 27) (.t 28)⟩,
  ⟨none, some 30, .pick (.t 23) (.c (.bool true)) (.t 29)⟩]
def r58_9 : List SO := [
  ⟨none, some 4, .mv (.c (.int .i64 1))⟩]
def r58_7 : List SO := [
  ⟨none, some 16, .mv (.t 5)⟩,
  ⟨none, some 17, .bin .add (.t 16) (.c (.int .i64 1))⟩,
  ⟨none, some 5, .mv (.t 17)⟩]
def b58_0 : SC := .seq (.seq (.reg r58_6) (.cond (.t 15) (.skip) (.exit 0))) (.seq (.block 1 (.seq (.reg r58_8) (.cond (.t 30) (.seq (.reg r58_9) (.ret)) (.skip)))) (.reg r58_7))
def r58_10 : List SO := [
  ⟨none, some 4, .mv (.c (.int .i64 0))⟩]
def s58 : SF := ⟨31, [.tmp 4], .seq (.reg r58_0) (.seq (.seq (.reg r58_1) (.cond (.t 8) (.seq (.reg r58_2) (.ret)) (.skip))) (.seq (.seq (.reg r58_3) (.cond (.t 11) (.seq (.reg r58_4) (.ret)) (.skip))) (.seq (.seq (.reg r58_5) (.block 0 (.loop b58_0))) (.seq (.reg r58_10) (.ret)))))⟩
theorem s58_ok : slimF Try.prog ⟨[94], []⟩ Try.f58 = some s58 := by kernel_rfl
def r59_0 : List SO := [
  ⟨none, some 3, .box 24 4 (.t 0)⟩,
  ⟨none, some 6, .mv (.c (.nilsl))⟩,
  ⟨none, some 7, .mv (.c (.int .i64 0))⟩]
def r59_1 : List SO := [
  ⟨none, some 8, .lazy 3 1⟩]
def r59_2 : List SO := [
  ⟨none, some 9, .mv (.c (.int .i64 0))⟩]
def r59_3 : List SO := [
  ⟨none, some 10, .mv (.t 9)⟩,
  ⟨none, some 11, .mv (.t 2)⟩,
  ⟨none, some 12, .len (.t 11)⟩,
  ⟨none, some 13, .bin .lss (.t 10) (.t 12)⟩]
def r59_5 : List SO := [
  ⟨none, some 16, .mv (.t 8)⟩,
  ⟨none, some 17, .fld 3 (.t 3)⟩,
  ⟨none, some 18, .load false 1 (.t 17)⟩,
  ⟨none, some 19, .mv (.t 1)⟩,
  ⟨none, some 20, .idx 1 (.t 18) (.t 19)⟩,
  ⟨none, some 21, .load false 1 (.t 20)⟩,
  ⟨none, some 22, .mv (.t 2)⟩,
  ⟨none, some 23, .mv (.t 9)⟩,
  ⟨none, some 24, .idx 1 (.t 22) (.t 23)⟩,
  ⟨none, some 25, .load false 1 (.t 24)⟩,
  ⟨none, some 26, .idx 1 (.t 21) (.t 25)⟩,
  ⟨none, some 27, .load false 1 (.t 26)⟩,
  ⟨none, some 28, .bslice 3 1 false [.int .i64 0] 1 [(0, .t 27)]⟩,
  ⟨none, some 29, .append 3 1 8 (.t 16) (.t 28)⟩,
  ⟨none, some 8, .mv (.t 29)⟩]
def r59_6 : List SO := [
  ⟨none, some 30, .fld 2 (.t 3)⟩,
  ⟨none, some 31, .load false 1 (.t 30)⟩,
  ⟨none, some 32, .mv (.t 1)⟩,
  ⟨none, some 33, .idx 1 (.t 31) (.t 32)⟩,
  ⟨none, some 34, .load false 1 (.t 33)⟩,
  ⟨none, some 35, .mv (.t 2)⟩,
  ⟨none, some 36, .mv (.t 9)⟩,
  ⟨none, some 37, .idx 1 (.t 35) (.t 36)⟩,
  ⟨none, some 38, .load false 1 (.t 37)⟩,
  ⟨none, some 39, .idx 1 (.t 34) (.t 38)⟩,
  ⟨none, some 40, .load false 1 (.t 39)⟩,
  ⟨none, some 1, .mv (.t 40)⟩]
def r59_4 : List SO := [
  ⟨none, some 14, .mv (.t 9)⟩,
  ⟨none, some 15, .bin .add (.t 14) (.c (.int .i64 1))⟩,
  ⟨none, some 9, .mv (.t 15)⟩]
def b59_0 : SC := .seq (.seq (.reg r59_3) (.cond (.t 13) (.skip) (.exit 0))) (.seq (.block 1 (.seq (.reg r59_5) (.reg r59_6))) (.reg r59_4))
def r59_7 : List SO := [
  ⟨none, some 41, .mv (.t 8)⟩,
  ⟨none, some 42, .mv (.t 1)⟩,
  ⟨none, some 6, .mv (.t 41)⟩,
  ⟨none, some 7, .mv (.t 42)⟩]
def s59 : SF := ⟨43, [.tmp 6, .tmp 7], .seq (.reg r59_0) (.seq (.reg r59_1) (.seq (.seq (.reg r59_2) (.block 0 (.loop b59_0))) (.seq (.reg r59_7) (.ret))))⟩
theorem s59_ok : slimF Try.prog ⟨[94], [8]⟩ Try.f59 = some s59 := by kernel_rfl
def r63_0 : List SO := [
  ⟨none, some 2, .mv (.c (.nilsl))⟩]
def r63_1 : List SO := [
  ⟨none, some 3, .mv (.t 0)⟩,
  ⟨none, some 4, .isnil false (.t 3)⟩]
def r63_2 : List SO := [
  ⟨none, some 2, .mv (.c (.nilsl))⟩]
def r63_3 : List SO := [
  ⟨none, some 5, .bslice 3 1 true [.int .i64 0] 0 []⟩,
  ⟨none, some 6, .mv (.t 0)⟩,
  ⟨none, some 7, .append 3 1 8 (.t 5) (.t 6)⟩,
  ⟨none, some 2, .mv (.t 7)⟩]
def s63 : SF := ⟨8, [.tmp 2], .seq (.reg r63_0) (.seq (.seq (.reg r63_1) (.cond (.t 4) (.seq (.reg r63_2) (.ret)) (.skip))) (.seq (.reg r63_3) (.ret)))⟩
theorem s63_ok : slimF Try.prog ⟨[94], [5]⟩ Try.f63 = some s63 := by kernel_rfl
def r64_0 : List SO := [
  ⟨none, some 4, .mv (.c (.int .i64 0))⟩,
  ⟨none, some 5, .mv (.c (.bool false))⟩]
def r64_1 : List SO := [
  ⟨none, some 7, .mv (.t 0)⟩,
  ⟨none, some 8, .len (.t 7)⟩,
  ⟨none, some 9, .mv (.t 1)⟩,
  ⟨none, some 10, .len (.t 9)⟩,
  ⟨none, some 11, .mn (.t 8) (.t 10)⟩,
  ⟨none, some 12, .mv (.c (.int .i64 0))⟩]
def r64_2 : List SO := [
  ⟨none, some 13, .bin .lss (.t 12) (.t 11)⟩]
def r64_3 : List SO := [
  ⟨none, some 14, .mv (.t 12)⟩,
  ⟨none, some 6, .mv (.t 14)⟩]
def r64_4 : List SO := [
  ⟨none, some 15, .mv (.t 0)⟩,
  ⟨none, some 16, .mv (.t 6)⟩,
  ⟨none, some 17, .idx 1 (.t 15) (.t 16)⟩,
  ⟨none, some 18, .load false 1 (.t 17)⟩,
  ⟨none, some 19, .mv (.t 1)⟩,
  ⟨none, some 20, .mv (.t 6)⟩,
  ⟨none, some 21, .idx 1 (.t 19) (.t 20)⟩,
  ⟨none, some 22, .load false 1 (.t 21)⟩,
  ⟨none, some 23, .bin .neq (.t 18) (.t 22)⟩]
def r64_5 : List SO := [
  ⟨none, some 24, .mv (.t 6)⟩,
  ⟨none, some 4, .mv (.t 24)⟩,
  ⟨none, some 5, .mv (.c (.bool true))⟩]
def r64_6 : List SO := [
  ⟨none, some 25, .bin .add (.t 12) (.c (.int .i64 1))⟩,
  ⟨none, some 12, .mv (.t 25)⟩]
def b64_0 : SC := .seq (.reg r64_2) (.seq (.cond (.t 13) (.skip) (.exit 0)) (.seq (.block 1 (.seq (.reg r64_3) (.seq (.reg r64_4) (.cond (.t 23) (.seq (.reg r64_5) (.ret)) (.skip))))) (.reg r64_6)))
def r64_7 : List SO := [
  ⟨none, some 4, .mv (.c (.int .i64 0))⟩,
  ⟨none, some 5, .mv (.c (.bool false))⟩]
def s64 : SF := ⟨26, [.tmp 4, .tmp 5], .seq (.reg r64_0) (.seq (.seq (.reg r64_1) (.block 0 (.loop b64_0))) (.seq (.reg r64_7) (.ret)))⟩
theorem s64_ok : slimF Try.prog ⟨[94], []⟩ Try.f64 = some s64 := by kernel_rfl
def r65_0 : List SO := [
  ⟨none, some 4, .mv (.c (.nilsl))⟩,
  ⟨none, some 5, .mv (.c (.bool false))⟩]
def r65_1 : List SO := [
  ⟨none, some 6, .mv (.c (.nilsl))⟩]
def r65_2 : List SO := [
  ⟨none, some 7, .mv (.t 0)⟩,
  ⟨none, some 8, .len (.t 7)⟩,
  ⟨none, some 9, .bin .eql (.t 8) (.c (.int .i64 0))⟩]
def r65_3 : List SO := [
  ⟨none, some 10, .mv (.t 6)⟩,
  ⟨none, some 4, .mv (.t 10)⟩,
  ⟨none, some 5, .mv (.c (.bool false))⟩]
def r65_4 : List SO := [
  ⟨none, some 11, .mv (.t 0)⟩,
  ⟨none, some 12, .mv (.t 1)⟩,
  ⟨none, some 13, .call false 98 [.t 11, .t 12]⟩,
  ⟨none, some 4, .mv (.t 13)⟩,
  ⟨none, some 5, .mv (.c (.bool true))⟩]
def s65 : SF := ⟨14, [.tmp 4, .tmp 5], .seq (.reg r65_0) (.seq (.reg r65_1) (.seq (.seq (.reg r65_2) (.cond (.t 9) (.seq (.reg r65_3) (.ret)) (.skip))) (.seq (.reg r65_4) (.ret))))⟩
theorem s65_ok : slimF Try.prog ⟨[94], []⟩ Try.f65 = some s65 := by kernel_rfl
def r66_0 : List SO := [
  ⟨none, some 4, .mv (.c (.int .i64 0))⟩]
def r66_1 : List SO := [
  ⟨none, some 5, .mv (.t 0)⟩,
  ⟨none, some 6, .len (.t 5)⟩,
  ⟨none, some 7, .mv (.t 1)⟩,
  ⟨none, some 8, .len (.t 7)⟩,
  ⟨none, some 9, .call false 100 [.t 6, .t 8]⟩,
  ⟨none, some 10, .mv (.t 0)⟩,
  ⟨none, some 11, .mv (.t 1)⟩,
  ⟨none, some 12, .call false 101 [.t 10, .t 11]⟩,
  ⟨none, some 13, .bslice 3 1 false [.int .i64 0] 2 [(0, .t 9), (1, .t 12)]⟩,
  ⟨none, some 14, .call false 99 [.t 13]⟩,
  ⟨none, some 4, .mv (.t 14)⟩]
def s66 : SF := ⟨15, [.tmp 4], .seq (.reg r66_0) (.seq (.reg r66_1) (.ret))⟩
theorem s66_ok : slimF Try.prog ⟨[94], []⟩ Try.f66 = some s66 := by kernel_rfl
def r68_0 : List SO := [
  ⟨none, some 2, .box 34 2 (.t 0)⟩,
  ⟨none, some 4, .mv (.c (.nilsl))⟩]
def r68_1 : List SO := [
  ⟨none, some 5, .lazy 63 2⟩]
def r68_2 : List SO := [
  ⟨none, some 8, .fld 1 (.t 2)⟩,
  ⟨none, some 9, .load false 1 (.t 8)⟩,
  ⟨none, some 10, .len (.t 9)⟩,
  ⟨none, some 11, .mv (.c (.int .i64 0))⟩]
def r68_3 : List SO := [
  ⟨none, some 12, .bin .lss (.t 11) (.t 10)⟩]
def r68_4 : List SO := [
  ⟨none, some 13, .idx 2 (.t 9) (.t 11)⟩,
  ⟨none, some 14, .load true 2 (.t 13)⟩,
  ⟨none, some 7, .alloc 63 [.nilsl, .nilsl]⟩,
  ⟨none, none, .store 2 (.t 7) (.t 14)⟩]
def r68_5 : List SO := [
  ⟨none, some 15, .fld 0 (.t 7)⟩,
  ⟨none, some 16, .load false 1 (.t 15)⟩,
  ⟨none, some 17, .mv (.t 1)⟩,
  ⟨none, some 18, .call false 76 [.t 16, .t 17]⟩]
def r68_6 : List SO := [
  ⟨none, some 19, .mv (.t 5)⟩,
  ⟨none, some 20, .fld 0 (.t 7)⟩,
  ⟨none, some 21, .load false 1 (.t 20)⟩,
  ⟨none, some 22, .mv (.t 1)⟩,
  ⟨none, some 23, .len (.t 22)⟩,
  ⟨none, some 24, .slice 1 (.t 21) (some (.t 23)) none⟩,
  ⟨none, some 25, .fld 1 (.t 7)⟩,
  ⟨none, some 26, .load false 1 (.t 25)⟩,
  ⟨none, some 27, .mv (.t 1)⟩,
  ⟨none, some 28, .len (.t 27)⟩,
  ⟨none, some 29, .slice 1 (.t 26) (some (.t 28)) none⟩,
  ⟨none, some 30, .build [.nilsl, .nilsl] [(0, 1, .t 24), (1, 1, .t 29)]⟩,
  ⟨none, some 31, .bslice 63 2 false [.nilsl, .nilsl] 1 [(0, .t 30)]⟩,
  ⟨none, some 32, .append 63 2 48 (.t 19) (.t 31)⟩,
  ⟨none, some 5, .mv (.t 32)⟩]
def r68_7 : List SO := [
  ⟨none, some 33, .bin .add (.t 11) (.c (.int .i64 1))⟩,
  ⟨none, some 11, .mv (.t 33)⟩]
def b68_0 : SC := .seq (.reg r68_3) (.seq (.cond (.t 12) (.skip) (.exit 0)) (.seq (.block 1 (.seq (.reg r68_4) (.seq (.reg r68_5) (.cond (.t 18) (.reg r68_6) (.skip))))) (.reg r68_7)))
def r68_8 : List SO := [
  ⟨none, some 34, .mv (.t 5)⟩,
  ⟨none, some 4, .mv (.t 34)⟩]
def s68 : SF := ⟨35, [.tmp 4], .seq (.reg r68_0) (.seq (.reg r68_1) (.seq (.seq (.reg r68_2) (.block 0 (.loop b68_0))) (.seq (.reg r68_8) (.ret))))⟩
theorem s68_ok : slimF Try.prog ⟨[94], [5]⟩ Try.f68 = some s68 := by kernel_rfl
def r69_0 : List SO := [
  ⟨none, some 4, .mv (.c (.int .i64 0))⟩]
def r69_1 : List SO := [
  ⟨none, some 6, .mv (.t 0)⟩,
  ⟨none, some 7, .len (.t 6)⟩,
  ⟨none, some 8, .mv (.t 1)⟩,
  ⟨none, some 9, .len (.t 8)⟩,
  ⟨none, some 10, .mn (.t 7) (.t 9)⟩,
  ⟨none, some 11, .mv (.c (.int .i64 0))⟩]
def r69_2 : List SO := [
  ⟨none, some 12, .bin .lss (.t 11) (.t 10)⟩]
def r69_3 : List SO := [
  ⟨none, some 13, .mv (.t 11)⟩,
  ⟨none, some 5, .mv (.t 13)⟩]
def r69_4 : List SO := [
  ⟨none, some 14, .mv (.t 0)⟩,
  ⟨none, some 15, .mv (.t 5)⟩,
  ⟨none, some 16, .idx 1 (.t 14) (.t 15)⟩,
  ⟨none, some 17, .load false 1 (.t 16)⟩,
  ⟨none, some 18, .mv (.t 1)⟩,
  ⟨none, some 19, .mv (.t 5)⟩,
  ⟨none, some 20, .idx 1 (.t 18) (.t 19)⟩,
  ⟨none, some 21, .load false 1 (.t 20)⟩,
  ⟨none, some 22, .bin .neq (.t 17) (.t 21)⟩]
def r69_5 : List SO := [
  ⟨none, some 23, .mv (.t 5)⟩,
  ⟨none, some 4, .mv (.t 23)⟩]
def r69_6 : List SO := [
  ⟨none, some 24, .bin .add (.t 11) (.c (.int .i64 1))⟩,
  ⟨none, some 11, .mv (.t 24)⟩]
def b69_0 : SC := .seq (.reg r69_2) (.seq (.cond (.t 12) (.skip) (.exit 0)) (.seq (.block 1 (.seq (.reg r69_3) (.seq (.reg r69_4) (.cond (.t 22) (.seq (.reg r69_5) (.ret)) (.skip))))) (.reg r69_6)))
def r69_7 : List SO := [
  ⟨none, some 25, .mv (.t 0)⟩,
  ⟨none, some 26, .len (.t 25)⟩,
  ⟨none, some 27, .mv (.t 1)⟩,
  ⟨none, some 28, .len (.t 27)⟩,
  ⟨none, some 29, .mn (.t 26) (.t 28)⟩,
  ⟨none, some 4, .mv (.t 29)⟩]
def s69 : SF := ⟨30, [.tmp 4], .seq (.reg r69_0) (.seq (.seq (.reg r69_1) (.block 0 (.loop b69_0))) (.seq (.reg r69_7) (.ret)))⟩
theorem s69_ok : slimF Try.prog ⟨[94], []⟩ Try.f69 = some s69 := by kernel_rfl
def r76_0 : List SO := [
  ⟨none, some 4, .mv (.c (.bool false))⟩]
def r76_1 : List SO := [
  ⟨none, some 5, .mv (.t 0)⟩,
  ⟨none, some 6, .mv (.t 1)⟩,
  ⟨none, some 7, .call false 69 [.t 5, .t 6]⟩,
  ⟨none, some 8, .mv (.t 1)⟩,
  ⟨none, some 9, .len (.t 8)⟩,
  ⟨none, some 10, .bin .eql (.t 7) (.t 9)⟩,
  ⟨none, some 4, .mv (.t 10)⟩]
def s76 : SF := ⟨11, [.tmp 4], .seq (.reg r76_0) (.seq (.reg r76_1) (.ret))⟩
theorem s76_ok : slimF Try.prog ⟨[94], []⟩ Try.f76 = some s76 := by kernel_rfl
def r77_0 : List SO := [
  ⟨none, some 3, .box 3 1 (.t 1)⟩,
  ⟨none, some 4, .mv (.c (.int .i64 0))⟩]
def r77_1 : List SO := [
  ⟨none, some 6, .load false 1 (.t 3)⟩,
  ⟨none, some 7, .call false 104 [.t 6]⟩,
  ⟨none, some 8, .un .not (.t 7)⟩,
  ⟨none, some 5, .mv (.t 8)⟩]
def r77_2 : List SO := [
  ⟨none, some 4, .mv (.c (.int .i64 2))⟩]
def r77_3 : List SO := [
  ⟨none, some 10, .mv (.t 0)⟩,
  ⟨none, some 11, .len (.t 10)⟩,
  ⟨none, some 12, .bin .gtr (.t 11) (.c (.int .i64 1024))⟩,
  ⟨none, some 9, .mv (.t 12)⟩]
def r77_4 : List SO := [
  ⟨none, some 4, .mv (.c (.int .i64 3))⟩]
def r77_5 : List SO := [
  ⟨none, some 14, .mv (.t 0)⟩,
  ⟨none, some 15, .mkf 106 [.t 3]⟩,
  ⟨none, some 16, .call false 105 [.t 14, .t 15]⟩,
  ⟨none, some 13, .mv (.t 16)⟩]
def r77_6 : List SO := [
  ⟨none, some 4, .mv (.c (.int .i64 1))⟩]
def r77_7 : List SO := [
  ⟨none, some 4, .mv (.c (.int .i64 0))⟩]
def s77 : SF := ⟨17, [.tmp 4], .seq (.reg r77_0) (.seq (.block 0 (.seq (.reg r77_1) (.cond (.t 5) (.seq (.reg r77_2) (.ret)) (.seq (.reg r77_3) (.cond (.t 9) (.seq (.reg r77_4) (.ret)) (.seq (.reg r77_5) (.cond (.t 13) (.seq (.reg r77_6) (.ret)) (.skip)))))))) (.seq (.reg r77_7) (.ret)))⟩
theorem s77_ok : slimF Try.prog ⟨[94], []⟩ Try.f77 = some s77 := by kernel_rfl
def r93_0 : List SO := [
  ⟨none, some 2, .box 24 4 (.t 0)⟩,
  ⟨none, some 4, .mv (.c (.int .i64 0))⟩]
def r93_1 : List SO := [
  ⟨none, some 6, .load true 4 (.t 2)⟩,
  ⟨none, some 7, .call false 55 [.t 6]⟩,
  ⟨none, some 5, .mv (.t 7)⟩]
def r93_2 : List SO := [
  ⟨none, some 8, .mv (.t 5)⟩,
  ⟨none, some 9, .bin .neq (.t 8) (.c (.int .i64 0))⟩]
def r93_3 : List SO := [
  ⟨none, some 10, .mv (.t 5)⟩,
  ⟨none, some 4, .mv (.t 10)⟩]
def r93_4 : List SO := [
  ⟨none, some 11, .mv (.t 1)⟩,
  ⟨none, some 12, .bin .lss (.t 11) (.c (.int .i64 0))⟩,
  ⟨none, some 13, .mv (.t 12)⟩,
  ⟨some (13, false), some 14, .mv (.t 1)⟩,
  ⟨some (13, false), some 15, .fld 2 (.t 2)⟩,
  ⟨some (13, false), some 16, .load false 1 (.t 15)⟩,
  ⟨some (13, false), some 17, .len (.t 16)⟩,
  ⟨some (13, false), some 18, .bin .geq (.t 14) (.t 17)⟩,
  ⟨none, some 19, .pick (.t 13) (.c (.bool true)) (.t 18)⟩]
def r93_5 : List SO := [
  ⟨none, some 4, .mv (.c (.int .i64 2))⟩]
def r93_6 : List SO := [
  ⟨none, some 4, .mv (.c (.int .i64 0))⟩]
def s93 : SF := ⟨20, [.tmp 4], .seq (.reg r93_0) (.seq (.seq (.reg r93_1) (.seq (.reg r93_2) (.cond (.t 9) (.seq (.reg r93_3) (.ret)) (.skip)))) (.seq (.seq (.reg r93_4) (.cond (.t 19) (.seq (.reg r93_5) (.ret)) (.skip))) (.seq (.reg r93_6) (.ret))))⟩
theorem s93_ok : slimF Try.prog ⟨[94], []⟩ Try.f93 = some s93 := by kernel_rfl
def r94_0 : List SO := [
  ⟨none, some 4, .mv (.c (.nilsl))⟩]
def r94_1 : List SO := [
  ⟨none, some 5, .lazy 3 1⟩]
def r94_2 : List SO := [
  ⟨none, some 10, .mv (.t 1)⟩,
  ⟨none, some 11, .len (.t 10)⟩,
  ⟨none, some 12, .mv (.c (.int .i64 0))⟩]
def r94_3 : List SO := [
  ⟨none, some 13, .bin .lss (.t 12) (.t 11)⟩]
def r94_4 : List SO := [
  ⟨none, some 14, .idx 1 (.t 10) (.t 12)⟩,
  ⟨none, some 15, .load false 1 (.t 14)⟩,
  ⟨none, some 7, .mv (.t 15)⟩]
def r94_5 : List SO := [
  ⟨none, some 17, .mv (.t 0)⟩,
  ⟨none, some 18, .nilck (.t 17)⟩,
  ⟨none, some 19, .fld 0 (.t 18)⟩,
  ⟨none, some 20, .load true 4 (.t 19)⟩,
  ⟨none, some 21, .mv (.t 0)⟩,
  ⟨none, some 22, .nilck (.t 21)⟩,
  ⟨none, some 23, .fld 4 (.t 22)⟩,
  ⟨none, some 24, .load false 1 (.t 23)⟩,
  ⟨none, some 25, .mv (.t 7)⟩,
  ⟨none, some 26, .call false 113 [.t 20, .t 24, .t 25]⟩,
  ⟨none, some 16, .mv (.t 26)⟩,
  ⟨none, some 27, .ext (.t 16) 0⟩,
  ⟨none, some 28, .ext (.t 16) 1⟩,
  ⟨none, some 8, .mv (.t 27)⟩,
  ⟨none, some 9, .mv (.t 28)⟩]
def r94_6 : List SO := [
  ⟨none, some 29, .mv (.t 0)⟩,
  ⟨none, some 30, .mv (.t 8)⟩,
  ⟨none, some 31, .nilck (.t 29)⟩,
  ⟨none, some 32, .fld 4 (.t 31)⟩,
  ⟨none, none, .store 1 (.t 32) (.t 30)⟩]
def r94_7 : List SO := [
  ⟨none, some 33, .mv (.t 5)⟩,
  ⟨none, some 34, .mv (.t 9)⟩,
  ⟨none, some 35, .bslice 3 1 false [.int .i64 0] 1 [(0, .t 34)]⟩,
  ⟨none, some 36, .append 3 1 8 (.t 33) (.t 35)⟩,
  ⟨none, some 5, .mv (.t 36)⟩]
def r94_8 : List SO := [
  ⟨none, some 37, .bin .add (.t 12) (.c (.int .i64 1))⟩,
  ⟨none, some 12, .mv (.t 37)⟩]
def b94_0 : SC := .seq (.reg r94_3) (.seq (.cond (.t 13) (.skip) (.exit 0)) (.seq (.block 1 (.seq (.reg r94_4) (.seq (.reg r94_5) (.seq (.reg r94_6) (.reg r94_7))))) (.reg r94_8)))
def r94_9 : List SO := [
  ⟨none, some 38, .mv (.t 5)⟩,
  ⟨none, some 4, .mv (.t 38)⟩]
def s94 : SF := ⟨39, [.tmp 4], .seq (.reg r94_0) (.seq (.reg r94_1) (.seq (.seq (.reg r94_2) (.block 0 (.loop b94_0))) (.seq (.reg r94_9) (.ret))))⟩
theorem s94_ok : slimF Try.prog ⟨[94], [5]⟩ Try.f94 = some s94 := by kernel_rfl
def r95_0 : List SO := [
  ⟨none, some 2, .box 24 4 (.t 0)⟩,
  ⟨none, some 4, .mv (.c (.int .i64 0))⟩]
def r95_1 : List SO := [
  ⟨none, some 6, .fld 2 (.t 2)⟩,
  ⟨none, some 7, .load false 1 (.t 6)⟩,
  ⟨none, some 8, .mv (.t 1)⟩,
  ⟨none, some 9, .idx 1 (.t 7) (.t 8)⟩,
  ⟨none, some 10, .load false 1 (.t 9)⟩,
  ⟨none, some 11, .len (.t 10)⟩,
  ⟨none, some 12, .fld 0 (.t 2)⟩,
  ⟨none, some 13, .load false 1 (.t 12)⟩,
  ⟨none, some 14, .bin .neq (.t 11) (.t 13)⟩,
  ⟨none, some 15, .mv (.t 14)⟩,
  ⟨some (15, false), some 16, .fld 3 (.t 2)⟩,
  ⟨some (15, false), some 17, .load false 1 (.t 16)⟩,
  ⟨some (15, false), some 18, .mv (.t 1)⟩,
  ⟨some (15, false), some 19, .idx 1 (.t 17) (.t 18)⟩,
  ⟨some (15, false), some 20, .load false 1 (.t 19)⟩,
  ⟨some (15, false), some 21, .len (.t 20)⟩,
  ⟨some (15, false), some 22, .fld 0 (.t 2)⟩,
  ⟨some (15, false), some 23, .load false 1 (.t 22)⟩,
  ⟨some (15, false), some 24, .bin .neq (.t 21) (.t 23)⟩,
  ⟨none, some 25, .pick (.t 15) (.c (.bool true)) (.t 24)⟩]
def r95_2 : List SO := [
  ⟨none, some 4, .mv (.c (.int .i64 1))⟩]
def r95_3 : List SO := [
  ⟨none, some 5, .mv (.c (.int .i64 0))⟩]
def r95_4 : List SO := [
  ⟨none, some 26, .mv (.t 5)⟩,
  ⟨none, some 27, .fld 0 (.t 2)⟩,
  ⟨none, some 28, .load false 1 (.t 27)⟩,
  ⟨none, some 29, .bin .lss (.t 26) (.t 28)⟩]
def r95_6 : List SO := [
  ⟨none, some 32, .fld 2 (.t 2)⟩,
  ⟨none, some 33, .load false 1 (.t 32)⟩,
  ⟨none, some 34, .mv (.t 1)⟩,
  ⟨none, some 35, .idx 1 (.t 33) (.t 34)⟩,
  ⟨none, some 36, .load false 1 (.t 35)⟩,
  ⟨none, some 37, .mv (.t 5)⟩,
  ⟨none, some 38, .idx 1 (.t 36) (.t 37)⟩,
  ⟨none, some 39, .load false 1 (.t 38)⟩,
  ⟨none, some 40, .bin .lss (.t 39) (.c (.int .i64 0))⟩,
  ⟨none, some 41, .mv (.t 40)⟩,
  ⟨some (41, false), some 42, .fld 2 (.t 2)⟩,
  ⟨some (41, false), some 43, .load false 1 (.t 42)⟩,
  ⟨some (41, false), some 44, .mv (.t 1)⟩,
  ⟨some (41, false), some 45, .idx 1 (.t 43) (.t 44)⟩,
  ⟨some (41, false), some 46, .load false 1 (.t 45)⟩,
  ⟨some (41, false), some 47, .mv (.t 5)⟩,
  ⟨some (41, false), some 48, .idx 1 (.t 46) (.t 47)⟩,
  ⟨some (41, false), some 49, .load false 1 (.t 48)⟩,
  ⟨some (41, false), some 50, .fld 2 (.t 2)⟩,
  ⟨some (41, false), some 51, .load false 1 (.t 50)⟩,
  ⟨some (41, false), some 52, .len (.t 51)⟩,
  ⟨some (41, false), some 53, .bin .geq (.t 49) (.t 52)⟩,
  ⟨none, some 54, .pick (.t 41) (.c (.bool true)) (.t 53)⟩,
  ⟨none, some 55, .mv (.t 54)⟩,
  ⟨some (55, false), some 56, .fld 3 (.t 2)⟩,
  ⟨some (55, false), some 57, .load false 1 (.t 56)⟩,
  ⟨some (55, false), some 58, .mv (.t 1)⟩,
  ⟨some (55, false), some 59, .idx 1 (.t 57) (.t 58)⟩,
  ⟨some (55, false), some 60, .load false 1 (.t 59)⟩,
  ⟨some (55, false), some 61, .mv (.t 5)⟩,
  ⟨some (55, false), some 62, .idx 1 (.t 60) (.t 61)⟩,
  ⟨some (55, false), some 63, .load false 1 (.t 62)⟩,
  ⟨some (55, false), some 64, .bin .lss (.t 63) (.c (.int .i64 0))⟩,
  ⟨none, some 65, .pick (.t 55) (.c (.bool true)) (.t 64)⟩,
  ⟨none, some 66, .mv (.t 65)⟩,
  ⟨some (66, false), some 67, .fld 3 (.t 2)⟩,
  ⟨some (66, false), some 68, .load false 1 (.t 67)⟩,
  ⟨some (66, false), some 69, .mv (.t 1)⟩,
  ⟨some (66, false), some 70, .idx 1 (.t 68) (.t 69)⟩,
  ⟨some (66, false), some 71, .load false 1 (.t 70)⟩,
  ⟨some (66, false), some 72, .mv (.t 5)⟩,
  ⟨some (66, false), some 73, .idx 1 (.t 71) (.t 72)⟩,
  ⟨some (66, false), some 74, .load false 1 (.t 73)⟩,
  ⟨some (66, false), some 75, .bin .gtr (.t 74) (.c (.int .i64 1048576))⟩,
  ⟨none, some 76, .pick (.t 66) (.c (.bool true)) (.t 75)⟩]
def r95_7 : List SO := [
  ⟨none, some 4, .mv (.c (.int .i64 2))⟩]
def r95_5 : List SO := [
  ⟨none, some 30, .mv (.t 5)⟩,
  ⟨none, some 31, .bin .add (.t 30) (.c (.int .i64 1))⟩,
  ⟨none, some 5, .mv (.t 31)⟩]
def b95_0 : SC := .seq (.seq (.reg r95_4) (.cond (.t 29) (.skip) (.exit 0))) (.seq (.block 1 (.seq (.reg r95_6) (.cond (.t 76) (.seq (.reg r95_7) (.ret)) (.skip)))) (.reg r95_5))
def r95_8 : List SO := [
  ⟨none, some 4, .mv (.c (.int .i64 0))⟩]
def s95 : SF := ⟨77, [.tmp 4], .seq (.reg r95_0) (.seq (.seq (.reg r95_1) (.cond (.t 25) (.seq (.reg r95_2) (.ret)) (.skip))) (.seq (.seq (.reg r95_3) (.block 0 (.loop b95_0))) (.seq (.reg r95_8) (.ret))))⟩
theorem s95_ok : slimF Try.prog ⟨[94], []⟩ Try.f95 = some s95 := by kernel_rfl
def r96_0 : List SO := [
  ⟨none, some 2, .mv (.c (.bool false))⟩]
def r96_1 : List SO := [
  ⟨none, some 3, .mv (.t 0)⟩,
  ⟨none, some 4, .bin .geq (.t 3) (.c (.int .i64 1))⟩,
  ⟨none, some 5, .mv (.t 4)⟩,
  ⟨some (5, true), some 6, .mv (.t 0)⟩,
  ⟨some (5, true), some 7, .bin .leq (.t 6) (.c (.int .i64 1024))⟩,
  ⟨none, some 8, .pick (.t 5) (.t 7) (.c (.bool false))⟩,
  ⟨none, some 2, .mv (.t 8)⟩]
def s96 : SF := ⟨9, [.tmp 2], .seq (.reg r96_0) (.seq (.reg r96_1) (.ret))⟩
theorem s96_ok : slimF Try.prog ⟨[94], []⟩ Try.f96 = some s96 := by kernel_rfl
def r98_0 : List SO := [
  ⟨none, some 4, .mv (.c (.nilsl))⟩]
def r98_1 : List SO := [
  ⟨none, some 7, .mv (.t 0)⟩,
  ⟨none, some 8, .len (.t 7)⟩,
  ⟨none, some 9, .bin .lss (.t 8) (.c (.int .i64 1))⟩]
def r98_2 : List SO := [
  ⟨none, some 10, .bad⟩,
  ⟨none, none, .bad⟩]
def r98_3 : List SO := [
  ⟨none, some 11, .mv (.t 0)⟩,
  ⟨none, some 12, .idx 1 (.t 11) (.c (.int .i64 0))⟩,
  ⟨none, some 13, .load false 1 (.t 12)⟩,
  ⟨none, some 5, .mv (.t 13)⟩]
def r98_4 : List SO := [
  ⟨none, some 6, .mv (.c (.int .i64 1))⟩]
def r98_5 : List SO := [
  ⟨none, some 14, .mv (.t 6)⟩,
  ⟨none, some 15, .mv (.t 0)⟩,
  ⟨none, some 16, .len (.t 15)⟩,
  ⟨none, some 17, .bin .lss (.t 14) (.t 16)⟩]
def r98_7 : List SO := [
  ⟨none, some 20, .mv (.t 1)⟩,
  ⟨none, some 21, .mv (.t 0)⟩,
  ⟨none, some 22, .mv (.t 6)⟩,
  ⟨none, some 23, .idx 1 (.t 21) (.t 22)⟩,
  ⟨none, some 24, .load false 1 (.t 23)⟩,
  ⟨none, some 25, .mv (.t 5)⟩,
  ⟨none, some 26, .callv false (.t 20) [.t 24, .t 25]⟩,
  ⟨none, some 27, .bin .lss (.t 26) (.c (.int .i64 0))⟩]
def r98_8 : List SO := [
  ⟨none, some 28, .mv (.t 0)⟩,
  ⟨none, some 29, .mv (.t 6)⟩,
  ⟨none, some 30, .idx 1 (.t 28) (.t 29)⟩,
  ⟨none, some 31, .load false 1 (.t 30)⟩,
  ⟨none, some 5, .mv (.t 31)⟩]
def r98_6 : List SO := [
  ⟨none, some 18, .mv (.t 6)⟩,
  ⟨none, some 19, .bin .add (.t 18) (.c (.int .i64 1))⟩,
  ⟨none, some 6, .mv (.t 19)⟩]
def b98_0 : SC := .seq (.seq (.reg r98_5) (.cond (.t 17) (.skip) (.exit 0))) (.seq (.block 1 (.seq (.reg r98_7) (.cond (.t 27) (.reg r98_8) (.skip)))) (.reg r98_6))
def r98_9 : List SO := [
  ⟨none, some 32, .mv (.t 5)⟩,
  ⟨none, some 4, .mv (.t 32)⟩]
def s98 : SF := ⟨33, [.tmp 4], .seq (.reg r98_0) (.seq (.seq (.reg r98_1) (.cond (.t 9) (.reg r98_2) (.skip))) (.seq (.reg r98_3) (.seq (.seq (.reg r98_4) (.block 0 (.loop b98_0))) (.seq (.reg r98_9) (.ret)))))⟩
theorem s98_ok : slimF Try.prog ⟨[94], []⟩ Try.f98 = some s98 := by kernel_rfl
def r99_0 : List SO := [
  ⟨none, some 2, .mv (.c (.int .i64 0))⟩]
def r99_1 : List SO := [
  ⟨none, some 3, .mv (.c (.int .i64 0))⟩]
def r99_2 : List SO := [
  ⟨none, some 6, .mv (.t 0)⟩,
  ⟨none, some 7, .len (.t 6)⟩,
  ⟨none, some 8, .mv (.c (.int .i64 0))⟩]
def r99_3 : List SO := [
  ⟨none, some 9, .bin .lss (.t 8) (.t 7)⟩]
def r99_4 : List SO := [
  ⟨none, some 10, .idx 1 (.t 6) (.t 8)⟩,
  ⟨none, some 11, .load false 1 (.t 10)⟩,
  ⟨none, some 5, .mv (.t 11)⟩]
def r99_5 : List SO := [
  ⟨none, some 12, .mv (.t 5)⟩,
  ⟨none, some 13, .mv (.t 3)⟩,
  ⟨none, some 14, .bin .neq (.t 12) (.t 13)⟩]
def r99_6 : List SO := [
  ⟨none, some 15, .mv (.t 5)⟩,
  ⟨none, some 2, .mv (.t 15)⟩]
def r99_7 : List SO := [
  ⟨none, some 16, .bin .add (.t 8) (.c (.int .i64 1))⟩,
  ⟨none, some 8, .mv (.t 16)⟩]
def b99_0 : SC := .seq (.reg r99_3) (.seq (.cond (.t 9) (.skip) (.exit 0)) (.seq (.block 1 (.seq (.reg r99_4) (.seq (.reg r99_5) (.cond (.t 14) (.seq (.reg r99_6) (.ret)) (.skip))))) (.reg r99_7)))
def r99_8 : List SO := [
  ⟨none, some 17, .mv (.t 3)⟩,
  ⟨none, some 2, .mv (.t 17)⟩]
def s99 : SF := ⟨18, [.tmp 2], .seq (.reg r99_0) (.seq (.reg r99_1) (.seq (.seq (.reg r99_2) (.block 0 (.loop b99_0))) (.seq (.reg r99_8) (.ret))))⟩
theorem s99_ok : slimF Try.prog ⟨[94], []⟩ Try.f99 = some s99 := by kernel_rfl
def r100_0 : List SO := [
  ⟨none, some 4, .mv (.c (.int .i64 0))⟩]
def r100_1 : List SO := [
  ⟨none, some 7, .mv (.t 0)⟩,
  ⟨none, some 8, .call false 114 [.t 7]⟩,
  ⟨none, some 5, .mv (.t 8)⟩]
def r100_2 : List SO := [
  ⟨none, some 9, .mv (.t 1)⟩,
  ⟨none, some 10, .call false 114 [.t 9]⟩,
  ⟨none, some 6, .mv (.t 10)⟩]
def r100_3 : List SO := [
  ⟨none, some 11, .mv (.t 5)⟩]
def r100_4 : List SO := [
  ⟨none, some 12, .mv (.t 6)⟩]
def r100_5 : List SO := [
  ⟨none, some 4, .mv (.c (.int .i64 0))⟩]
def r100_6 : List SO := [
  ⟨none, some 4, .mv (.c (.int .i64 (-1)))⟩]
def r100_7 : List SO := [
  ⟨none, some 13, .mv (.t 6)⟩]
def r100_8 : List SO := [
  ⟨none, some 4, .mv (.c (.int .i64 1))⟩]
def r100_9 : List SO := [
  ⟨none, some 14, .mv (.t 0)⟩,
  ⟨none, some 15, .mv (.t 1)⟩,
  ⟨none, some 16, .bin .lss (.t 14) (.t 15)⟩]
def r100_10 : List SO := [
  ⟨none, some 4, .mv (.c (.int .i64 (-1)))⟩]
def r100_11 : List SO := [
  ⟨none, some 17, .mv (.t 0)⟩,
  ⟨none, some 18, .mv (.t 1)⟩,
  ⟨none, some 19, .bin .gtr (.t 17) (.t 18)⟩]
def r100_12 : List SO := [
  ⟨none, some 4, .mv (.c (.int .i64 1))⟩]
def r100_13 : List SO := [
  ⟨none, some 4, .mv (.c (.int .i64 0))⟩]
def s100 : SF := ⟨20, [.tmp 4], .seq (.reg r100_0) (.seq (.reg r100_1) (.seq (.reg r100_2) (.seq (.seq (.reg r100_3) (.cond (.t 11) (.seq (.seq (.reg r100_4) (.cond (.t 12) (.seq (.reg r100_5) (.ret)) (.skip))) (.seq (.reg r100_6) (.ret))) (.skip))) (.seq (.seq (.reg r100_7) (.cond (.t 13) (.seq (.reg r100_8) (.ret)) (.skip))) (.seq (.seq (.reg r100_9) (.cond (.t 16) (.seq (.reg r100_10) (.ret)) (.skip))) (.seq (.seq (.reg r100_11) (.cond (.t 19) (.seq (.reg r100_12) (.ret)) (.skip))) (.seq (.reg r100_13) (.ret))))))))⟩
theorem s100_ok : slimF Try.prog ⟨[94], []⟩ Try.f100 = some s100 := by kernel_rfl
def r101_0 : List SO := [
  ⟨none, some 4, .mv (.c (.int .i64 0))⟩]
def r101_1 : List SO := [
  ⟨none, some 9, .mv (.t 0)⟩,
  ⟨none, some 10, .len (.t 9)⟩,
  ⟨none, some 11, .mv (.c (.int .i64 0))⟩]
def r101_2 : List SO := [
  ⟨none, some 12, .bin .lss (.t 11) (.t 10)⟩]
def r101_3 : List SO := [
  ⟨none, some 13, .mv (.t 11)⟩,
  ⟨none, some 14, .idx 1 (.t 9) (.t 11)⟩,
  ⟨none, some 15, .load false 1 (.t 14)⟩,
  ⟨none, some 5, .mv (.t 13)⟩,
  ⟨none, some 6, .mv (.t 15)⟩]
def r101_4 : List SO := [
  ⟨none, some 16, .mv (.t 5)⟩,
  ⟨none, some 17, .mv (.t 1)⟩,
  ⟨none, some 18, .len (.t 17)⟩,
  ⟨none, some 19, .bin .geq (.t 16) (.t 18)⟩]
def r101_5 : List SO := [
  ⟨none, some 4, .mv (.c (.int .i64 1))⟩]
def r101_6 : List SO := [
  ⟨none, some 20, .mv (.t 1)⟩,
  ⟨none, some 21, .mv (.t 5)⟩,
  ⟨none, some 22, .idx 1 (.t 20) (.t 21)⟩,
  ⟨none, some 23, .load false 1 (.t 22)⟩,
  ⟨none, some 7, .mv (.t 23)⟩]
def r101_7 : List SO := [
  ⟨none, some 24, .mv (.t 6)⟩,
  ⟨none, some 25, .mv (.t 7)⟩,
  ⟨none, some 26, .call false 100 [.t 24, .t 25]⟩,
  ⟨none, some 8, .mv (.t 26)⟩]
def r101_8 : List SO := [
  ⟨none, some 27, .mv (.t 8)⟩,
  ⟨none, some 28, .bin .neq (.t 27) (.c (.int .i64 0))⟩]
def r101_9 : List SO := [
  ⟨none, some 29, .mv (.t 8)⟩,
  ⟨none, some 4, .mv (.t 29)⟩]
def r101_10 : List SO := [
  ⟨none, some 30, .bin .add (.t 11) (.c (.int .i64 1))⟩,
  ⟨none, some 11, .mv (.t 30)⟩]
def b101_0 : SC := .seq (.reg r101_2) (.seq (.cond (.t 12) (.skip) (.exit 0)) (.seq (.block 1 (.seq (.reg r101_3) (.seq (.seq (.reg r101_4) (.cond (.t 19) (.seq (.reg r101_5) (.ret)) (.skip))) (.seq (.reg r101_6) (.seq (.reg r101_7) (.seq (.reg r101_8) (.cond (.t 28) (.seq (.reg r101_9) (.ret)) (.skip)))))))) (.reg r101_10)))
def r101_11 : List SO := [
  ⟨none, some 31, .mv (.t 0)⟩,
  ⟨none, some 32, .len (.t 31)⟩,
  ⟨none, some 33, .mv (.t 1)⟩,
  ⟨none, some 34, .len (.t 33)⟩,
  ⟨none, some 35, .bin .lss (.t 32) (.t 34)⟩]
def r101_12 : List SO := [
  ⟨none, some 4, .mv (.c (.int .i64 (-1)))⟩]
def r101_13 : List SO := [
  ⟨none, some 4, .mv (.c (.int .i64 0))⟩]
def s101 : SF := ⟨36, [.tmp 4], .seq (.reg r101_0) (.seq (.seq (.reg r101_1) (.block 0 (.loop b101_0))) (.seq (.seq (.reg r101_11) (.cond (.t 35) (.seq (.reg r101_12) (.ret)) (.skip))) (.seq (.reg r101_13) (.ret))))⟩
theorem s101_ok : slimF Try.prog ⟨[94], []⟩ Try.f101 = some s101 := by kernel_rfl
def r104_0 : List SO := [
  ⟨none, some 2, .mv (.c (.bool false))⟩]
def r104_1 : List SO := [
  ⟨none, some 3, .mv (.t 0)⟩,
  ⟨none, some 4, .bin .geq (.t 3) (.c (.int .i64 1))⟩,
  ⟨none, some 5, .mv (.t 4)⟩,
  ⟨some (5, true), some 6, .mv (.t 0)⟩,
  ⟨some (5, true), some 7, .bin .leq (.t 6) (.c (.int .i64 1024))⟩,
  ⟨none, some 8, .pick (.t 5) (.t 7) (.c (.bool false))⟩,
  ⟨none, some 2, .mv (.t 8)⟩]
def s104 : SF := ⟨9, [.tmp 2], .seq (.reg r104_0) (.seq (.reg r104_1) (.ret))⟩
theorem s104_ok : slimF Try.prog ⟨[94], []⟩ Try.f104 = some s104 := by kernel_rfl
def r105_0 : List SO := [
  ⟨none, some 4, .mv (.c (.bool false))⟩]
def r105_1 : List SO := [
  ⟨none, some 5, .mv (.t 0)⟩,
  ⟨none, some 6, .mv (.t 1)⟩,
  ⟨none, some 7, .call false 120 [.t 5, .t 6]⟩,
  ⟨none, some 8, .bin .geq (.t 7) (.c (.int .i64 0))⟩,
  ⟨none, some 4, .mv (.t 8)⟩]
def s105 : SF := ⟨9, [.tmp 4], .seq (.reg r105_0) (.seq (.reg r105_1) (.ret))⟩
theorem s105_ok : slimF Try.prog ⟨[94], []⟩ Try.f105 = some s105 := by kernel_rfl
def r106_0 : List SO := [
  ⟨none, some 3, .mv (.c (.bool false))⟩]
def r106_1 : List SO := [
  ⟨none, some 4, .mv (.t 0)⟩,
  ⟨none, some 5, .bin .lss (.t 4) (.c (.int .i64 0))⟩,
  ⟨none, some 6, .mv (.t 5)⟩,
  ⟨some (6, false), some 7, .mv (.t 0)⟩,
  ⟨some (6, false), some 8, .load false 1 (.t 1)⟩,
  ⟨some (6, false), some 9, .bin .geq (.t 7) (.t 8)⟩,
  ⟨none, some 10, .pick (.t 6) (.c (.bool true)) (.t 9)⟩,
  ⟨none, some 3, .mv (.t 10)⟩]
def s106 : SF := ⟨11, [.tmp 3], .seq (.reg r106_0) (.seq (.reg r106_1) (.ret))⟩
theorem s106_ok : slimF Try.prog ⟨[94], []⟩ Try.f106 = some s106 := by kernel_rfl
def r113_0 : List SO := [
  ⟨none, some 3, .box 120 4 (.t 0)⟩,
  ⟨none, some 6, .mv (.c (.int .i64 0))⟩,
  ⟨none, some 7, .mv (.c (.int .i64 0))⟩]
def r113_1 : List SO := [
  ⟨none, some 8, .fld 0 (.t 3)⟩,
  ⟨none, some 9, .fld 2 (.t 8)⟩,
  ⟨none, some 10, .load false 1 (.t 9)⟩,
  ⟨none, some 11, .mv (.t 1)⟩,
  ⟨none, some 12, .idx 1 (.t 10) (.t 11)⟩,
  ⟨none, some 13, .load false 1 (.t 12)⟩,
  ⟨none, some 14, .mv (.t 2)⟩,
  ⟨none, some 15, .idx 1 (.t 13) (.t 14)⟩,
  ⟨none, some 16, .load false 1 (.t 15)⟩,
  ⟨none, some 17, .fld 0 (.t 3)⟩,
  ⟨none, some 18, .fld 3 (.t 17)⟩,
  ⟨none, some 19, .load false 1 (.t 18)⟩,
  ⟨none, some 20, .mv (.t 1)⟩,
  ⟨none, some 21, .idx 1 (.t 19) (.t 20)⟩,
  ⟨none, some 22, .load false 1 (.t 21)⟩,
  ⟨none, some 23, .mv (.t 2)⟩,
  ⟨none, some 24, .idx 1 (.t 22) (.t 23)⟩,
  ⟨none, some 25, .load false 1 (.t 24)⟩,
  ⟨none, some 6, .mv (.t 16)⟩,
  ⟨none, some 7, .mv (.t 25)⟩]
def s113 : SF := ⟨26, [.tmp 6, .tmp 7], .seq (.reg r113_0) (.seq (.reg r113_1) (.ret))⟩
theorem s113_ok : slimF Try.prog ⟨[94], []⟩ Try.f113 = some s113 := by kernel_rfl
def r114_0 : List SO := [
  ⟨none, some 2, .mv (.c (.bool false))⟩]
def r114_1 : List SO := [
  ⟨none, some 3, .mv (.t 0)⟩,
  ⟨none, some 4, .mv (.t 0)⟩,
  ⟨none, some 5, .bin .neq (.t 3) (.t 4)⟩,
  ⟨none, some 2, .mv (.t 5)⟩]
def s114 : SF := ⟨6, [.tmp 2], .seq (.reg r114_0) (.seq (.reg r114_1) (.ret))⟩
theorem s114_ok : slimF Try.prog ⟨[94], []⟩ Try.f114 = some s114 := by kernel_rfl
def r120_0 : List SO := [
  ⟨none, some 4, .mv (.c (.int .i64 0))⟩]
def r120_1 : List SO := [
  ⟨none, some 6, .mv (.t 0)⟩,
  ⟨none, some 7, .len (.t 6)⟩,
  ⟨none, some 8, .mv (.c (.int .i64 0))⟩]
def r120_2 : List SO := [
  ⟨none, some 9, .bin .lss (.t 8) (.t 7)⟩]
def r120_3 : List SO := [
  ⟨none, some 10, .mv (.t 8)⟩,
  ⟨none, some 5, .mv (.t 10)⟩]
def r120_4 : List SO := [
  ⟨none, some 11, .mv (.t 1)⟩,
  ⟨none, some 12, .mv (.t 0)⟩,
  ⟨none, some 13, .mv (.t 5)⟩,
  ⟨none, some 14, .idx 1 (.t 12) (.t 13)⟩,
  ⟨none, some 15, .load false 1 (.t 14)⟩,
  ⟨none, some 16, .callv false (.t 11) [.t 15]⟩]
def r120_5 : List SO := [
  ⟨none, some 17, .mv (.t 5)⟩,
  ⟨none, some 4, .mv (.t 17)⟩]
def r120_6 : List SO := [
  ⟨none, some 18, .bin .add (.t 8) (.c (.int .i64 1))⟩,
  ⟨none, some 8, .mv (.t 18)⟩]
def b120_0 : SC := .seq (.reg r120_2) (.seq (.cond (.t 9) (.skip) (.exit 0)) (.seq (.block 1 (.seq (.reg r120_3) (.seq (.reg r120_4) (.cond (.t 16) (.seq (.reg r120_5) (.ret)) (.skip))))) (.reg r120_6)))
def r120_7 : List SO := [
  ⟨none, some 4, .mv (.c (.int .i64 (-1)))⟩]
def s120 : SF := ⟨19, [.tmp 4], .seq (.reg r120_0) (.seq (.seq (.reg r120_1) (.block 0 (.loop b120_0))) (.seq (.reg r120_7) (.ret)))⟩
theorem s120_ok : slimF Try.prog ⟨[94], []⟩ Try.f120 = some s120 := by kernel_rfl

end Go.Proofs.Ytngkckefanbhgaa

namespace Go.Proofs.Ytngkckefanbhgaa
open Go Go.Proofs

theorem great6_pure (m : M) : PureC Try.prog 31 [(V.agg [(iV (m.i)), (iV (m.s)), (V.sl (List.map cL (m.nx))), (V.sl (List.map cL (m.ot)))])] (V.bool (decide (40 < m.nx.length ∨ 40 < m.ot.length ∨ 20 < m.i))) := by
  refine pure_of_Wz true 6 Try.func31 s31_ok (by kernel_rfl) (by simp [s31]) (by simp) (by simp) ?_
  unfold s31
  dsimp only
  refine W_seq_regc (fun T H => T 1 = (V.mp 1 1 0 0) ∧ H 1 = (⟨1, true, false, 24, 4, [[(iV (m.i)), (iV (m.s)), (V.sl (List.map cL (m.nx))), (V.sl (List.map cL (m.ot)))]]⟩ : Blk) ∧ True) ?_ ?_
  · unfold r31_0
    refine R_box (i := 1) (n := 0) (m := 4) (cs := [(iV (m.i)), (iV (m.s)), (V.sl (List.map cL (m.nx))), (V.sl (List.map cL (m.ot)))]) rfl (congrArg Blk.ver rfl) (@rfl V (V.agg [(iV (m.i)), (iV (m.s)), (V.sl (List.map cL (m.nx))), (V.sl (List.map cL (m.ot)))])) rfl rfl ?_
    refine R_mv (@rfl V (V.bool false)) ?_
    exact R_nil ⟨rfl, rfl, trivial⟩
  · intro T H ⟨t1, h1, _⟩
    refine W_seq_regc (fun T H => T 2 = (V.bool (decide ((((40) < ((m.nx.length : Nat) : Int)) ∨ ((40) < ((m.ot.length : Nat) : Int))) ∨ ((20) < (m.i))))) ∧ H 1 = (⟨1, true, false, 24, 4, [[(iV (m.i)), (iV (m.s)), (V.sl (List.map cL (m.nx))), (V.sl (List.map cL (m.ot)))]]⟩ : Blk) ∧ True) ?_ ?_
    · unfold r31_1
      refine R_fld_mp (o' := 2) t1 h1 (by first | rfl | simp [okB, Blk.own]) rfl ?_
      refine R_load_mp (v := (V.sl (List.map cL (m.nx)))) (@rfl V (V.mp 1 1 0 2)) h1 (by first | rfl | simp [ldB, ldV, Blk.own, V.one]) ?_
      refine R_len (@rfl V (V.sl (List.map cL (m.nx)))) ?_
      refine R_gtr (x := ((m.nx.length : Nat) : Int)) (y := (40)) (@rfl V (iV ((m.nx.length : Nat) : Int))) (@rfl V (iV (40))) ?_
      refine R_mv (@rfl V (V.bool (decide ((40) < ((m.nx.length : Nat) : Int))))) ?_
      refine Ops_seg 5 (fun T H => T 1 = (V.mp 1 1 0 0) ∧ T 12 = (V.bool (decide (((40) < ((m.nx.length : Nat) : Int)) ∨ ((40) < ((m.ot.length : Nat) : Int))))) ∧ H 1 = (⟨1, true, false, 24, 4, [[(iV (m.i)), (iV (m.s)), (V.sl (List.map cL (m.nx))), (V.sl (List.map cL (m.ot)))]]⟩ : Blk) ∧ True) ?_ ?_
      · by_cases g1 : (40) < ((m.nx.length : Nat) : Int)
        ·
          refine G_no (Eq.trans (@rfl V (V.bool (decide ((40) < ((m.nx.length : Nat) : Int))))) (congrArg V.bool (decide_eq_true g1))) (by decide) ?_
          refine G_no (Eq.trans (@rfl V (V.bool (decide ((40) < ((m.nx.length : Nat) : Int))))) (congrArg V.bool (decide_eq_true g1))) (by decide) ?_
          refine G_no (Eq.trans (@rfl V (V.bool (decide ((40) < ((m.nx.length : Nat) : Int))))) (congrArg V.bool (decide_eq_true g1))) (by decide) ?_
          refine G_no (Eq.trans (@rfl V (V.bool (decide ((40) < ((m.nx.length : Nat) : Int))))) (congrArg V.bool (decide_eq_true g1))) (by decide) ?_
          refine R_pickT (Eq.trans (@rfl V (V.bool (decide ((40) < ((m.nx.length : Nat) : Int))))) (congrArg V.bool (decide_eq_true g1))) (@rfl V (V.bool true)) ?_
          exact ⟨t1, (Eq.trans (@rfl V (V.bool true)) (dec_orT g1)), h1, trivial⟩
        ·
          refine G_yes (Eq.trans (@rfl V (V.bool (decide ((40) < ((m.nx.length : Nat) : Int))))) (congrArg V.bool (decide_eq_false g1))) ?_
          refine R_fld_mp (o' := 3) t1 h1 (by first | rfl | simp [okB, Blk.own]) rfl ?_
          refine G_yes (Eq.trans (@rfl V (V.bool (decide ((40) < ((m.nx.length : Nat) : Int))))) (congrArg V.bool (decide_eq_false g1))) ?_
          refine R_load_mp (v := (V.sl (List.map cL (m.ot)))) (@rfl V (V.mp 1 1 0 3)) h1 (by first | rfl | simp [ldB, ldV, Blk.own, V.one]) ?_
          refine G_yes (Eq.trans (@rfl V (V.bool (decide ((40) < ((m.nx.length : Nat) : Int))))) (congrArg V.bool (decide_eq_false g1))) ?_
          refine R_len (@rfl V (V.sl (List.map cL (m.ot)))) ?_
          refine G_yes (Eq.trans (@rfl V (V.bool (decide ((40) < ((m.nx.length : Nat) : Int))))) (congrArg V.bool (decide_eq_false g1))) ?_
          refine R_gtr (x := ((m.ot.length : Nat) : Int)) (y := (40)) (@rfl V (iV ((m.ot.length : Nat) : Int))) (@rfl V (iV (40))) ?_
          refine R_pickF (Eq.trans (@rfl V (V.bool (decide ((40) < ((m.nx.length : Nat) : Int))))) (congrArg V.bool (decide_eq_false g1))) (@rfl V (V.bool (decide ((40) < ((m.ot.length : Nat) : Int))))) ?_
          exact ⟨t1, (Eq.trans (@rfl V (V.bool (decide ((40) < ((m.ot.length : Nat) : Int))))) (dec_orF g1)), h1, trivial⟩
      · intro T H ⟨t1, t12, h1, _⟩
        refine R_mv t12 ?_
        refine Ops_seg 4 (fun T H => T 17 = (V.bool (decide ((((40) < ((m.nx.length : Nat) : Int)) ∨ ((40) < ((m.ot.length : Nat) : Int))) ∨ ((20) < (m.i))))) ∧ H 1 = (⟨1, true, false, 24, 4, [[(iV (m.i)), (iV (m.s)), (V.sl (List.map cL (m.nx))), (V.sl (List.map cL (m.ot)))]]⟩ : Blk) ∧ True) ?_ ?_
        · by_cases g2 : ((40) < ((m.nx.length : Nat) : Int)) ∨ ((40) < ((m.ot.length : Nat) : Int))
          ·
            refine G_no (Eq.trans (@rfl V (V.bool (decide (((40) < ((m.nx.length : Nat) : Int)) ∨ ((40) < ((m.ot.length : Nat) : Int)))))) (congrArg V.bool (decide_eq_true g2))) (by decide) ?_
            refine G_no (Eq.trans (@rfl V (V.bool (decide (((40) < ((m.nx.length : Nat) : Int)) ∨ ((40) < ((m.ot.length : Nat) : Int)))))) (congrArg V.bool (decide_eq_true g2))) (by decide) ?_
            refine G_no (Eq.trans (@rfl V (V.bool (decide (((40) < ((m.nx.length : Nat) : Int)) ∨ ((40) < ((m.ot.length : Nat) : Int)))))) (congrArg V.bool (decide_eq_true g2))) (by decide) ?_
            refine R_pickT (Eq.trans (@rfl V (V.bool (decide (((40) < ((m.nx.length : Nat) : Int)) ∨ ((40) < ((m.ot.length : Nat) : Int)))))) (congrArg V.bool (decide_eq_true g2))) (@rfl V (V.bool true)) ?_
            exact ⟨(Eq.trans (@rfl V (V.bool true)) (dec_orT g2)), h1, trivial⟩
          ·
            refine G_yes (Eq.trans (@rfl V (V.bool (decide (((40) < ((m.nx.length : Nat) : Int)) ∨ ((40) < ((m.ot.length : Nat) : Int)))))) (congrArg V.bool (decide_eq_false g2))) ?_
            refine R_fld_mp (o' := 0) t1 h1 (by first | rfl | simp [okB, Blk.own]) rfl ?_
            refine G_yes (Eq.trans (@rfl V (V.bool (decide (((40) < ((m.nx.length : Nat) : Int)) ∨ ((40) < ((m.ot.length : Nat) : Int)))))) (congrArg V.bool (decide_eq_false g2))) ?_
            refine R_load_mp (v := (iV (m.i))) (@rfl V (V.mp 1 1 0 0)) h1 (by first | rfl | simp [ldB, ldV, Blk.own, V.one]) ?_
            refine G_yes (Eq.trans (@rfl V (V.bool (decide (((40) < ((m.nx.length : Nat) : Int)) ∨ ((40) < ((m.ot.length : Nat) : Int)))))) (congrArg V.bool (decide_eq_false g2))) ?_
            refine R_gtr (x := (m.i)) (y := (20)) (@rfl V (iV (m.i))) (@rfl V (iV (20))) ?_
            refine R_pickF (Eq.trans (@rfl V (V.bool (decide (((40) < ((m.nx.length : Nat) : Int)) ∨ ((40) < ((m.ot.length : Nat) : Int)))))) (congrArg V.bool (decide_eq_false g2))) (@rfl V (V.bool (decide ((20) < (m.i))))) ?_
            exact ⟨(Eq.trans (@rfl V (V.bool (decide ((20) < (m.i))))) (dec_orF g2)), h1, trivial⟩
        · intro T H ⟨t17, h1, _⟩
          refine R_mv t17 ?_
          exact R_nil ⟨rfl, h1, trivial⟩
    · intro T H ⟨t2, h1, _⟩
      refine W_ret ?_
      refine Ret_1 t2 (fz_bool ?_)
      · exact decide_eq_decide.2 (by omega)

end Go.Proofs.Ytngkckefanbhgaa

namespace Go.Proofs.Ytngkckefanbhgaa
open Go Go.Proofs

theorem long_pure (l : List (List Int)) : PureC Try.prog 26 [(V.sl (List.map cL (l)))] (V.bool (decide (200 < l.length ∨ fe (longE l) 0 l.length ≠ 0))) := by
  refine pure_of_Wz true 6 Try.func26 s26_ok (by kernel_rfl) (by simp [s26]) (by simp) (by simp) ?_
  unfold s26
  dsimp only
  refine W_seq_regc (fun T H => T 0 = (V.sl (List.map cL (l))) ∧ True) ?_ ?_
  · unfold r26_0
    refine R_mv (@rfl V (V.bool false)) ?_
    exact R_nil ⟨rfl, trivial⟩
  · intro T H ⟨t0, _⟩
    refine W_seq_seq ?_
    refine W_seq_regc (fun T H => T 0 = (V.sl (List.map cL (l))) ∧ T 6 = (V.bool (decide ((200) < ((l.length : Nat) : Int)))) ∧ True) ?_ ?_
    · unfold r26_1
      refine R_mv t0 ?_
      refine R_len (@rfl V (V.sl (List.map cL (l)))) ?_
      refine R_gtr (x := ((l.length : Nat) : Int)) (y := (200)) (@rfl V (iV ((l.length : Nat) : Int))) (@rfl V (iV (200))) ?_
      exact R_nil ⟨t0, rfl, trivial⟩
    · intro T H ⟨t0, t6, _⟩
      refine W_seq_if (p := (200) < ((l.length : Nat) : Int)) t6 (fun c1 => ?_) (fun c1 => ?_)
      ·
        refine W_seq_seq ?_
        refine W_seq_regc (fun T H => T 2 = (V.bool true) ∧ True) ?_ ?_
        · unfold r26_2
          refine R_mv (@rfl V (V.bool true)) ?_
          exact R_nil ⟨rfl, trivial⟩
        · intro T H ⟨t2, _⟩
          refine W_seq_ret ?_
          refine Ret_1 t2 (fz_bool ?_)
          · exact (decide_eq_true (Or.inl (by omega))).symm
      ·
        refine W_seq_skip ?_
        refine W_seq_seq ?_
        refine W_seq_regc (fun T H => T 0 = (V.sl (List.map cL (l))) ∧ T 3 = (iV (0)) ∧ True) ?_ ?_
        · unfold r26_3
          refine R_mv (@rfl V (iV (0))) ?_
          exact R_nil ⟨t0, rfl, trivial⟩
        · intro T H ⟨t0, t3, _⟩
          refine W_seq_block fun Q2 n2 x2 y2 z2 => ?_
          refine W_loop (fun mm T H => ∃ (k : Nat), mm = l.length - k ∧ T 0 = (V.sl (List.map cL (l))) ∧ T 3 = (iV ((k : Nat) : Int)) ∧ (k ≤ l.length) ∧ (l.length ≤ 200) ∧ (fe (longE l) 0 l.length = fe (longE l) k (l.length - k))) ?_ ?_
          · refine ⟨_, 0, rfl, t0, (Eq.trans t3 (by first | rfl | simp)), ?_, ?_, ?_⟩
            · omega
            · omega
            · rfl
          · intro mm T H ⟨k, hmm, t0, t3, hk, hl, hc⟩ Q3 p13 p23 p33
            unfold b26_0
            refine W_seq_seq ?_
            refine W_seq_regc (fun T H => T 0 = (V.sl (List.map cL (l))) ∧ T 3 = (iV ((k : Nat) : Int)) ∧ T 10 = (V.bool (decide (((k : Nat) : Int) < ((l.length : Nat) : Int)))) ∧ True) ?_ ?_
            · unfold r26_4
              refine R_mv t3 ?_
              refine R_mv t0 ?_
              refine R_len (@rfl V (V.sl (List.map cL (l)))) ?_
              refine R_lss (x := ((k : Nat) : Int)) (y := ((l.length : Nat) : Int)) (@rfl V (iV ((k : Nat) : Int))) (@rfl V (iV ((l.length : Nat) : Int))) ?_
              exact R_nil ⟨t0, t3, rfl, trivial⟩
            · intro T H ⟨t0, t3, t10, _⟩
              refine W_seq_if (p := ((k : Nat) : Int) < ((l.length : Nat) : Int)) t10 (fun c4 => ?_) (fun c4 => ?_)
              ·
                refine W_seq_skip ?_
                refine W_seq_block fun Q5 n5 x5 y5 z5 => ?_
                refine W_seq_regc (fun T H => T 0 = (V.sl (List.map cL (l))) ∧ T 3 = (iV ((k : Nat) : Int)) ∧ T 18 = (V.bool (decide ((200) < ((((nth (l) (k))).length : Nat) : Int)))) ∧ True) ?_ ?_
                · unfold r26_6
                  refine R_mv t0 ?_
                  refine R_mv t3 ?_
                  refine R_idx (i := k) (@rfl V (V.sl (List.map cL (l)))) (@rfl V (iV ((k : Nat) : Int))) (by omega) rfl ?_
                  refine R_load_pp (v := (V.sl (List.map cI ((nth (l) (k)))))) (@rfl V (V.pp [(V.sl (List.map cI ((nth (l) (k)))))])) (by first | rfl | simp [ldV]) ?_
                  refine R_len (@rfl V (V.sl (List.map cI ((nth (l) (k)))))) ?_
                  refine R_gtr (x := ((((nth (l) (k))).length : Nat) : Int)) (y := (200)) (@rfl V (iV ((((nth (l) (k))).length : Nat) : Int))) (@rfl V (iV (200))) ?_
                  exact R_nil ⟨t0, t3, rfl, trivial⟩
                · intro T H ⟨t0, t3, t18, _⟩
                  refine W_if (p := (200) < ((((nth (l) (k))).length : Nat) : Int)) t18 (fun c6 => ?_) (fun c6 => ?_)
                  ·
                    refine W_seq_regc (fun T H => T 2 = (V.bool true) ∧ True) ?_ ?_
                    · unfold r26_7
                      refine R_mv (@rfl V (V.bool true)) ?_
                      exact R_nil ⟨rfl, trivial⟩
                    · intro T H ⟨t2, _⟩
                      refine W_ret ?_
                      refine y5 _ _ ?_
                      refine p23 _ _ ?_
                      refine y2 _ _ ?_
                      refine Ret_1 t2 (fz_bool ?_)
                      · exact (decide_eq_true (Or.inr (by rw [hc, fe_hit (by unfold longE; split <;> omega) (by omega)]; unfold longE; split <;> omega))).symm
                  ·
                    refine W_skip ?_
                    refine n5 _ _ ?_
                    refine W_regc (fun T H => T 0 = (V.sl (List.map cL (l))) ∧ T 3 = (iV ((k + 1 : Nat) : Int)) ∧ True) ?_ ?_
                    · unfold r26_5
                      refine R_mv t3 ?_
                      refine R_addN (m := k) (n := 1) (@rfl V (iV ((k : Nat) : Int))) (@rfl V (iV ((1 : Nat) : Int))) (by omega) ?_
                      refine R_mv (@rfl V (iV ((k + 1 : Nat) : Int))) ?_
                      exact R_nil ⟨t0, rfl, trivial⟩
                    · intro T H ⟨t0, t3, _⟩
                      refine p13 _ _ _ ?_ ⟨k+1, rfl, t0, (Eq.trans t3 (by first | rfl | simp)), ?_, ?_, ?_⟩
                      · omega
                      · omega
                      · omega
                      · rw [hc, fe_skip (by unfold longE; split <;> omega) (by omega)]
              ·
                refine W_seq_exit ?_
                refine p33 _ _ _ ?_
                refine x2 _ _ ?_
                refine W_seq_regc (fun T H => T 2 = (V.bool false) ∧ True) ?_ ?_
                · unfold r26_8
                  refine R_mv (@rfl V (V.bool false)) ?_
                  exact R_nil ⟨rfl, trivial⟩
                · intro T H ⟨t2, _⟩
                  refine W_ret ?_
                  refine Ret_1 t2 (fz_bool ?_)
                  · exact (decide_eq_false (by rw [hc, fe_end (by omega)]; omega)).symm

end Go.Proofs.Ytngkckefanbhgaa

namespace Go.Proofs.Ytngkckefanbhgaa
open Go Go.Proofs

theorem great22_pure (h : Hy) : PureC Try.prog 15 [(V.agg [(iV (h.m.i)), (iV (h.m.s)), (V.sl (List.map cL (h.m.nx))), (V.sl (List.map cL (h.m.ot))), (V.sl (List.map cL (h.acc)))])] (V.bool (decide ((40 < h.m.nx.length ∨ 40 < h.m.ot.length ∨ 20 < h.m.i) ∨ (200 < h.acc.length ∨ fe (longE h.acc) 0 h.acc.length ≠ 0)))) := by
  refine pure_of_Wz true 6 Try.func15 s15_ok (by kernel_rfl) (by simp [s15]) (by simp) (by simp) ?_
  unfold s15
  dsimp only
  refine W_seq_regc (fun T H => T 1 = (V.mp 1 1 0 0) ∧ H 1 = (⟨1, true, false, 26, 5, [[(iV (h.m.i)), (iV (h.m.s)), (V.sl (List.map cL (h.m.nx))), (V.sl (List.map cL (h.m.ot))), (V.sl (List.map cL (h.acc)))]]⟩ : Blk) ∧ True) ?_ ?_
  · unfold r15_0
    refine R_box (i := 1) (n := 0) (m := 5) (cs := [(iV (h.m.i)), (iV (h.m.s)), (V.sl (List.map cL (h.m.nx))), (V.sl (List.map cL (h.m.ot))), (V.sl (List.map cL (h.acc)))]) rfl (congrArg Blk.ver rfl) (@rfl V (V.agg [(iV (h.m.i)), (iV (h.m.s)), (V.sl (List.map cL (h.m.nx))), (V.sl (List.map cL (h.m.ot))), (V.sl (List.map cL (h.acc)))])) rfl rfl ?_
    refine R_mv (@rfl V (V.bool false)) ?_
    exact R_nil ⟨rfl, rfl, trivial⟩
  · intro T H ⟨t1, h1, _⟩
    refine W_seq_regc (fun T H => T 2 = (V.bool (decide ((40 < h.m.nx.length ∨ 40 < h.m.ot.length ∨ 20 < h.m.i) ∨ (200 < h.acc.length ∨ fe (longE h.acc) 0 h.acc.length ≠ 0)))) ∧ H 1 = (⟨1, true, false, 26, 5, [[(iV (h.m.i)), (iV (h.m.s)), (V.sl (List.map cL (h.m.nx))), (V.sl (List.map cL (h.m.ot))), (V.sl (List.map cL (h.acc)))]]⟩ : Blk) ∧ True) ?_ ?_
    · unfold r15_1
      refine R_fld_mp (o' := 0) t1 h1 (by first | rfl | simp [okB, Blk.own]) rfl ?_
      refine R_load_mp (v := (V.agg [(iV (h.m.i)), (iV (h.m.s)), (V.sl (List.map cL (h.m.nx))), (V.sl (List.map cL (h.m.ot)))])) (@rfl V (V.mp 1 1 0 0)) h1 (by first | rfl | simp [ldB, ldV, Blk.own, V.one]) ?_
      refine R_call (evcons (@rfl V (V.agg [(iV (h.m.i)), (iV (h.m.s)), (V.sl (List.map cL (h.m.nx))), (V.sl (List.map cL (h.m.ot)))])) evnil) (great6_pure h.m) (fzv_mapcanon _ _ (by simp)) (by simp) (Or.inl (by simp)) ?_
      refine R_mv (@rfl V (V.bool (decide (40 < h.m.nx.length ∨ 40 < h.m.ot.length ∨ 20 < h.m.i)))) ?_
      refine Ops_seg 4 (fun T H => T 10 = (V.bool (decide ((40 < h.m.nx.length ∨ 40 < h.m.ot.length ∨ 20 < h.m.i) ∨ (200 < h.acc.length ∨ fe (longE h.acc) 0 h.acc.length ≠ 0)))) ∧ H 1 = (⟨1, true, false, 26, 5, [[(iV (h.m.i)), (iV (h.m.s)), (V.sl (List.map cL (h.m.nx))), (V.sl (List.map cL (h.m.ot))), (V.sl (List.map cL (h.acc)))]]⟩ : Blk) ∧ True) ?_ ?_
      · by_cases g1 : 40 < h.m.nx.length ∨ 40 < h.m.ot.length ∨ 20 < h.m.i
        ·
          refine G_no (Eq.trans (@rfl V (V.bool (decide (40 < h.m.nx.length ∨ 40 < h.m.ot.length ∨ 20 < h.m.i)))) (congrArg V.bool (decide_eq_true g1))) (by decide) ?_
          refine G_no (Eq.trans (@rfl V (V.bool (decide (40 < h.m.nx.length ∨ 40 < h.m.ot.length ∨ 20 < h.m.i)))) (congrArg V.bool (decide_eq_true g1))) (by decide) ?_
          refine G_no (Eq.trans (@rfl V (V.bool (decide (40 < h.m.nx.length ∨ 40 < h.m.ot.length ∨ 20 < h.m.i)))) (congrArg V.bool (decide_eq_true g1))) (by decide) ?_
          refine R_pickT (Eq.trans (@rfl V (V.bool (decide (40 < h.m.nx.length ∨ 40 < h.m.ot.length ∨ 20 < h.m.i)))) (congrArg V.bool (decide_eq_true g1))) (@rfl V (V.bool true)) ?_
          exact ⟨(Eq.trans (@rfl V (V.bool true)) (dec_orT g1)), h1, trivial⟩
        ·
          refine G_yes (Eq.trans (@rfl V (V.bool (decide (40 < h.m.nx.length ∨ 40 < h.m.ot.length ∨ 20 < h.m.i)))) (congrArg V.bool (decide_eq_false g1))) ?_
          refine R_fld_mp (o' := 4) t1 h1 (by first | rfl | simp [okB, Blk.own]) rfl ?_
          refine G_yes (Eq.trans (@rfl V (V.bool (decide (40 < h.m.nx.length ∨ 40 < h.m.ot.length ∨ 20 < h.m.i)))) (congrArg V.bool (decide_eq_false g1))) ?_
          refine R_load_mp (v := (V.sl (List.map cL (h.acc)))) (@rfl V (V.mp 1 1 0 4)) h1 (by first | rfl | simp [ldB, ldV, Blk.own, V.one]) ?_
          refine G_yes (Eq.trans (@rfl V (V.bool (decide (40 < h.m.nx.length ∨ 40 < h.m.ot.length ∨ 20 < h.m.i)))) (congrArg V.bool (decide_eq_false g1))) ?_
          refine R_call (evcons (@rfl V (V.sl (List.map cL (h.acc)))) evnil) (long_pure h.acc) (fzv_mapcanon _ _ (by simp)) (by simp) (Or.inl (by simp)) ?_
          refine R_pickF (Eq.trans (@rfl V (V.bool (decide (40 < h.m.nx.length ∨ 40 < h.m.ot.length ∨ 20 < h.m.i)))) (congrArg V.bool (decide_eq_false g1))) (@rfl V (V.bool (decide (200 < h.acc.length ∨ fe (longE h.acc) 0 h.acc.length ≠ 0)))) ?_
          exact ⟨(Eq.trans (@rfl V (V.bool (decide (200 < h.acc.length ∨ fe (longE h.acc) 0 h.acc.length ≠ 0)))) (dec_orF g1)), h1, trivial⟩
      · intro T H ⟨t10, h1, _⟩
        refine R_mv t10 ?_
        exact R_nil ⟨rfl, h1, trivial⟩
    · intro T H ⟨t2, h1, _⟩
      refine W_ret ?_
      refine Ret_1 t2 (fz_canon (by simp) rfl)

end Go.Proofs.Ytngkckefanbhgaa

namespace Go.Proofs.Ytngkckefanbhgaa
open Go Go.Proofs

theorem mvalid_pure (m : M) : PureC Try.prog 55 [(V.agg [(iV (m.i)), (iV (m.s)), (V.sl (List.map cL (m.nx))), (V.sl (List.map cL (m.ot)))])] (iV (mval m)) := by
  refine pure_of_Wz true 6 Try.func55 s55_ok (by kernel_rfl) (by simp [s55]) (by simp) (by simp) ?_
  unfold s55
  dsimp only
  refine W_seq_regc (fun T H => T 1 = (V.mp 1 1 0 0) ∧ H 1 = (⟨1, true, false, 24, 4, [[(iV (m.i)), (iV (m.s)), (V.sl (List.map cL (m.nx))), (V.sl (List.map cL (m.ot)))]]⟩ : Blk) ∧ True) ?_ ?_
  · unfold r55_0
    refine R_box (i := 1) (n := 0) (m := 4) (cs := [(iV (m.i)), (iV (m.s)), (V.sl (List.map cL (m.nx))), (V.sl (List.map cL (m.ot)))]) rfl (congrArg Blk.ver rfl) (@rfl V (V.agg [(iV (m.i)), (iV (m.s)), (V.sl (List.map cL (m.nx))), (V.sl (List.map cL (m.ot)))])) rfl rfl ?_
    refine R_mv (@rfl V (iV (0))) ?_
    exact R_nil ⟨rfl, rfl, trivial⟩
  · intro T H ⟨t1, h1, _⟩
    refine W_seq_regc (fun T H => T 1 = (V.mp 1 1 0 0) ∧ T 3 = (iV ((m.nx.length : Nat) : Int)) ∧ H 1 = (⟨1, true, false, 24, 4, [[(iV (m.i)), (iV (m.s)), (V.sl (List.map cL (m.nx))), (V.sl (List.map cL (m.ot)))]]⟩ : Blk) ∧ True) ?_ ?_
    · unfold r55_1
      refine R_fld_mp (o' := 2) t1 h1 (by first | rfl | simp [okB, Blk.own]) rfl ?_
      refine R_load_mp (v := (V.sl (List.map cL (m.nx)))) (@rfl V (V.mp 1 1 0 2)) h1 (by first | rfl | simp [ldB, ldV, Blk.own, V.one]) ?_
      refine R_len (@rfl V (V.sl (List.map cL (m.nx)))) ?_
      refine R_mv (@rfl V (iV ((m.nx.length : Nat) : Int))) ?_
      exact R_nil ⟨t1, rfl, h1, trivial⟩
    · intro T H ⟨t1, t3, h1, _⟩
      refine W_seq_block fun Q1 n1 x1 y1 z1 => ?_
      refine W_seq_regc (fun T H => T 1 = (V.mp 1 1 0 0) ∧ T 3 = (iV ((m.nx.length : Nat) : Int)) ∧ T 11 = (V.bool (decide (((m.i) < (1)) ∨ ((64) < (m.i))))) ∧ H 1 = (⟨1, true, false, 24, 4, [[(iV (m.i)), (iV (m.s)), (V.sl (List.map cL (m.nx))), (V.sl (List.map cL (m.ot)))]]⟩ : Blk) ∧ True) ?_ ?_
      · unfold r55_2
        refine R_fld_mp (o' := 0) t1 h1 (by first | rfl | simp [okB, Blk.own]) rfl ?_
        refine R_load_mp (v := (iV (m.i))) (@rfl V (V.mp 1 1 0 0)) h1 (by first | rfl | simp [ldB, ldV, Blk.own, V.one]) ?_
        refine R_lss (x := (m.i)) (y := (1)) (@rfl V (iV (m.i))) (@rfl V (iV (1))) ?_
        refine R_mv (@rfl V (V.bool (decide ((m.i) < (1))))) ?_
        refine Ops_seg 4 (fun T H => T 1 = (V.mp 1 1 0 0) ∧ T 3 = (iV ((m.nx.length : Nat) : Int)) ∧ T 19 = (V.bool (decide (((m.i) < (1)) ∨ ((64) < (m.i))))) ∧ H 1 = (⟨1, true, false, 24, 4, [[(iV (m.i)), (iV (m.s)), (V.sl (List.map cL (m.nx))), (V.sl (List.map cL (m.ot)))]]⟩ : Blk) ∧ True) ?_ ?_
        · by_cases g2 : (m.i) < (1)
          ·
            refine G_no (Eq.trans (@rfl V (V.bool (decide ((m.i) < (1))))) (congrArg V.bool (decide_eq_true g2))) (by decide) ?_
            refine G_no (Eq.trans (@rfl V (V.bool (decide ((m.i) < (1))))) (congrArg V.bool (decide_eq_true g2))) (by decide) ?_
            refine G_no (Eq.trans (@rfl V (V.bool (decide ((m.i) < (1))))) (congrArg V.bool (decide_eq_true g2))) (by decide) ?_
            refine R_pickT (Eq.trans (@rfl V (V.bool (decide ((m.i) < (1))))) (congrArg V.bool (decide_eq_true g2))) (@rfl V (V.bool true)) ?_
            exact ⟨t1, t3, (Eq.trans (@rfl V (V.bool true)) (dec_orT g2)), h1, trivial⟩
          ·
            refine G_yes (Eq.trans (@rfl V (V.bool (decide ((m.i) < (1))))) (congrArg V.bool (decide_eq_false g2))) ?_
            refine R_fld_mp (o' := 0) t1 h1 (by first | rfl | simp [okB, Blk.own]) rfl ?_
            refine G_yes (Eq.trans (@rfl V (V.bool (decide ((m.i) < (1))))) (congrArg V.bool (decide_eq_false g2))) ?_
            refine R_load_mp (v := (iV (m.i))) (@rfl V (V.mp 1 1 0 0)) h1 (by first | rfl | simp [ldB, ldV, Blk.own, V.one]) ?_
            refine G_yes (Eq.trans (@rfl V (V.bool (decide ((m.i) < (1))))) (congrArg V.bool (decide_eq_false g2))) ?_
            refine R_gtr (x := (m.i)) (y := (64)) (@rfl V (iV (m.i))) (@rfl V (iV (64))) ?_
            refine R_pickF (Eq.trans (@rfl V (V.bool (decide ((m.i) < (1))))) (congrArg V.bool (decide_eq_false g2))) (@rfl V (V.bool (decide ((64) < (m.i))))) ?_
            exact ⟨t1, t3, (Eq.trans (@rfl V (V.bool (decide ((64) < (m.i))))) (dec_orF g2)), h1, trivial⟩
        · intro T H ⟨t1, t3, t19, h1, _⟩
          refine R_mv t19 ?_
          exact R_nil ⟨t1, t3, rfl, h1, trivial⟩
      · intro T H ⟨t1, t3, t11, h1, _⟩
        refine W_if (p := ((m.i) < (1)) ∨ ((64) < (m.i))) t11 (fun c3 => ?_) (fun c3 => ?_)
        ·
          refine W_seq_regc (fun T H => T 2 = (iV (2)) ∧ H 1 = (⟨1, true, false, 24, 4, [[(iV (m.i)), (iV (m.s)), (V.sl (List.map cL (m.nx))), (V.sl (List.map cL (m.ot)))]]⟩ : Blk) ∧ True) ?_ ?_
          · unfold r55_3
            refine R_mv (@rfl V (iV (2))) ?_
            exact R_nil ⟨rfl, h1, trivial⟩
          · intro T H ⟨t2, h1, _⟩
            refine W_ret ?_
            refine y1 _ _ ?_
            refine Ret_1 t2 (fz_int ?_)
            · rw [mval, if_pos (by omega)]
        ·
          refine W_seq_regc (fun T H => T 1 = (V.mp 1 1 0 0) ∧ T 3 = (iV ((m.nx.length : Nat) : Int)) ∧ T 20 = (V.bool (decide (((m.nx.length : Nat) : Int) = (0)))) ∧ H 1 = (⟨1, true, false, 24, 4, [[(iV (m.i)), (iV (m.s)), (V.sl (List.map cL (m.nx))), (V.sl (List.map cL (m.ot)))]]⟩ : Blk) ∧ True) ?_ ?_
          · unfold r55_4
            refine R_mv t3 ?_
            refine R_eql (x := ((m.nx.length : Nat) : Int)) (y := (0)) (@rfl V (iV ((m.nx.length : Nat) : Int))) (@rfl V (iV (0))) ?_
            refine R_mv (@rfl V (V.bool (decide (((m.nx.length : Nat) : Int) = (0))))) ?_
            exact R_nil ⟨t1, t3, rfl, h1, trivial⟩
          · intro T H ⟨t1, t3, t20, h1, _⟩
            refine W_if (p := ((m.nx.length : Nat) : Int) = (0)) t20 (fun c4 => ?_) (fun c4 => ?_)
            ·
              refine W_seq_regc (fun T H => T 2 = (iV (19)) ∧ H 1 = (⟨1, true, false, 24, 4, [[(iV (m.i)), (iV (m.s)), (V.sl (List.map cL (m.nx))), (V.sl (List.map cL (m.ot)))]]⟩ : Blk) ∧ True) ?_ ?_
              · unfold r55_5
                refine R_mv (@rfl V (iV (19))) ?_
                exact R_nil ⟨rfl, h1, trivial⟩
              · intro T H ⟨t2, h1, _⟩
                refine W_ret ?_
                refine y1 _ _ ?_
                refine Ret_1 t2 (fz_int ?_)
                · rw [mval, if_neg (by omega), if_pos (by omega)]
            ·
              refine W_seq_regc (fun T H => T 1 = (V.mp 1 1 0 0) ∧ T 3 = (iV ((m.nx.length : Nat) : Int)) ∧ T 23 = (V.bool (decide ((128) < ((m.nx.length : Nat) : Int)))) ∧ H 1 = (⟨1, true, false, 24, 4, [[(iV (m.i)), (iV (m.s)), (V.sl (List.map cL (m.nx))), (V.sl (List.map cL (m.ot)))]]⟩ : Blk) ∧ True) ?_ ?_
              · unfold r55_6
                refine R_mv t3 ?_
                refine R_gtr (x := ((m.nx.length : Nat) : Int)) (y := (128)) (@rfl V (iV ((m.nx.length : Nat) : Int))) (@rfl V (iV (128))) ?_
                refine R_mv (@rfl V (V.bool (decide ((128) < ((m.nx.length : Nat) : Int))))) ?_
                exact R_nil ⟨t1, t3, rfl, h1, trivial⟩
              · intro T H ⟨t1, t3, t23, h1, _⟩
                refine W_if (p := (128) < ((m.nx.length : Nat) : Int)) t23 (fun c5 => ?_) (fun c5 => ?_)
                ·
                  refine W_seq_regc (fun T H => T 2 = (iV (11)) ∧ H 1 = (⟨1, true, false, 24, 4, [[(iV (m.i)), (iV (m.s)), (V.sl (List.map cL (m.nx))), (V.sl (List.map cL (m.ot)))]]⟩ : Blk) ∧ True) ?_ ?_
                  · unfold r55_7
                    refine R_mv (@rfl V (iV (11))) ?_
                    exact R_nil ⟨rfl, h1, trivial⟩
                  · intro T H ⟨t2, h1, _⟩
                    refine W_ret ?_
                    refine y1 _ _ ?_
                    refine Ret_1 t2 (fz_int ?_)
                    · rw [mval, if_neg (by omega), if_neg (by omega), if_pos (by omega)]
                ·
                  refine W_seq_regc (fun T H => T 1 = (V.mp 1 1 0 0) ∧ T 3 = (iV ((m.nx.length : Nat) : Int)) ∧ T 26 = (V.bool (decide (((m.s) < (0)) ∨ (((m.nx.length : Nat) : Int) ≤ (m.s))))) ∧ H 1 = (⟨1, true, false, 24, 4, [[(iV (m.i)), (iV (m.s)), (V.sl (List.map cL (m.nx))), (V.sl (List.map cL (m.ot)))]]⟩ : Blk) ∧ True) ?_ ?_
                  · unfold r55_8
                    refine R_fld_mp (o' := 1) t1 h1 (by first | rfl | simp [okB, Blk.own]) rfl ?_
                    refine R_load_mp (v := (iV (m.s))) (@rfl V (V.mp 1 1 0 1)) h1 (by first | rfl | simp [ldB, ldV, Blk.own, V.one]) ?_
                    refine R_lss (x := (m.s)) (y := (0)) (@rfl V (iV (m.s))) (@rfl V (iV (0))) ?_
                    refine R_mv (@rfl V (V.bool (decide ((m.s) < (0))))) ?_
                    refine Ops_seg 5 (fun T H => T 1 = (V.mp 1 1 0 0) ∧ T 3 = (iV ((m.nx.length : Nat) : Int)) ∧ T 35 = (V.bool (decide (((m.s) < (0)) ∨ (((m.nx.length : Nat) : Int) ≤ (m.s))))) ∧ H 1 = (⟨1, true, false, 24, 4, [[(iV (m.i)), (iV (m.s)), (V.sl (List.map cL (m.nx))), (V.sl (List.map cL (m.ot)))]]⟩ : Blk) ∧ True) ?_ ?_
                    · by_cases g6 : (m.s) < (0)
                      ·
                        refine G_no (Eq.trans (@rfl V (V.bool (decide ((m.s) < (0))))) (congrArg V.bool (decide_eq_true g6))) (by decide) ?_
                        refine G_no (Eq.trans (@rfl V (V.bool (decide ((m.s) < (0))))) (congrArg V.bool (decide_eq_true g6))) (by decide) ?_
                        refine G_no (Eq.trans (@rfl V (V.bool (decide ((m.s) < (0))))) (congrArg V.bool (decide_eq_true g6))) (by decide) ?_
                        refine G_no (Eq.trans (@rfl V (V.bool (decide ((m.s) < (0))))) (congrArg V.bool (decide_eq_true g6))) (by decide) ?_
                        refine R_pickT (Eq.trans (@rfl V (V.bool (decide ((m.s) < (0))))) (congrArg V.bool (decide_eq_true g6))) (@rfl V (V.bool true)) ?_
                        exact ⟨t1, t3, (Eq.trans (@rfl V (V.bool true)) (dec_orT g6)), h1, trivial⟩
                      ·
                        refine G_yes (Eq.trans (@rfl V (V.bool (decide ((m.s) < (0))))) (congrArg V.bool (decide_eq_false g6))) ?_
                        refine R_fld_mp (o' := 1) t1 h1 (by first | rfl | simp [okB, Blk.own]) rfl ?_
                        refine G_yes (Eq.trans (@rfl V (V.bool (decide ((m.s) < (0))))) (congrArg V.bool (decide_eq_false g6))) ?_
                        refine R_load_mp (v := (iV (m.s))) (@rfl V (V.mp 1 1 0 1)) h1 (by first | rfl | simp [ldB, ldV, Blk.own, V.one]) ?_
                        refine G_yes (Eq.trans (@rfl V (V.bool (decide ((m.s) < (0))))) (congrArg V.bool (decide_eq_false g6))) ?_
                        refine R_mv t3 ?_
                        refine G_yes (Eq.trans (@rfl V (V.bool (decide ((m.s) < (0))))) (congrArg V.bool (decide_eq_false g6))) ?_
                        refine R_geq (x := (m.s)) (y := ((m.nx.length : Nat) : Int)) (@rfl V (iV (m.s))) (@rfl V (iV ((m.nx.length : Nat) : Int))) ?_
                        refine R_pickF (Eq.trans (@rfl V (V.bool (decide ((m.s) < (0))))) (congrArg V.bool (decide_eq_false g6))) (@rfl V (V.bool (decide (((m.nx.length : Nat) : Int) ≤ (m.s))))) ?_
                        exact ⟨t1, t3, (Eq.trans (@rfl V (V.bool (decide (((m.nx.length : Nat) : Int) ≤ (m.s))))) (dec_orF g6)), h1, trivial⟩
                    · intro T H ⟨t1, t3, t35, h1, _⟩
                      refine R_mv t35 ?_
                      exact R_nil ⟨t1, t3, rfl, h1, trivial⟩
                  · intro T H ⟨t1, t3, t26, h1, _⟩
                    refine W_if (p := ((m.s) < (0)) ∨ (((m.nx.length : Nat) : Int) ≤ (m.s))) t26 (fun c7 => ?_) (fun c7 => ?_)
                    ·
                      refine W_seq_regc (fun T H => T 2 = (iV (2)) ∧ H 1 = (⟨1, true, false, 24, 4, [[(iV (m.i)), (iV (m.s)), (V.sl (List.map cL (m.nx))), (V.sl (List.map cL (m.ot)))]]⟩ : Blk) ∧ True) ?_ ?_
                      · unfold r55_9
                        refine R_mv (@rfl V (iV (2))) ?_
                        exact R_nil ⟨rfl, h1, trivial⟩
                      · intro T H ⟨t2, h1, _⟩
                        refine W_ret ?_
                        refine y1 _ _ ?_
                        refine Ret_1 t2 (fz_int ?_)
                        · rw [mval, if_neg (by omega), if_neg (by omega), if_neg (by omega), if_pos (by omega)]
                    ·
                      refine W_seq_regc (fun T H => T 1 = (V.mp 1 1 0 0) ∧ T 3 = (iV ((m.nx.length : Nat) : Int)) ∧ T 36 = (V.bool (decide (((m.ot.length : Nat) : Int) ≠ ((m.nx.length : Nat) : Int)))) ∧ H 1 = (⟨1, true, false, 24, 4, [[(iV (m.i)), (iV (m.s)), (V.sl (List.map cL (m.nx))), (V.sl (List.map cL (m.ot)))]]⟩ : Blk) ∧ True) ?_ ?_
                      · unfold r55_10
                        refine R_fld_mp (o' := 3) t1 h1 (by first | rfl | simp [okB, Blk.own]) rfl ?_
                        refine R_load_mp (v := (V.sl (List.map cL (m.ot)))) (@rfl V (V.mp 1 1 0 3)) h1 (by first | rfl | simp [ldB, ldV, Blk.own, V.one]) ?_
                        refine R_len (@rfl V (V.sl (List.map cL (m.ot)))) ?_
                        refine R_mv t3 ?_
                        refine R_neq (x := ((m.ot.length : Nat) : Int)) (y := ((m.nx.length : Nat) : Int)) (@rfl V (iV ((m.ot.length : Nat) : Int))) (@rfl V (iV ((m.nx.length : Nat) : Int))) ?_
                        refine R_mv (@rfl V (V.bool (decide (((m.ot.length : Nat) : Int) ≠ ((m.nx.length : Nat) : Int))))) ?_
                        exact R_nil ⟨t1, t3, rfl, h1, trivial⟩
                      · intro T H ⟨t1, t3, t36, h1, _⟩
                        refine W_if (p := ((m.ot.length : Nat) : Int) ≠ ((m.nx.length : Nat) : Int)) t36 (fun c8 => ?_) (fun c8 => ?_)
                        ·
                          refine W_seq_regc (fun T H => T 2 = (iV (1)) ∧ H 1 = (⟨1, true, false, 24, 4, [[(iV (m.i)), (iV (m.s)), (V.sl (List.map cL (m.nx))), (V.sl (List.map cL (m.ot)))]]⟩ : Blk) ∧ True) ?_ ?_
                          · unfold r55_11
                            refine R_mv (@rfl V (iV (1))) ?_
                            exact R_nil ⟨rfl, h1, trivial⟩
                          · intro T H ⟨t2, h1, _⟩
                            refine W_ret ?_
                            refine y1 _ _ ?_
                            refine Ret_1 t2 (fz_int ?_)
                            · rw [mval, if_neg (by omega), if_neg (by omega), if_neg (by omega), if_neg (by omega), if_pos (by omega)]
                        ·
                          refine W_skip ?_
                          refine n1 _ _ ?_
                          refine W_seq_seq ?_
                          refine W_seq_regc (fun T H => T 1 = (V.mp 1 1 0 0) ∧ T 3 = (iV ((m.nx.length : Nat) : Int)) ∧ T 42 = (iV ((m.nx.length : Nat) : Int)) ∧ T 43 = (iV (0)) ∧ H 1 = (⟨1, true, false, 24, 4, [[(iV (m.i)), (iV (m.s)), (V.sl (List.map cL (m.nx))), (V.sl (List.map cL (m.ot)))]]⟩ : Blk) ∧ True) ?_ ?_
                          · unfold r55_12
                            refine R_mv t3 ?_
                            refine R_mv (@rfl V (iV (0))) ?_
                            exact R_nil ⟨t1, t3, rfl, rfl, h1, trivial⟩
                          · intro T H ⟨t1, t3, t42, t43, h1, _⟩
                            refine W_seq_block fun Q9 n9 x9 y9 z9 => ?_
                            refine W_loop (fun mm T H => ∃ (k : Nat), mm = m.nx.length - k ∧ T 1 = (V.mp 1 1 0 0) ∧ T 3 = (iV ((m.nx.length : Nat) : Int)) ∧ T 42 = (iV ((m.nx.length : Nat) : Int)) ∧ T 43 = (iV ((k : Nat) : Int)) ∧ H 1 = (⟨1, true, false, 24, 4, [[(iV (m.i)), (iV (m.s)), (V.sl (List.map cL (m.nx))), (V.sl (List.map cL (m.ot)))]]⟩ : Blk) ∧ (k ≤ m.nx.length) ∧ (1 ≤ m.i ∧ m.i ≤ 64 ∧ 0 < m.nx.length ∧ m.nx.length ≤ 128 ∧ m.ot.length = m.nx.length) ∧ (mval m = fe (rowE m) k (m.nx.length - k))) ?_ ?_
                            · refine ⟨_, 0, rfl, t1, t3, t42, (Eq.trans t43 (by first | rfl | simp)), h1, ?_, ?_, ?_⟩
                              · omega
                              · omega
                              · rw [mval, if_neg (by omega), if_neg (by omega), if_neg (by omega), if_neg (by omega), if_neg (by omega)]; rfl
                            · intro mm T H ⟨k, hmm, t1, t3, t42, t43, h1, hk, hv, hc⟩ Q10 p110 p210 p310
                              unfold b55_0
                              refine W_seq_regc (fun T H => T 1 = (V.mp 1 1 0 0) ∧ T 3 = (iV ((m.nx.length : Nat) : Int)) ∧ T 42 = (iV ((m.nx.length : Nat) : Int)) ∧ T 43 = (iV ((k : Nat) : Int)) ∧ T 44 = (V.bool (decide (((k : Nat) : Int) < ((m.nx.length : Nat) : Int)))) ∧ H 1 = (⟨1, true, false, 24, 4, [[(iV (m.i)), (iV (m.s)), (V.sl (List.map cL (m.nx))), (V.sl (List.map cL (m.ot)))]]⟩ : Blk) ∧ True) ?_ ?_
                              · unfold r55_13
                                refine R_lss (x := ((k : Nat) : Int)) (y := ((m.nx.length : Nat) : Int)) t43 t42 ?_
                                exact R_nil ⟨t1, t3, t42, t43, rfl, h1, trivial⟩
                              · intro T H ⟨t1, t3, t42, t43, t44, h1, _⟩
                                refine W_seq_if (p := ((k : Nat) : Int) < ((m.nx.length : Nat) : Int)) t44 (fun c11 => ?_) (fun c11 => ?_)
                                ·
                                  refine W_seq_skip ?_
                                  refine W_seq_block fun Q12 n12 x12 y12 z12 => ?_
                                  refine W_seq_regc (fun T H => T 1 = (V.mp 1 1 0 0) ∧ T 3 = (iV ((m.nx.length : Nat) : Int)) ∧ T 4 = (iV ((k : Nat) : Int)) ∧ T 42 = (iV ((m.nx.length : Nat) : Int)) ∧ T 43 = (iV ((k : Nat) : Int)) ∧ H 1 = (⟨1, true, false, 24, 4, [[(iV (m.i)), (iV (m.s)), (V.sl (List.map cL (m.nx))), (V.sl (List.map cL (m.ot)))]]⟩ : Blk) ∧ True) ?_ ?_
                                  · unfold r55_14
                                    refine R_mv t43 ?_
                                    refine R_mv (@rfl V (iV ((k : Nat) : Int))) ?_
                                    exact R_nil ⟨t1, t3, rfl, t42, t43, h1, trivial⟩
                                  · intro T H ⟨t1, t3, t4, t42, t43, h1, _⟩
                                    refine W_seq_seq ?_
                                    refine W_seq_regc (fun T H => T 1 = (V.mp 1 1 0 0) ∧ T 3 = (iV ((m.nx.length : Nat) : Int)) ∧ T 4 = (iV ((k : Nat) : Int)) ∧ T 42 = (iV ((m.nx.length : Nat) : Int)) ∧ T 43 = (iV ((k : Nat) : Int)) ∧ T 65 = (V.bool (decide ((((((nth (m.nx) (k))).length : Nat) : Int) ≠ (m.i)) ∨ (((((nth (m.ot) (k))).length : Nat) : Int) ≠ (m.i))))) ∧ H 1 = (⟨1, true, false, 24, 4, [[(iV (m.i)), (iV (m.s)), (V.sl (List.map cL (m.nx))), (V.sl (List.map cL (m.ot)))]]⟩ : Blk) ∧ True) ?_ ?_
                                    · unfold r55_15
                                      refine R_fld_mp (o' := 2) t1 h1 (by first | rfl | simp [okB, Blk.own]) rfl ?_
                                      refine R_load_mp (v := (V.sl (List.map cL (m.nx)))) (@rfl V (V.mp 1 1 0 2)) h1 (by first | rfl | simp [ldB, ldV, Blk.own, V.one]) ?_
                                      refine R_mv t4 ?_
                                      refine R_idx (i := k) (@rfl V (V.sl (List.map cL (m.nx)))) (@rfl V (iV ((k : Nat) : Int))) (by omega) rfl ?_
                                      refine R_load_pp (v := (V.sl (List.map cI ((nth (m.nx) (k)))))) (@rfl V (V.pp [(V.sl (List.map cI ((nth (m.nx) (k)))))])) (by first | rfl | simp [ldV]) ?_
                                      refine R_len (@rfl V (V.sl (List.map cI ((nth (m.nx) (k)))))) ?_
                                      refine R_fld_mp (o' := 0) t1 h1 (by first | rfl | simp [okB, Blk.own]) rfl ?_
                                      refine R_load_mp (v := (iV (m.i))) (@rfl V (V.mp 1 1 0 0)) h1 (by first | rfl | simp [ldB, ldV, Blk.own, V.one]) ?_
                                      refine R_neq (x := ((((nth (m.nx) (k))).length : Nat) : Int)) (y := (m.i)) (@rfl V (iV ((((nth (m.nx) (k))).length : Nat) : Int))) (@rfl V (iV (m.i))) ?_
                                      refine R_mv (@rfl V (V.bool (decide (((((nth (m.nx) (k))).length : Nat) : Int) ≠ (m.i))))) ?_
                                      refine Ops_seg 10 (fun T H => T 1 = (V.mp 1 1 0 0) ∧ T 3 = (iV ((m.nx.length : Nat) : Int)) ∧ T 4 = (iV ((k : Nat) : Int)) ∧ T 42 = (iV ((m.nx.length : Nat) : Int)) ∧ T 43 = (iV ((k : Nat) : Int)) ∧ T 65 = (V.bool (decide ((((((nth (m.nx) (k))).length : Nat) : Int) ≠ (m.i)) ∨ (((((nth (m.ot) (k))).length : Nat) : Int) ≠ (m.i))))) ∧ H 1 = (⟨1, true, false, 24, 4, [[(iV (m.i)), (iV (m.s)), (V.sl (List.map cL (m.nx))), (V.sl (List.map cL (m.ot)))]]⟩ : Blk) ∧ True) ?_ ?_
                                      · by_cases g13 : ((((nth (m.nx) (k))).length : Nat) : Int) ≠ (m.i)
                                        ·
                                          refine G_no (Eq.trans (@rfl V (V.bool (decide (((((nth (m.nx) (k))).length : Nat) : Int) ≠ (m.i))))) (congrArg V.bool (decide_eq_true g13))) (by decide) ?_
                                          refine G_no (Eq.trans (@rfl V (V.bool (decide (((((nth (m.nx) (k))).length : Nat) : Int) ≠ (m.i))))) (congrArg V.bool (decide_eq_true g13))) (by decide) ?_
                                          refine G_no (Eq.trans (@rfl V (V.bool (decide (((((nth (m.nx) (k))).length : Nat) : Int) ≠ (m.i))))) (congrArg V.bool (decide_eq_true g13))) (by decide) ?_
                                          refine G_no (Eq.trans (@rfl V (V.bool (decide (((((nth (m.nx) (k))).length : Nat) : Int) ≠ (m.i))))) (congrArg V.bool (decide_eq_true g13))) (by decide) ?_
                                          refine G_no (Eq.trans (@rfl V (V.bool (decide (((((nth (m.nx) (k))).length : Nat) : Int) ≠ (m.i))))) (congrArg V.bool (decide_eq_true g13))) (by decide) ?_
                                          refine G_no (Eq.trans (@rfl V (V.bool (decide (((((nth (m.nx) (k))).length : Nat) : Int) ≠ (m.i))))) (congrArg V.bool (decide_eq_true g13))) (by decide) ?_
                                          refine G_no (Eq.trans (@rfl V (V.bool (decide (((((nth (m.nx) (k))).length : Nat) : Int) ≠ (m.i))))) (congrArg V.bool (decide_eq_true g13))) (by decide) ?_
                                          refine G_no (Eq.trans (@rfl V (V.bool (decide (((((nth (m.nx) (k))).length : Nat) : Int) ≠ (m.i))))) (congrArg V.bool (decide_eq_true g13))) (by decide) ?_
                                          refine G_no (Eq.trans (@rfl V (V.bool (decide (((((nth (m.nx) (k))).length : Nat) : Int) ≠ (m.i))))) (congrArg V.bool (decide_eq_true g13))) (by decide) ?_
                                          refine R_pickT (Eq.trans (@rfl V (V.bool (decide (((((nth (m.nx) (k))).length : Nat) : Int) ≠ (m.i))))) (congrArg V.bool (decide_eq_true g13))) (@rfl V (V.bool true)) ?_
                                          exact ⟨t1, t3, t4, t42, t43, (Eq.trans (@rfl V (V.bool true)) (dec_orT g13)), h1, trivial⟩
                                        ·
                                          refine G_yes (Eq.trans (@rfl V (V.bool (decide (((((nth (m.nx) (k))).length : Nat) : Int) ≠ (m.i))))) (congrArg V.bool (decide_eq_false g13))) ?_
                                          refine R_fld_mp (o' := 3) t1 h1 (by first | rfl | simp [okB, Blk.own]) rfl ?_
                                          refine G_yes (Eq.trans (@rfl V (V.bool (decide (((((nth (m.nx) (k))).length : Nat) : Int) ≠ (m.i))))) (congrArg V.bool (decide_eq_false g13))) ?_
                                          refine R_load_mp (v := (V.sl (List.map cL (m.ot)))) (@rfl V (V.mp 1 1 0 3)) h1 (by first | rfl | simp [ldB, ldV, Blk.own, V.one]) ?_
                                          refine G_yes (Eq.trans (@rfl V (V.bool (decide (((((nth (m.nx) (k))).length : Nat) : Int) ≠ (m.i))))) (congrArg V.bool (decide_eq_false g13))) ?_
                                          refine R_mv t4 ?_
                                          refine G_yes (Eq.trans (@rfl V (V.bool (decide (((((nth (m.nx) (k))).length : Nat) : Int) ≠ (m.i))))) (congrArg V.bool (decide_eq_false g13))) ?_
                                          refine R_idx (i := k) (@rfl V (V.sl (List.map cL (m.ot)))) (@rfl V (iV ((k : Nat) : Int))) (by omega) rfl ?_
                                          refine G_yes (Eq.trans (@rfl V (V.bool (decide (((((nth (m.nx) (k))).length : Nat) : Int) ≠ (m.i))))) (congrArg V.bool (decide_eq_false g13))) ?_
                                          refine R_load_pp (v := (V.sl (List.map cI ((nth (m.ot) (k)))))) (@rfl V (V.pp [(V.sl (List.map cI ((nth (m.ot) (k)))))])) (by first | rfl | simp [ldV]) ?_
                                          refine G_yes (Eq.trans (@rfl V (V.bool (decide (((((nth (m.nx) (k))).length : Nat) : Int) ≠ (m.i))))) (congrArg V.bool (decide_eq_false g13))) ?_
                                          refine R_len (@rfl V (V.sl (List.map cI ((nth (m.ot) (k)))))) ?_
                                          refine G_yes (Eq.trans (@rfl V (V.bool (decide (((((nth (m.nx) (k))).length : Nat) : Int) ≠ (m.i))))) (congrArg V.bool (decide_eq_false g13))) ?_
                                          refine R_fld_mp (o' := 0) t1 h1 (by first | rfl | simp [okB, Blk.own]) rfl ?_
                                          refine G_yes (Eq.trans (@rfl V (V.bool (decide (((((nth (m.nx) (k))).length : Nat) : Int) ≠ (m.i))))) (congrArg V.bool (decide_eq_false g13))) ?_
                                          refine R_load_mp (v := (iV (m.i))) (@rfl V (V.mp 1 1 0 0)) h1 (by first | rfl | simp [ldB, ldV, Blk.own, V.one]) ?_
                                          refine G_yes (Eq.trans (@rfl V (V.bool (decide (((((nth (m.nx) (k))).length : Nat) : Int) ≠ (m.i))))) (congrArg V.bool (decide_eq_false g13))) ?_
                                          refine R_neq (x := ((((nth (m.ot) (k))).length : Nat) : Int)) (y := (m.i)) (@rfl V (iV ((((nth (m.ot) (k))).length : Nat) : Int))) (@rfl V (iV (m.i))) ?_
                                          refine R_pickF (Eq.trans (@rfl V (V.bool (decide (((((nth (m.nx) (k))).length : Nat) : Int) ≠ (m.i))))) (congrArg V.bool (decide_eq_false g13))) (@rfl V (V.bool (decide (((((nth (m.ot) (k))).length : Nat) : Int) ≠ (m.i))))) ?_
                                          exact ⟨t1, t3, t4, t42, t43, (Eq.trans (@rfl V (V.bool (decide (((((nth (m.ot) (k))).length : Nat) : Int) ≠ (m.i))))) (dec_orF g13)), h1, trivial⟩
                                      · intro T H ⟨t1, t3, t4, t42, t43, t65, h1, _⟩
                                        exact R_nil ⟨t1, t3, t4, t42, t43, t65, h1, trivial⟩
                                    · intro T H ⟨t1, t3, t4, t42, t43, t65, h1, _⟩
                                      refine W_seq_if (p := (((((nth (m.nx) (k))).length : Nat) : Int) ≠ (m.i)) ∨ (((((nth (m.ot) (k))).length : Nat) : Int) ≠ (m.i))) t65 (fun c14 => ?_) (fun c14 => ?_)
                                      ·
                                        refine W_seq_seq ?_
                                        refine W_seq_regc (fun T H => T 2 = (iV (1)) ∧ H 1 = (⟨1, true, false, 24, 4, [[(iV (m.i)), (iV (m.s)), (V.sl (List.map cL (m.nx))), (V.sl (List.map cL (m.ot)))]]⟩ : Blk) ∧ True) ?_ ?_
                                        · unfold r55_16
                                          refine R_mv (@rfl V (iV (1))) ?_
                                          exact R_nil ⟨rfl, h1, trivial⟩
                                        · intro T H ⟨t2, h1, _⟩
                                          refine W_seq_ret ?_
                                          refine y12 _ _ ?_
                                          refine p210 _ _ ?_
                                          refine y9 _ _ ?_
                                          refine Ret_1 t2 (fz_int ?_)
                                          · rw [hc, fe_hit (by rw [rowE, if_pos (by omega)]; decide) (by omega), rowE, if_pos (by omega)]
                                      ·
                                        refine W_seq_skip ?_
                                        refine W_seq_regc (fun T H => T 1 = (V.mp 1 1 0 0) ∧ T 3 = (iV ((m.nx.length : Nat) : Int)) ∧ T 4 = (iV ((k : Nat) : Int)) ∧ T 42 = (iV ((m.nx.length : Nat) : Int)) ∧ T 43 = (iV ((k : Nat) : Int)) ∧ T 67 = (iV (m.i)) ∧ T 68 = (iV (0)) ∧ H 1 = (⟨1, true, false, 24, 4, [[(iV (m.i)), (iV (m.s)), (V.sl (List.map cL (m.nx))), (V.sl (List.map cL (m.ot)))]]⟩ : Blk) ∧ True) ?_ ?_
                                        · unfold r55_17
                                          refine R_fld_mp (o' := 0) t1 h1 (by first | rfl | simp [okB, Blk.own]) rfl ?_
                                          refine R_load_mp (v := (iV (m.i))) (@rfl V (V.mp 1 1 0 0)) h1 (by first | rfl | simp [ldB, ldV, Blk.own, V.one]) ?_
                                          refine R_mv (@rfl V (iV (0))) ?_
                                          exact R_nil ⟨t1, t3, t4, t42, t43, rfl, rfl, h1, trivial⟩
                                        · intro T H ⟨t1, t3, t4, t42, t43, t67, t68, h1, _⟩
                                          refine W_block fun Q15 n15 x15 y15 z15 => ?_
                                          refine W_loop (fun mm T H => ∃ (a : Nat), mm = m.i.toNat - a ∧ T 1 = (V.mp 1 1 0 0) ∧ T 3 = (iV ((m.nx.length : Nat) : Int)) ∧ T 4 = (iV ((k : Nat) : Int)) ∧ T 42 = (iV ((m.nx.length : Nat) : Int)) ∧ T 43 = (iV ((k : Nat) : Int)) ∧ T 67 = (iV (m.i)) ∧ T 68 = (iV ((a : Nat) : Int)) ∧ H 1 = (⟨1, true, false, 24, 4, [[(iV (m.i)), (iV (m.s)), (V.sl (List.map cL (m.nx))), (V.sl (List.map cL (m.ot)))]]⟩ : Blk) ∧ (a ≤ m.i.toNat) ∧ (((nth m.nx k).length : Int) = m.i ∧ ((nth m.ot k).length : Int) = m.i) ∧ (rowE m k = fe (celE m k) a (m.i.toNat - a))) ?_ ?_
                                          · refine ⟨_, 0, rfl, t1, t3, t4, t42, t43, t67, (Eq.trans t68 (by first | rfl | simp)), h1, ?_, ?_, ?_⟩
                                            · omega
                                            · omega
                                            · rw [rowE, if_neg (by omega)]; rfl
                                          · intro mm T H ⟨a, hmm, t1, t3, t4, t42, t43, t67, t68, h1, ha, hl, hr⟩ Q16 p116 p216 p316
                                            unfold b55_1
                                            refine W_seq_regc (fun T H => T 1 = (V.mp 1 1 0 0) ∧ T 3 = (iV ((m.nx.length : Nat) : Int)) ∧ T 4 = (iV ((k : Nat) : Int)) ∧ T 42 = (iV ((m.nx.length : Nat) : Int)) ∧ T 43 = (iV ((k : Nat) : Int)) ∧ T 67 = (iV (m.i)) ∧ T 68 = (iV ((a : Nat) : Int)) ∧ T 69 = (V.bool (decide (((a : Nat) : Int) < (m.i)))) ∧ H 1 = (⟨1, true, false, 24, 4, [[(iV (m.i)), (iV (m.s)), (V.sl (List.map cL (m.nx))), (V.sl (List.map cL (m.ot)))]]⟩ : Blk) ∧ True) ?_ ?_
                                            · unfold r55_18
                                              refine R_lss (x := ((a : Nat) : Int)) (y := (m.i)) t68 t67 ?_
                                              exact R_nil ⟨t1, t3, t4, t42, t43, t67, t68, rfl, h1, trivial⟩
                                            · intro T H ⟨t1, t3, t4, t42, t43, t67, t68, t69, h1, _⟩
                                              refine W_seq_if (p := ((a : Nat) : Int) < (m.i)) t69 (fun c17 => ?_) (fun c17 => ?_)
                                              ·
                                                refine W_seq_skip ?_
                                                refine W_seq_block fun Q18 n18 x18 y18 z18 => ?_
                                                refine W_seq_regc (fun T H => T 1 = (V.mp 1 1 0 0) ∧ T 3 = (iV ((m.nx.length : Nat) : Int)) ∧ T 4 = (iV ((k : Nat) : Int)) ∧ T 5 = (iV ((a : Nat) : Int)) ∧ T 42 = (iV ((m.nx.length : Nat) : Int)) ∧ T 43 = (iV ((k : Nat) : Int)) ∧ T 67 = (iV (m.i)) ∧ T 68 = (iV ((a : Nat) : Int)) ∧ H 1 = (⟨1, true, false, 24, 4, [[(iV (m.i)), (iV (m.s)), (V.sl (List.map cL (m.nx))), (V.sl (List.map cL (m.ot)))]]⟩ : Blk) ∧ True) ?_ ?_
                                                · unfold r55_19
                                                  refine R_mv t68 ?_
                                                  refine R_mv (@rfl V (iV ((a : Nat) : Int))) ?_
                                                  exact R_nil ⟨t1, t3, t4, rfl, t42, t43, t67, t68, h1, trivial⟩
                                                · intro T H ⟨t1, t3, t4, t5, t42, t43, t67, t68, h1, _⟩
                                                  refine W_seq_regc (fun T H => T 1 = (V.mp 1 1 0 0) ∧ T 3 = (iV ((m.nx.length : Nat) : Int)) ∧ T 4 = (iV ((k : Nat) : Int)) ∧ T 6 = (iV ((nth ((nth (m.nx) (k))) (a)))) ∧ T 7 = (iV ((nth ((nth (m.ot) (k))) (a)))) ∧ T 42 = (iV ((m.nx.length : Nat) : Int)) ∧ T 43 = (iV ((k : Nat) : Int)) ∧ T 67 = (iV (m.i)) ∧ T 68 = (iV ((a : Nat) : Int)) ∧ H 1 = (⟨1, true, false, 24, 4, [[(iV (m.i)), (iV (m.s)), (V.sl (List.map cL (m.nx))), (V.sl (List.map cL (m.ot)))]]⟩ : Blk) ∧ True) ?_ ?_
                                                  · unfold r55_20
                                                    refine R_fld_mp (o' := 2) t1 h1 (by first | rfl | simp [okB, Blk.own]) rfl ?_
                                                    refine R_load_mp (v := (V.sl (List.map cL (m.nx)))) (@rfl V (V.mp 1 1 0 2)) h1 (by first | rfl | simp [ldB, ldV, Blk.own, V.one]) ?_
                                                    refine R_mv t4 ?_
                                                    refine R_idx (i := k) (@rfl V (V.sl (List.map cL (m.nx)))) (@rfl V (iV ((k : Nat) : Int))) (by omega) rfl ?_
                                                    refine R_load_pp (v := (V.sl (List.map cI ((nth (m.nx) (k)))))) (@rfl V (V.pp [(V.sl (List.map cI ((nth (m.nx) (k)))))])) (by first | rfl | simp [ldV]) ?_
                                                    refine R_mv t5 ?_
                                                    refine R_idx (i := a) (@rfl V (V.sl (List.map cI ((nth (m.nx) (k)))))) (@rfl V (iV ((a : Nat) : Int))) (by omega) rfl ?_
                                                    refine R_load_pp (v := (iV ((nth ((nth (m.nx) (k))) (a))))) (@rfl V (V.pp [(iV ((nth ((nth (m.nx) (k))) (a))))])) (by first | rfl | simp [ldV]) ?_
                                                    refine R_fld_mp (o' := 3) t1 h1 (by first | rfl | simp [okB, Blk.own]) rfl ?_
                                                    refine R_load_mp (v := (V.sl (List.map cL (m.ot)))) (@rfl V (V.mp 1 1 0 3)) h1 (by first | rfl | simp [ldB, ldV, Blk.own, V.one]) ?_
                                                    refine R_mv t4 ?_
                                                    refine R_idx (i := k) (@rfl V (V.sl (List.map cL (m.ot)))) (@rfl V (iV ((k : Nat) : Int))) (by omega) rfl ?_
                                                    refine R_load_pp (v := (V.sl (List.map cI ((nth (m.ot) (k)))))) (@rfl V (V.pp [(V.sl (List.map cI ((nth (m.ot) (k)))))])) (by first | rfl | simp [ldV]) ?_
                                                    refine R_mv t5 ?_
                                                    refine R_idx (i := a) (@rfl V (V.sl (List.map cI ((nth (m.ot) (k)))))) (@rfl V (iV ((a : Nat) : Int))) (by omega) rfl ?_
                                                    refine R_load_pp (v := (iV ((nth ((nth (m.ot) (k))) (a))))) (@rfl V (V.pp [(iV ((nth ((nth (m.ot) (k))) (a))))])) (by first | rfl | simp [ldV]) ?_
                                                    refine R_mv (@rfl V (iV ((nth ((nth (m.nx) (k))) (a))))) ?_
                                                    refine R_mv (@rfl V (iV ((nth ((nth (m.ot) (k))) (a))))) ?_
                                                    exact R_nil ⟨t1, t3, t4, rfl, rfl, t42, t43, t67, t68, h1, trivial⟩
                                                  · intro T H ⟨t1, t3, t4, t6, t7, t42, t43, t67, t68, h1, _⟩
                                                    refine W_seq_regc (fun T H => T 1 = (V.mp 1 1 0 0) ∧ T 3 = (iV ((m.nx.length : Nat) : Int)) ∧ T 4 = (iV ((k : Nat) : Int)) ∧ T 42 = (iV ((m.nx.length : Nat) : Int)) ∧ T 43 = (iV ((k : Nat) : Int)) ∧ T 67 = (iV (m.i)) ∧ T 68 = (iV ((a : Nat) : Int)) ∧ T 101 = (V.bool (decide ((((((nth ((nth (m.nx) (k))) (a))) < (0)) ∨ (((m.nx.length : Nat) : Int) ≤ ((nth ((nth (m.nx) (k))) (a))))) ∨ (((nth ((nth (m.ot) (k))) (a))) < (0))) ∨ ((1048576) < ((nth ((nth (m.ot) (k))) (a))))))) ∧ H 1 = (⟨1, true, false, 24, 4, [[(iV (m.i)), (iV (m.s)), (V.sl (List.map cL (m.nx))), (V.sl (List.map cL (m.ot)))]]⟩ : Blk) ∧ True) ?_ ?_
                                                    · unfold r55_21
                                                      refine R_mv t6 ?_
                                                      refine R_lss (x := ((nth ((nth (m.nx) (k))) (a)))) (y := (0)) (@rfl V (iV ((nth ((nth (m.nx) (k))) (a))))) (@rfl V (iV (0))) ?_
                                                      refine R_mv (@rfl V (V.bool (decide (((nth ((nth (m.nx) (k))) (a))) < (0))))) ?_
                                                      refine Ops_seg 4 (fun T H => T 1 = (V.mp 1 1 0 0) ∧ T 3 = (iV ((m.nx.length : Nat) : Int)) ∧ T 4 = (iV ((k : Nat) : Int)) ∧ T 7 = (iV ((nth ((nth (m.ot) (k))) (a)))) ∧ T 42 = (iV ((m.nx.length : Nat) : Int)) ∧ T 43 = (iV ((k : Nat) : Int)) ∧ T 67 = (iV (m.i)) ∧ T 68 = (iV ((a : Nat) : Int)) ∧ T 93 = (V.bool (decide ((((nth ((nth (m.nx) (k))) (a))) < (0)) ∨ (((m.nx.length : Nat) : Int) ≤ ((nth ((nth (m.nx) (k))) (a))))))) ∧ H 1 = (⟨1, true, false, 24, 4, [[(iV (m.i)), (iV (m.s)), (V.sl (List.map cL (m.nx))), (V.sl (List.map cL (m.ot)))]]⟩ : Blk) ∧ True) ?_ ?_
                                                      · by_cases g19 : ((nth ((nth (m.nx) (k))) (a))) < (0)
                                                        ·
                                                          refine G_no (Eq.trans (@rfl V (V.bool (decide (((nth ((nth (m.nx) (k))) (a))) < (0))))) (congrArg V.bool (decide_eq_true g19))) (by decide) ?_
                                                          refine G_no (Eq.trans (@rfl V (V.bool (decide (((nth ((nth (m.nx) (k))) (a))) < (0))))) (congrArg V.bool (decide_eq_true g19))) (by decide) ?_
                                                          refine G_no (Eq.trans (@rfl V (V.bool (decide (((nth ((nth (m.nx) (k))) (a))) < (0))))) (congrArg V.bool (decide_eq_true g19))) (by decide) ?_
                                                          refine R_pickT (Eq.trans (@rfl V (V.bool (decide (((nth ((nth (m.nx) (k))) (a))) < (0))))) (congrArg V.bool (decide_eq_true g19))) (@rfl V (V.bool true)) ?_
                                                          exact ⟨t1, t3, t4, t7, t42, t43, t67, t68, (Eq.trans (@rfl V (V.bool true)) (dec_orT g19)), h1, trivial⟩
                                                        ·
                                                          refine G_yes (Eq.trans (@rfl V (V.bool (decide (((nth ((nth (m.nx) (k))) (a))) < (0))))) (congrArg V.bool (decide_eq_false g19))) ?_
                                                          refine R_mv t6 ?_
                                                          refine G_yes (Eq.trans (@rfl V (V.bool (decide (((nth ((nth (m.nx) (k))) (a))) < (0))))) (congrArg V.bool (decide_eq_false g19))) ?_
                                                          refine R_mv t3 ?_
                                                          refine G_yes (Eq.trans (@rfl V (V.bool (decide (((nth ((nth (m.nx) (k))) (a))) < (0))))) (congrArg V.bool (decide_eq_false g19))) ?_
                                                          refine R_geq (x := ((nth ((nth (m.nx) (k))) (a)))) (y := ((m.nx.length : Nat) : Int)) (@rfl V (iV ((nth ((nth (m.nx) (k))) (a))))) (@rfl V (iV ((m.nx.length : Nat) : Int))) ?_
                                                          refine R_pickF (Eq.trans (@rfl V (V.bool (decide (((nth ((nth (m.nx) (k))) (a))) < (0))))) (congrArg V.bool (decide_eq_false g19))) (@rfl V (V.bool (decide (((m.nx.length : Nat) : Int) ≤ ((nth ((nth (m.nx) (k))) (a))))))) ?_
                                                          exact ⟨t1, t3, t4, t7, t42, t43, t67, t68, (Eq.trans (@rfl V (V.bool (decide (((m.nx.length : Nat) : Int) ≤ ((nth ((nth (m.nx) (k))) (a))))))) (dec_orF g19)), h1, trivial⟩
                                                      · intro T H ⟨t1, t3, t4, t7, t42, t43, t67, t68, t93, h1, _⟩
                                                        refine R_mv t93 ?_
                                                        refine Ops_seg 3 (fun T H => T 1 = (V.mp 1 1 0 0) ∧ T 3 = (iV ((m.nx.length : Nat) : Int)) ∧ T 4 = (iV ((k : Nat) : Int)) ∧ T 7 = (iV ((nth ((nth (m.ot) (k))) (a)))) ∧ T 42 = (iV ((m.nx.length : Nat) : Int)) ∧ T 43 = (iV ((k : Nat) : Int)) ∧ T 67 = (iV (m.i)) ∧ T 68 = (iV ((a : Nat) : Int)) ∧ T 97 = (V.bool (decide (((((nth ((nth (m.nx) (k))) (a))) < (0)) ∨ (((m.nx.length : Nat) : Int) ≤ ((nth ((nth (m.nx) (k))) (a))))) ∨ (((nth ((nth (m.ot) (k))) (a))) < (0))))) ∧ H 1 = (⟨1, true, false, 24, 4, [[(iV (m.i)), (iV (m.s)), (V.sl (List.map cL (m.nx))), (V.sl (List.map cL (m.ot)))]]⟩ : Blk) ∧ True) ?_ ?_
                                                        · by_cases g20 : (((nth ((nth (m.nx) (k))) (a))) < (0)) ∨ (((m.nx.length : Nat) : Int) ≤ ((nth ((nth (m.nx) (k))) (a))))
                                                          ·
                                                            refine G_no (Eq.trans (@rfl V (V.bool (decide ((((nth ((nth (m.nx) (k))) (a))) < (0)) ∨ (((m.nx.length : Nat) : Int) ≤ ((nth ((nth (m.nx) (k))) (a)))))))) (congrArg V.bool (decide_eq_true g20))) (by decide) ?_
                                                            refine G_no (Eq.trans (@rfl V (V.bool (decide ((((nth ((nth (m.nx) (k))) (a))) < (0)) ∨ (((m.nx.length : Nat) : Int) ≤ ((nth ((nth (m.nx) (k))) (a)))))))) (congrArg V.bool (decide_eq_true g20))) (by decide) ?_
                                                            refine R_pickT (Eq.trans (@rfl V (V.bool (decide ((((nth ((nth (m.nx) (k))) (a))) < (0)) ∨ (((m.nx.length : Nat) : Int) ≤ ((nth ((nth (m.nx) (k))) (a)))))))) (congrArg V.bool (decide_eq_true g20))) (@rfl V (V.bool true)) ?_
                                                            exact ⟨t1, t3, t4, t7, t42, t43, t67, t68, (Eq.trans (@rfl V (V.bool true)) (dec_orT g20)), h1, trivial⟩
                                                          ·
                                                            refine G_yes (Eq.trans (@rfl V (V.bool (decide ((((nth ((nth (m.nx) (k))) (a))) < (0)) ∨ (((m.nx.length : Nat) : Int) ≤ ((nth ((nth (m.nx) (k))) (a)))))))) (congrArg V.bool (decide_eq_false g20))) ?_
                                                            refine R_mv t7 ?_
                                                            refine G_yes (Eq.trans (@rfl V (V.bool (decide ((((nth ((nth (m.nx) (k))) (a))) < (0)) ∨ (((m.nx.length : Nat) : Int) ≤ ((nth ((nth (m.nx) (k))) (a)))))))) (congrArg V.bool (decide_eq_false g20))) ?_
                                                            refine R_lss (x := ((nth ((nth (m.ot) (k))) (a)))) (y := (0)) (@rfl V (iV ((nth ((nth (m.ot) (k))) (a))))) (@rfl V (iV (0))) ?_
                                                            refine R_pickF (Eq.trans (@rfl V (V.bool (decide ((((nth ((nth (m.nx) (k))) (a))) < (0)) ∨ (((m.nx.length : Nat) : Int) ≤ ((nth ((nth (m.nx) (k))) (a)))))))) (congrArg V.bool (decide_eq_false g20))) (@rfl V (V.bool (decide (((nth ((nth (m.ot) (k))) (a))) < (0))))) ?_
                                                            exact ⟨t1, t3, t4, t7, t42, t43, t67, t68, (Eq.trans (@rfl V (V.bool (decide (((nth ((nth (m.ot) (k))) (a))) < (0))))) (dec_orF g20)), h1, trivial⟩
                                                        · intro T H ⟨t1, t3, t4, t7, t42, t43, t67, t68, t97, h1, _⟩
                                                          refine R_mv t97 ?_
                                                          refine Ops_seg 3 (fun T H => T 1 = (V.mp 1 1 0 0) ∧ T 3 = (iV ((m.nx.length : Nat) : Int)) ∧ T 4 = (iV ((k : Nat) : Int)) ∧ T 42 = (iV ((m.nx.length : Nat) : Int)) ∧ T 43 = (iV ((k : Nat) : Int)) ∧ T 67 = (iV (m.i)) ∧ T 68 = (iV ((a : Nat) : Int)) ∧ T 101 = (V.bool (decide ((((((nth ((nth (m.nx) (k))) (a))) < (0)) ∨ (((m.nx.length : Nat) : Int) ≤ ((nth ((nth (m.nx) (k))) (a))))) ∨ (((nth ((nth (m.ot) (k))) (a))) < (0))) ∨ ((1048576) < ((nth ((nth (m.ot) (k))) (a))))))) ∧ H 1 = (⟨1, true, false, 24, 4, [[(iV (m.i)), (iV (m.s)), (V.sl (List.map cL (m.nx))), (V.sl (List.map cL (m.ot)))]]⟩ : Blk) ∧ True) ?_ ?_
                                                          · by_cases g21 : ((((nth ((nth (m.nx) (k))) (a))) < (0)) ∨ (((m.nx.length : Nat) : Int) ≤ ((nth ((nth (m.nx) (k))) (a))))) ∨ (((nth ((nth (m.ot) (k))) (a))) < (0))
                                                            ·
                                                              refine G_no (Eq.trans (@rfl V (V.bool (decide (((((nth ((nth (m.nx) (k))) (a))) < (0)) ∨ (((m.nx.length : Nat) : Int) ≤ ((nth ((nth (m.nx) (k))) (a))))) ∨ (((nth ((nth (m.ot) (k))) (a))) < (0)))))) (congrArg V.bool (decide_eq_true g21))) (by decide) ?_
                                                              refine G_no (Eq.trans (@rfl V (V.bool (decide (((((nth ((nth (m.nx) (k))) (a))) < (0)) ∨ (((m.nx.length : Nat) : Int) ≤ ((nth ((nth (m.nx) (k))) (a))))) ∨ (((nth ((nth (m.ot) (k))) (a))) < (0)))))) (congrArg V.bool (decide_eq_true g21))) (by decide) ?_
                                                              refine R_pickT (Eq.trans (@rfl V (V.bool (decide (((((nth ((nth (m.nx) (k))) (a))) < (0)) ∨ (((m.nx.length : Nat) : Int) ≤ ((nth ((nth (m.nx) (k))) (a))))) ∨ (((nth ((nth (m.ot) (k))) (a))) < (0)))))) (congrArg V.bool (decide_eq_true g21))) (@rfl V (V.bool true)) ?_
                                                              exact ⟨t1, t3, t4, t42, t43, t67, t68, (Eq.trans (@rfl V (V.bool true)) (dec_orT g21)), h1, trivial⟩
                                                            ·
                                                              refine G_yes (Eq.trans (@rfl V (V.bool (decide (((((nth ((nth (m.nx) (k))) (a))) < (0)) ∨ (((m.nx.length : Nat) : Int) ≤ ((nth ((nth (m.nx) (k))) (a))))) ∨ (((nth ((nth (m.ot) (k))) (a))) < (0)))))) (congrArg V.bool (decide_eq_false g21))) ?_
                                                              refine R_mv t7 ?_
                                                              refine G_yes (Eq.trans (@rfl V (V.bool (decide (((((nth ((nth (m.nx) (k))) (a))) < (0)) ∨ (((m.nx.length : Nat) : Int) ≤ ((nth ((nth (m.nx) (k))) (a))))) ∨ (((nth ((nth (m.ot) (k))) (a))) < (0)))))) (congrArg V.bool (decide_eq_false g21))) ?_
                                                              refine R_gtr (x := ((nth ((nth (m.ot) (k))) (a)))) (y := (1048576)) (@rfl V (iV ((nth ((nth (m.ot) (k))) (a))))) (@rfl V (iV (1048576))) ?_
                                                              refine R_pickF (Eq.trans (@rfl V (V.bool (decide (((((nth ((nth (m.nx) (k))) (a))) < (0)) ∨ (((m.nx.length : Nat) : Int) ≤ ((nth ((nth (m.nx) (k))) (a))))) ∨ (((nth ((nth (m.ot) (k))) (a))) < (0)))))) (congrArg V.bool (decide_eq_false g21))) (@rfl V (V.bool (decide ((1048576) < ((nth ((nth (m.ot) (k))) (a))))))) ?_
                                                              exact ⟨t1, t3, t4, t42, t43, t67, t68, (Eq.trans (@rfl V (V.bool (decide ((1048576) < ((nth ((nth (m.ot) (k))) (a))))))) (dec_orF g21)), h1, trivial⟩
                                                          · intro T H ⟨t1, t3, t4, t42, t43, t67, t68, t101, h1, _⟩
                                                            exact R_nil ⟨t1, t3, t4, t42, t43, t67, t68, t101, h1, trivial⟩
                                                    · intro T H ⟨t1, t3, t4, t42, t43, t67, t68, t101, h1, _⟩
                                                      refine W_if (p := (((((nth ((nth (m.nx) (k))) (a))) < (0)) ∨ (((m.nx.length : Nat) : Int) ≤ ((nth ((nth (m.nx) (k))) (a))))) ∨ (((nth ((nth (m.ot) (k))) (a))) < (0))) ∨ ((1048576) < ((nth ((nth (m.ot) (k))) (a))))) t101 (fun c22 => ?_) (fun c22 => ?_)
                                                      ·
                                                        refine W_seq_regc (fun T H => T 2 = (iV (2)) ∧ H 1 = (⟨1, true, false, 24, 4, [[(iV (m.i)), (iV (m.s)), (V.sl (List.map cL (m.nx))), (V.sl (List.map cL (m.ot)))]]⟩ : Blk) ∧ True) ?_ ?_
                                                        · unfold r55_22
                                                          refine R_mv (@rfl V (iV (2))) ?_
                                                          exact R_nil ⟨rfl, h1, trivial⟩
                                                        · intro T H ⟨t2, h1, _⟩
                                                          refine W_ret ?_
                                                          refine y18 _ _ ?_
                                                          refine p216 _ _ ?_
                                                          refine y15 _ _ ?_
                                                          refine y12 _ _ ?_
                                                          refine p210 _ _ ?_
                                                          refine y9 _ _ ?_
                                                          refine Ret_1 t2 (fz_int ?_)
                                                          · have e : rowE m k = 2 := by
                                                              rw [hr, fe_hit (by unfold celE; split <;> omega) (by omega)]; unfold celE; split <;> omega
                                                            rw [hc, fe_hit (by omega) (by omega), e]
                                                      ·
                                                        refine W_skip ?_
                                                        refine n18 _ _ ?_
                                                        refine W_regc (fun T H => T 1 = (V.mp 1 1 0 0) ∧ T 3 = (iV ((m.nx.length : Nat) : Int)) ∧ T 4 = (iV ((k : Nat) : Int)) ∧ T 42 = (iV ((m.nx.length : Nat) : Int)) ∧ T 43 = (iV ((k : Nat) : Int)) ∧ T 67 = (iV (m.i)) ∧ T 68 = (iV ((a + 1 : Nat) : Int)) ∧ H 1 = (⟨1, true, false, 24, 4, [[(iV (m.i)), (iV (m.s)), (V.sl (List.map cL (m.nx))), (V.sl (List.map cL (m.ot)))]]⟩ : Blk) ∧ True) ?_ ?_
                                                        · unfold r55_23
                                                          refine R_addN (m := a) (n := 1) t68 (@rfl V (iV ((1 : Nat) : Int))) (by omega) ?_
                                                          refine R_mv (@rfl V (iV ((a + 1 : Nat) : Int))) ?_
                                                          exact R_nil ⟨t1, t3, t4, t42, t43, t67, rfl, h1, trivial⟩
                                                        · intro T H ⟨t1, t3, t4, t42, t43, t67, t68, h1, _⟩
                                                          refine p116 _ _ _ ?_ ⟨a+1, rfl, t1, t3, t4, t42, t43, t67, (Eq.trans t68 (by first | rfl | simp)), h1, ?_, ?_, ?_⟩
                                                          · omega
                                                          · omega
                                                          · omega
                                                          · rw [hr, fe_skip (by unfold celE; split <;> omega) (by omega)]
                                              ·
                                                refine W_seq_exit ?_
                                                refine p316 _ _ _ ?_
                                                refine x15 _ _ ?_
                                                refine n12 _ _ ?_
                                                refine W_regc (fun T H => T 1 = (V.mp 1 1 0 0) ∧ T 3 = (iV ((m.nx.length : Nat) : Int)) ∧ T 42 = (iV ((m.nx.length : Nat) : Int)) ∧ T 43 = (iV ((k + 1 : Nat) : Int)) ∧ H 1 = (⟨1, true, false, 24, 4, [[(iV (m.i)), (iV (m.s)), (V.sl (List.map cL (m.nx))), (V.sl (List.map cL (m.ot)))]]⟩ : Blk) ∧ True) ?_ ?_
                                                · unfold r55_24
                                                  refine R_addN (m := k) (n := 1) t43 (@rfl V (iV ((1 : Nat) : Int))) (by omega) ?_
                                                  refine R_mv (@rfl V (iV ((k + 1 : Nat) : Int))) ?_
                                                  exact R_nil ⟨t1, t3, t42, rfl, h1, trivial⟩
                                                · intro T H ⟨t1, t3, t42, t43, h1, _⟩
                                                  refine p110 _ _ _ ?_ ⟨k+1, rfl, t1, t3, t42, (Eq.trans t43 (by first | rfl | simp)), h1, ?_, ?_, ?_⟩
                                                  · omega
                                                  · omega
                                                  · omega
                                                  · rw [hc, fe_skip (by rw [hr, fe_end (by omega)]) (by omega)]
                                ·
                                  refine W_seq_exit ?_
                                  refine p310 _ _ _ ?_
                                  refine x9 _ _ ?_
                                  refine W_seq_regc (fun T H => T 2 = (iV (0)) ∧ H 1 = (⟨1, true, false, 24, 4, [[(iV (m.i)), (iV (m.s)), (V.sl (List.map cL (m.nx))), (V.sl (List.map cL (m.ot)))]]⟩ : Blk) ∧ True) ?_ ?_
                                  · unfold r55_25
                                    refine R_mv (@rfl V (iV (0))) ?_
                                    exact R_nil ⟨rfl, h1, trivial⟩
                                  · intro T H ⟨t2, h1, _⟩
                                    refine W_ret ?_
                                    refine Ret_1 t2 (fz_int ?_)
                                    · rw [hc, fe_end (by omega)]

end Go.Proofs.Ytngkckefanbhgaa

namespace Go.Proofs.Ytngkckefanbhgaa
open Go Go.Proofs

theorem state_pure (m : M) (s : Int) : PureC Try.prog 93 [(V.agg [(iV (m.i)), (iV (m.s)), (V.sl (List.map cL (m.nx))), (V.sl (List.map cL (m.ot)))]), (iV (s))] (iV (stE m s)) := by
  refine pure_of_Wz true 6 Try.func93 s93_ok (by kernel_rfl) (by simp [s93]) (by simp) (by simp) ?_
  unfold s93
  dsimp only
  refine W_seq_regc (fun T H => T 1 = (iV (s)) ∧ T 2 = (V.mp 2 1 0 0) ∧ H 2 = (⟨1, true, false, 24, 4, [[(iV (m.i)), (iV (m.s)), (V.sl (List.map cL (m.nx))), (V.sl (List.map cL (m.ot)))]]⟩ : Blk) ∧ True) ?_ ?_
  · unfold r93_0
    refine R_box (i := 2) (n := 0) (m := 4) (cs := [(iV (m.i)), (iV (m.s)), (V.sl (List.map cL (m.nx))), (V.sl (List.map cL (m.ot)))]) rfl (congrArg Blk.ver rfl) (@rfl V (V.agg [(iV (m.i)), (iV (m.s)), (V.sl (List.map cL (m.nx))), (V.sl (List.map cL (m.ot)))])) rfl rfl ?_
    refine R_mv (@rfl V (iV (0))) ?_
    exact R_nil ⟨rfl, rfl, rfl, trivial⟩
  · intro T H ⟨t1, t2, h2, _⟩
    refine W_seq_seq ?_
    refine W_seq_regc (fun T H => T 1 = (iV (s)) ∧ T 2 = (V.mp 2 1 0 0) ∧ T 5 = (iV (mval m)) ∧ H 2 = (⟨1, true, false, 24, 4, [[(iV (m.i)), (iV (m.s)), (V.sl (List.map cL (m.nx))), (V.sl (List.map cL (m.ot)))]]⟩ : Blk) ∧ True) ?_ ?_
    · unfold r93_1
      refine R_load_mp (v := (V.agg [(iV (m.i)), (iV (m.s)), (V.sl (List.map cL (m.nx))), (V.sl (List.map cL (m.ot)))])) t2 h2 (by first | rfl | simp [ldB, ldV, Blk.own, V.one]) ?_
      refine R_call (evcons (@rfl V (V.agg [(iV (m.i)), (iV (m.s)), (V.sl (List.map cL (m.nx))), (V.sl (List.map cL (m.ot)))])) evnil) (mvalid_pure m) (fzv_mapcanon _ _ (by simp)) (by simp) (Or.inl (by simp)) ?_
      refine R_mv (@rfl V (iV (mval m))) ?_
      exact R_nil ⟨t1, t2, rfl, h2, trivial⟩
    · intro T H ⟨t1, t2, t5, h2, _⟩
      refine W_seq_seq ?_
      refine W_seq_regc (fun T H => T 1 = (iV (s)) ∧ T 2 = (V.mp 2 1 0 0) ∧ T 5 = (iV (mval m)) ∧ T 9 = (V.bool (decide ((mval m) ≠ (0)))) ∧ H 2 = (⟨1, true, false, 24, 4, [[(iV (m.i)), (iV (m.s)), (V.sl (List.map cL (m.nx))), (V.sl (List.map cL (m.ot)))]]⟩ : Blk) ∧ True) ?_ ?_
      · unfold r93_2
        refine R_mv t5 ?_
        refine R_neq (x := (mval m)) (y := (0)) (@rfl V (iV (mval m))) (@rfl V (iV (0))) ?_
        exact R_nil ⟨t1, t2, t5, rfl, h2, trivial⟩
      · intro T H ⟨t1, t2, t5, t9, h2, _⟩
        refine W_seq_if (p := (mval m) ≠ (0)) t9 (fun c1 => ?_) (fun c1 => ?_)
        ·
          refine W_seq_seq ?_
          refine W_seq_regc (fun T H => T 4 = (iV (mval m)) ∧ H 2 = (⟨1, true, false, 24, 4, [[(iV (m.i)), (iV (m.s)), (V.sl (List.map cL (m.nx))), (V.sl (List.map cL (m.ot)))]]⟩ : Blk) ∧ True) ?_ ?_
          · unfold r93_3
            refine R_mv t5 ?_
            refine R_mv (@rfl V (iV (mval m))) ?_
            exact R_nil ⟨rfl, h2, trivial⟩
          · intro T H ⟨t4, h2, _⟩
            refine W_seq_ret ?_
            refine Ret_1 t4 (fz_int ?_)
            · rw [stE, if_pos (by omega)]
        ·
          refine W_seq_skip ?_
          refine W_seq_seq ?_
          refine W_seq_regc (fun T H => T 19 = (V.bool (decide (((s) < (0)) ∨ (((m.nx.length : Nat) : Int) ≤ (s))))) ∧ H 2 = (⟨1, true, false, 24, 4, [[(iV (m.i)), (iV (m.s)), (V.sl (List.map cL (m.nx))), (V.sl (List.map cL (m.ot)))]]⟩ : Blk) ∧ True) ?_ ?_
          · unfold r93_4
            refine R_mv t1 ?_
            refine R_lss (x := (s)) (y := (0)) (@rfl V (iV (s))) (@rfl V (iV (0))) ?_
            refine R_mv (@rfl V (V.bool (decide ((s) < (0))))) ?_
            refine Ops_seg 6 (fun T H => T 19 = (V.bool (decide (((s) < (0)) ∨ (((m.nx.length : Nat) : Int) ≤ (s))))) ∧ H 2 = (⟨1, true, false, 24, 4, [[(iV (m.i)), (iV (m.s)), (V.sl (List.map cL (m.nx))), (V.sl (List.map cL (m.ot)))]]⟩ : Blk) ∧ True) ?_ ?_
            · by_cases g2 : (s) < (0)
              ·
                refine G_no (Eq.trans (@rfl V (V.bool (decide ((s) < (0))))) (congrArg V.bool (decide_eq_true g2))) (by decide) ?_
                refine G_no (Eq.trans (@rfl V (V.bool (decide ((s) < (0))))) (congrArg V.bool (decide_eq_true g2))) (by decide) ?_
                refine G_no (Eq.trans (@rfl V (V.bool (decide ((s) < (0))))) (congrArg V.bool (decide_eq_true g2))) (by decide) ?_
                refine G_no (Eq.trans (@rfl V (V.bool (decide ((s) < (0))))) (congrArg V.bool (decide_eq_true g2))) (by decide) ?_
                refine G_no (Eq.trans (@rfl V (V.bool (decide ((s) < (0))))) (congrArg V.bool (decide_eq_true g2))) (by decide) ?_
                refine R_pickT (Eq.trans (@rfl V (V.bool (decide ((s) < (0))))) (congrArg V.bool (decide_eq_true g2))) (@rfl V (V.bool true)) ?_
                exact ⟨(Eq.trans (@rfl V (V.bool true)) (dec_orT g2)), h2, trivial⟩
              ·
                refine G_yes (Eq.trans (@rfl V (V.bool (decide ((s) < (0))))) (congrArg V.bool (decide_eq_false g2))) ?_
                refine R_mv t1 ?_
                refine G_yes (Eq.trans (@rfl V (V.bool (decide ((s) < (0))))) (congrArg V.bool (decide_eq_false g2))) ?_
                refine R_fld_mp (o' := 2) t2 h2 (by first | rfl | simp [okB, Blk.own]) rfl ?_
                refine G_yes (Eq.trans (@rfl V (V.bool (decide ((s) < (0))))) (congrArg V.bool (decide_eq_false g2))) ?_
                refine R_load_mp (v := (V.sl (List.map cL (m.nx)))) (@rfl V (V.mp 2 1 0 2)) h2 (by first | rfl | simp [ldB, ldV, Blk.own, V.one]) ?_
                refine G_yes (Eq.trans (@rfl V (V.bool (decide ((s) < (0))))) (congrArg V.bool (decide_eq_false g2))) ?_
                refine R_len (@rfl V (V.sl (List.map cL (m.nx)))) ?_
                refine G_yes (Eq.trans (@rfl V (V.bool (decide ((s) < (0))))) (congrArg V.bool (decide_eq_false g2))) ?_
                refine R_geq (x := (s)) (y := ((m.nx.length : Nat) : Int)) (@rfl V (iV (s))) (@rfl V (iV ((m.nx.length : Nat) : Int))) ?_
                refine R_pickF (Eq.trans (@rfl V (V.bool (decide ((s) < (0))))) (congrArg V.bool (decide_eq_false g2))) (@rfl V (V.bool (decide (((m.nx.length : Nat) : Int) ≤ (s))))) ?_
                exact ⟨(Eq.trans (@rfl V (V.bool (decide (((m.nx.length : Nat) : Int) ≤ (s))))) (dec_orF g2)), h2, trivial⟩
            · intro T H ⟨t19, h2, _⟩
              exact R_nil ⟨t19, h2, trivial⟩
          · intro T H ⟨t19, h2, _⟩
            refine W_seq_if (p := ((s) < (0)) ∨ (((m.nx.length : Nat) : Int) ≤ (s))) t19 (fun c3 => ?_) (fun c3 => ?_)
            ·
              refine W_seq_seq ?_
              refine W_seq_regc (fun T H => T 4 = (iV (2)) ∧ H 2 = (⟨1, true, false, 24, 4, [[(iV (m.i)), (iV (m.s)), (V.sl (List.map cL (m.nx))), (V.sl (List.map cL (m.ot)))]]⟩ : Blk) ∧ True) ?_ ?_
              · unfold r93_5
                refine R_mv (@rfl V (iV (2))) ?_
                exact R_nil ⟨rfl, h2, trivial⟩
              · intro T H ⟨t4, h2, _⟩
                refine W_seq_ret ?_
                refine Ret_1 t4 (fz_int ?_)
                · rw [stE, if_neg (by omega), if_pos (by omega)]
            ·
              refine W_seq_skip ?_
              refine W_seq_regc (fun T H => T 4 = (iV (0)) ∧ H 2 = (⟨1, true, false, 24, 4, [[(iV (m.i)), (iV (m.s)), (V.sl (List.map cL (m.nx))), (V.sl (List.map cL (m.ot)))]]⟩ : Blk) ∧ True) ?_ ?_
              · unfold r93_6
                refine R_mv (@rfl V (iV (0))) ?_
                exact R_nil ⟨rfl, h2, trivial⟩
              · intro T H ⟨t4, h2, _⟩
                refine W_ret ?_
                refine Ret_1 t4 (fz_int ?_)
                · rw [stE, if_neg (by omega), if_neg (by omega)]

end Go.Proofs.Ytngkckefanbhgaa

namespace Go.Proofs.Ytngkckefanbhgaa
open Go Go.Proofs

theorem permitted_pure (n : Int) : PureC Try.prog 104 [(iV (n))] (V.bool (decide (1 ≤ n ∧ n ≤ 1024))) := by
  refine pure_of_Wz true 6 Try.func104 s104_ok (by kernel_rfl) (by simp [s104]) (by simp) (by simp) ?_
  unfold s104
  dsimp only
  refine W_seq_regc (fun T H => T 0 = (iV (n)) ∧ True) ?_ ?_
  · unfold r104_0
    refine R_mv (@rfl V (V.bool false)) ?_
    exact R_nil ⟨rfl, trivial⟩
  · intro T H ⟨t0, _⟩
    refine W_seq_regc (fun T H => T 2 = (V.bool (decide (((1) ≤ (n)) ∧ ((n) ≤ (1024))))) ∧ True) ?_ ?_
    · unfold r104_1
      refine R_mv t0 ?_
      refine R_geq (x := (n)) (y := (1)) (@rfl V (iV (n))) (@rfl V (iV (1))) ?_
      refine R_mv (@rfl V (V.bool (decide ((1) ≤ (n))))) ?_
      refine Ops_seg 3 (fun T H => T 8 = (V.bool (decide (((1) ≤ (n)) ∧ ((n) ≤ (1024))))) ∧ True) ?_ ?_
      · by_cases g1 : (1) ≤ (n)
        ·
          refine G_yes (Eq.trans (@rfl V (V.bool (decide ((1) ≤ (n))))) (congrArg V.bool (decide_eq_true g1))) ?_
          refine R_mv t0 ?_
          refine G_yes (Eq.trans (@rfl V (V.bool (decide ((1) ≤ (n))))) (congrArg V.bool (decide_eq_true g1))) ?_
          refine R_leq (x := (n)) (y := (1024)) (@rfl V (iV (n))) (@rfl V (iV (1024))) ?_
          refine R_pickT (Eq.trans (@rfl V (V.bool (decide ((1) ≤ (n))))) (congrArg V.bool (decide_eq_true g1))) (@rfl V (V.bool (decide ((n) ≤ (1024))))) ?_
          exact ⟨(Eq.trans (@rfl V (V.bool (decide ((n) ≤ (1024))))) (dec_andT g1)), trivial⟩
        ·
          refine G_no (Eq.trans (@rfl V (V.bool (decide ((1) ≤ (n))))) (congrArg V.bool (decide_eq_false g1))) (by decide) ?_
          refine G_no (Eq.trans (@rfl V (V.bool (decide ((1) ≤ (n))))) (congrArg V.bool (decide_eq_false g1))) (by decide) ?_
          refine R_pickF (Eq.trans (@rfl V (V.bool (decide ((1) ≤ (n))))) (congrArg V.bool (decide_eq_false g1))) (@rfl V (V.bool false)) ?_
          exact ⟨(Eq.trans (@rfl V (V.bool false)) (dec_andF g1)), trivial⟩
      · intro T H ⟨t8, _⟩
        refine R_mv t8 ?_
        exact R_nil ⟨rfl, trivial⟩
    · intro T H ⟨t2, _⟩
      refine W_ret ?_
      refine Ret_1 t2 (fz_bool ?_)
      · first | rfl | omega | simp_all

end Go.Proofs.Ytngkckefanbhgaa

namespace Go.Proofs.Ytngkckefanbhgaa
open Go Go.Proofs

theorem check1_pure (a n : Int) : PureC Try.prog 106 [(iV (a)), (V.pp [(iV (n))])] (V.bool (decide (a < 0 ∨ n ≤ a))) := by
  refine pure_of_Wz true 6 Try.func106 s106_ok (by kernel_rfl) (by simp [s106]) (by simp) (by simp) ?_
  unfold s106
  dsimp only
  refine W_seq_regc (fun T H => T 0 = (iV (a)) ∧ T 1 = (V.pp [(iV (n))]) ∧ True) ?_ ?_
  · unfold r106_0
    refine R_mv (@rfl V (V.bool false)) ?_
    exact R_nil ⟨rfl, rfl, trivial⟩
  · intro T H ⟨t0, t1, _⟩
    refine W_seq_regc (fun T H => T 3 = (V.bool (decide (((a) < (0)) ∨ ((n) ≤ (a))))) ∧ True) ?_ ?_
    · unfold r106_1
      refine R_mv t0 ?_
      refine R_lss (x := (a)) (y := (0)) (@rfl V (iV (a))) (@rfl V (iV (0))) ?_
      refine R_mv (@rfl V (V.bool (decide ((a) < (0))))) ?_
      refine Ops_seg 4 (fun T H => T 10 = (V.bool (decide (((a) < (0)) ∨ ((n) ≤ (a))))) ∧ True) ?_ ?_
      · by_cases g1 : (a) < (0)
        ·
          refine G_no (Eq.trans (@rfl V (V.bool (decide ((a) < (0))))) (congrArg V.bool (decide_eq_true g1))) (by decide) ?_
          refine G_no (Eq.trans (@rfl V (V.bool (decide ((a) < (0))))) (congrArg V.bool (decide_eq_true g1))) (by decide) ?_
          refine G_no (Eq.trans (@rfl V (V.bool (decide ((a) < (0))))) (congrArg V.bool (decide_eq_true g1))) (by decide) ?_
          refine R_pickT (Eq.trans (@rfl V (V.bool (decide ((a) < (0))))) (congrArg V.bool (decide_eq_true g1))) (@rfl V (V.bool true)) ?_
          exact ⟨(Eq.trans (@rfl V (V.bool true)) (dec_orT g1)), trivial⟩
        ·
          refine G_yes (Eq.trans (@rfl V (V.bool (decide ((a) < (0))))) (congrArg V.bool (decide_eq_false g1))) ?_
          refine R_mv t0 ?_
          refine G_yes (Eq.trans (@rfl V (V.bool (decide ((a) < (0))))) (congrArg V.bool (decide_eq_false g1))) ?_
          refine R_load_pp (v := (iV (n))) t1 (by first | rfl | simp [ldV]) ?_
          refine G_yes (Eq.trans (@rfl V (V.bool (decide ((a) < (0))))) (congrArg V.bool (decide_eq_false g1))) ?_
          refine R_geq (x := (a)) (y := (n)) (@rfl V (iV (a))) (@rfl V (iV (n))) ?_
          refine R_pickF (Eq.trans (@rfl V (V.bool (decide ((a) < (0))))) (congrArg V.bool (decide_eq_false g1))) (@rfl V (V.bool (decide ((n) ≤ (a))))) ?_
          exact ⟨(Eq.trans (@rfl V (V.bool (decide ((n) ≤ (a))))) (dec_orF g1)), trivial⟩
      · intro T H ⟨t10, _⟩
        refine R_mv t10 ?_
        exact R_nil ⟨rfl, trivial⟩
    · intro T H ⟨t3, _⟩
      refine W_ret ?_
      refine Ret_1 t3 (fz_bool ?_)
      · first | rfl | omega | simp_all

end Go.Proofs.Ytngkckefanbhgaa

namespace Go.Proofs.Ytngkckefanbhgaa
open Go Go.Proofs

theorem index_pure (w : List Int) (n : Int) (hw : w.length ≤ 1024) : PureC Try.prog 120 [(V.sl (List.map cI (w))), (V.fn 106 [] [(V.pp [(iV (n))])])] (iV (fi (inE w n) 0 w.length)) := by
  refine pure_of_Wz true 6 Try.func120 s120_ok (by kernel_rfl) (by simp [s120]) (by simp) (by simp) ?_
  unfold s120
  dsimp only
  refine W_seq_regc (fun T H => T 0 = (V.sl (List.map cI (w))) ∧ T 1 = (V.fn 106 [] [(V.pp [(iV (n))])]) ∧ True) ?_ ?_
  · unfold r120_0
    refine R_mv (@rfl V (iV (0))) ?_
    exact R_nil ⟨rfl, rfl, trivial⟩
  · intro T H ⟨t0, t1, _⟩
    refine W_seq_seq ?_
    refine W_seq_regc (fun T H => T 0 = (V.sl (List.map cI (w))) ∧ T 1 = (V.fn 106 [] [(V.pp [(iV (n))])]) ∧ T 7 = (iV ((w.length : Nat) : Int)) ∧ T 8 = (iV (0)) ∧ True) ?_ ?_
    · unfold r120_1
      refine R_mv t0 ?_
      refine R_len (@rfl V (V.sl (List.map cI (w)))) ?_
      refine R_mv (@rfl V (iV (0))) ?_
      exact R_nil ⟨t0, t1, rfl, rfl, trivial⟩
    · intro T H ⟨t0, t1, t7, t8, _⟩
      refine W_seq_block fun Q1 n1 x1 y1 z1 => ?_
      refine W_loop (fun mm T H => ∃ (k : Nat), mm = w.length - k ∧ T 0 = (V.sl (List.map cI (w))) ∧ T 1 = (V.fn 106 [] [(V.pp [(iV (n))])]) ∧ T 7 = (iV ((w.length : Nat) : Int)) ∧ T 8 = (iV ((k : Nat) : Int)) ∧ (k ≤ w.length) ∧ (fi (inE w n) 0 w.length = fi (inE w n) k (w.length - k))) ?_ ?_
      · refine ⟨_, 0, rfl, t0, t1, t7, (Eq.trans t8 (by first | rfl | simp)), ?_, ?_⟩
        · omega
        · rfl
      · intro mm T H ⟨k, hmm, t0, t1, t7, t8, hk, hc⟩ Q2 p12 p22 p32
        unfold b120_0
        refine W_seq_regc (fun T H => T 0 = (V.sl (List.map cI (w))) ∧ T 1 = (V.fn 106 [] [(V.pp [(iV (n))])]) ∧ T 7 = (iV ((w.length : Nat) : Int)) ∧ T 8 = (iV ((k : Nat) : Int)) ∧ T 9 = (V.bool (decide (((k : Nat) : Int) < ((w.length : Nat) : Int)))) ∧ True) ?_ ?_
        · unfold r120_2
          refine R_lss (x := ((k : Nat) : Int)) (y := ((w.length : Nat) : Int)) t8 t7 ?_
          exact R_nil ⟨t0, t1, t7, t8, rfl, trivial⟩
        · intro T H ⟨t0, t1, t7, t8, t9, _⟩
          refine W_seq_if (p := ((k : Nat) : Int) < ((w.length : Nat) : Int)) t9 (fun c3 => ?_) (fun c3 => ?_)
          ·
            refine W_seq_skip ?_
            refine W_seq_block fun Q4 n4 x4 y4 z4 => ?_
            refine W_seq_regc (fun T H => T 0 = (V.sl (List.map cI (w))) ∧ T 1 = (V.fn 106 [] [(V.pp [(iV (n))])]) ∧ T 5 = (iV ((k : Nat) : Int)) ∧ T 7 = (iV ((w.length : Nat) : Int)) ∧ T 8 = (iV ((k : Nat) : Int)) ∧ True) ?_ ?_
            · unfold r120_3
              refine R_mv t8 ?_
              refine R_mv (@rfl V (iV ((k : Nat) : Int))) ?_
              exact R_nil ⟨t0, t1, rfl, t7, t8, trivial⟩
            · intro T H ⟨t0, t1, t5, t7, t8, _⟩
              refine W_seq_regc (fun T H => T 0 = (V.sl (List.map cI (w))) ∧ T 1 = (V.fn 106 [] [(V.pp [(iV (n))])]) ∧ T 5 = (iV ((k : Nat) : Int)) ∧ T 7 = (iV ((w.length : Nat) : Int)) ∧ T 8 = (iV ((k : Nat) : Int)) ∧ T 16 = (V.bool (decide (((nth (w) (k))) < 0 ∨ n ≤ ((nth (w) (k)))))) ∧ True) ?_ ?_
              · unfold r120_4
                refine R_mv t1 ?_
                refine R_mv t0 ?_
                refine R_mv t5 ?_
                refine R_idx (i := k) (@rfl V (V.sl (List.map cI (w)))) (@rfl V (iV ((k : Nat) : Int))) (by omega) rfl ?_
                refine R_load_pp (v := (iV ((nth (w) (k))))) (@rfl V (V.pp [(iV ((nth (w) (k))))])) (by first | rfl | simp [ldV]) ?_
                refine R_callv (@rfl V (V.fn 106 [] [(V.pp [(iV (n))])])) (evcons (@rfl V (iV ((nth (w) (k))))) evnil) (check1_pure ((nth (w) (k))) n) (fzv_mapcanon _ _ (by simp)) (by simp) (Or.inl (by simp)) ?_
                exact R_nil ⟨t0, t1, t5, t7, t8, rfl, trivial⟩
              · intro T H ⟨t0, t1, t5, t7, t8, t16, _⟩
                refine W_if (p := ((nth (w) (k))) < 0 ∨ n ≤ ((nth (w) (k)))) t16 (fun c5 => ?_) (fun c5 => ?_)
                ·
                  refine W_seq_regc (fun T H => T 4 = (iV ((k : Nat) : Int)) ∧ True) ?_ ?_
                  · unfold r120_5
                    refine R_mv t5 ?_
                    refine R_mv (@rfl V (iV ((k : Nat) : Int))) ?_
                    exact R_nil ⟨rfl, trivial⟩
                  · intro T H ⟨t4, _⟩
                    refine W_ret ?_
                    refine y4 _ _ ?_
                    refine p22 _ _ ?_
                    refine y1 _ _ ?_
                    refine Ret_1 t4 (fz_int ?_)
                    · rw [hc, fi_hit (by simp only [inE, decide_eq_true_eq]; omega) (by omega)]
                ·
                  refine W_skip ?_
                  refine n4 _ _ ?_
                  refine W_regc (fun T H => T 0 = (V.sl (List.map cI (w))) ∧ T 1 = (V.fn 106 [] [(V.pp [(iV (n))])]) ∧ T 7 = (iV ((w.length : Nat) : Int)) ∧ T 8 = (iV ((k + 1 : Nat) : Int)) ∧ True) ?_ ?_
                  · unfold r120_6
                    refine R_addN (m := k) (n := 1) t8 (@rfl V (iV ((1 : Nat) : Int))) (by omega) ?_
                    refine R_mv (@rfl V (iV ((k + 1 : Nat) : Int))) ?_
                    exact R_nil ⟨t0, t1, t7, rfl, trivial⟩
                  · intro T H ⟨t0, t1, t7, t8, _⟩
                    refine p12 _ _ _ ?_ ⟨k+1, rfl, t0, t1, t7, (Eq.trans t8 (by first | rfl | simp)), ?_, ?_⟩
                    · omega
                    · omega
                    · rw [hc, fi_skip (by simp only [inE, decide_eq_false_iff_not]; omega) (by omega)]
          ·
            refine W_seq_exit ?_
            refine p32 _ _ _ ?_
            refine x1 _ _ ?_
            refine W_seq_regc (fun T H => T 4 = (iV (-1)) ∧ True) ?_ ?_
            · unfold r120_7
              refine R_mv (@rfl V (iV (-1))) ?_
              exact R_nil ⟨rfl, trivial⟩
            · intro T H ⟨t4, _⟩
              refine W_ret ?_
              refine Ret_1 t4 (fz_int ?_)
              · rw [hc, fi_end (by omega)]

end Go.Proofs.Ytngkckefanbhgaa

namespace Go.Proofs.Ytngkckefanbhgaa
open Go Go.Proofs

theorem contains_pure (w : List Int) (n : Int) (hw : w.length ≤ 1024) : PureC Try.prog 105 [(V.sl (List.map cI (w))), (V.fn 106 [] [(V.pp [(iV (n))])])] (V.bool (decide (0 ≤ fi (inE w n) 0 w.length))) := by
  refine pure_of_Wz true 6 Try.func105 s105_ok (by kernel_rfl) (by simp [s105]) (by simp) (by simp) ?_
  unfold s105
  dsimp only
  refine W_seq_regc (fun T H => T 0 = (V.sl (List.map cI (w))) ∧ T 1 = (V.fn 106 [] [(V.pp [(iV (n))])]) ∧ True) ?_ ?_
  · unfold r105_0
    refine R_mv (@rfl V (V.bool false)) ?_
    exact R_nil ⟨rfl, rfl, trivial⟩
  · intro T H ⟨t0, t1, _⟩
    refine W_seq_regc (fun T H => T 4 = (V.bool (decide ((0) ≤ (fi (inE w n) 0 (w).length)))) ∧ True) ?_ ?_
    · unfold r105_1
      refine R_mv t0 ?_
      refine R_mv t1 ?_
      refine R_call (evcons (@rfl V (V.sl (List.map cI (w)))) (evcons (@rfl V (V.fn 106 [] [(V.pp [(iV (n))])])) evnil)) (index_pure w n (by omega)) (fzv_mapcanon _ _ (by simp)) (by simp) (Or.inl (by simp)) ?_
      refine R_geq (x := (fi (inE w n) 0 (w).length)) (y := (0)) (@rfl V (iV (fi (inE w n) 0 (w).length))) (@rfl V (iV (0))) ?_
      refine R_mv (@rfl V (V.bool (decide ((0) ≤ (fi (inE w n) 0 (w).length))))) ?_
      exact R_nil ⟨rfl, trivial⟩
    · intro T H ⟨t4, _⟩
      refine W_ret ?_
      refine Ret_1 t4 (fz_bool ?_)
      · first | rfl | omega | simp_all

end Go.Proofs.Ytngkckefanbhgaa

namespace Go.Proofs.Ytngkckefanbhgaa
open Go Go.Proofs

theorem check_pure (w : List Int) (n : Int) : PureC Try.prog 77 [(V.sl (List.map cI (w))), (iV (n))] (iV (wchk w n)) := by
  refine pure_of_Wz true 6 Try.func77 s77_ok (by kernel_rfl) (by simp [s77]) (by simp) (by simp) ?_
  unfold s77
  dsimp only
  refine W_seq_regc (fun T H => T 0 = (V.sl (List.map cI (w))) ∧ T 3 = (V.mp 3 1 0 0) ∧ H 3 = (⟨1, true, false, 3, 1, [[(iV (n))]]⟩ : Blk) ∧ True) ?_ ?_
  · unfold r77_0
    refine R_box (i := 3) (n := 0) (m := 1) (cs := [(iV (n))]) rfl (congrArg Blk.ver rfl) (@rfl V (iV (n))) rfl rfl ?_
    refine R_mv (@rfl V (iV (0))) ?_
    exact R_nil ⟨rfl, rfl, rfl, trivial⟩
  · intro T H ⟨t0, t3, h3, _⟩
    refine W_seq_block fun Q1 n1 x1 y1 z1 => ?_
    refine W_seq_regc (fun T H => T 0 = (V.sl (List.map cI (w))) ∧ T 3 = (V.mp 3 1 0 0) ∧ T 5 = (V.bool (decide (¬(1 ≤ (n) ∧ (n) ≤ 1024)))) ∧ H 3 = (⟨1, true, false, 3, 1, [[(iV (n))]]⟩ : Blk) ∧ True) ?_ ?_
    · unfold r77_1
      refine R_load_mp (v := (iV (n))) t3 h3 (by first | rfl | simp [ldB, ldV, Blk.own, V.one]) ?_
      refine R_call (evcons (@rfl V (iV (n))) evnil) (permitted_pure (n)) (fzv_mapcanon _ _ (by simp)) (by simp) (Or.inl (by simp)) ?_
      refine R_not (p := 1 ≤ (n) ∧ (n) ≤ 1024) (@rfl V (V.bool (decide (1 ≤ (n) ∧ (n) ≤ 1024)))) ?_
      refine R_mv (@rfl V (V.bool (decide (¬(1 ≤ (n) ∧ (n) ≤ 1024))))) ?_
      exact R_nil ⟨t0, t3, rfl, h3, trivial⟩
    · intro T H ⟨t0, t3, t5, h3, _⟩
      refine W_if (p := ¬(1 ≤ (n) ∧ (n) ≤ 1024)) t5 (fun c2 => ?_) (fun c2 => ?_)
      ·
        refine W_seq_regc (fun T H => T 4 = (iV (2)) ∧ H 3 = (⟨1, true, false, 3, 1, [[(iV (n))]]⟩ : Blk) ∧ True) ?_ ?_
        · unfold r77_2
          refine R_mv (@rfl V (iV (2))) ?_
          exact R_nil ⟨rfl, h3, trivial⟩
        · intro T H ⟨t4, h3, _⟩
          refine W_ret ?_
          refine y1 _ _ ?_
          refine Ret_1 t4 (fz_int ?_)
          · rw [wchk, if_pos (by omega)]
      ·
        refine W_seq_regc (fun T H => T 0 = (V.sl (List.map cI (w))) ∧ T 3 = (V.mp 3 1 0 0) ∧ T 9 = (V.bool (decide ((1024) < ((w.length : Nat) : Int)))) ∧ H 3 = (⟨1, true, false, 3, 1, [[(iV (n))]]⟩ : Blk) ∧ True) ?_ ?_
        · unfold r77_3
          refine R_mv t0 ?_
          refine R_len (@rfl V (V.sl (List.map cI (w)))) ?_
          refine R_gtr (x := ((w.length : Nat) : Int)) (y := (1024)) (@rfl V (iV ((w.length : Nat) : Int))) (@rfl V (iV (1024))) ?_
          refine R_mv (@rfl V (V.bool (decide ((1024) < ((w.length : Nat) : Int))))) ?_
          exact R_nil ⟨t0, t3, rfl, h3, trivial⟩
        · intro T H ⟨t0, t3, t9, h3, _⟩
          refine W_if (p := (1024) < ((w.length : Nat) : Int)) t9 (fun c3 => ?_) (fun c3 => ?_)
          ·
            refine W_seq_regc (fun T H => T 4 = (iV (3)) ∧ H 3 = (⟨1, true, false, 3, 1, [[(iV (n))]]⟩ : Blk) ∧ True) ?_ ?_
            · unfold r77_4
              refine R_mv (@rfl V (iV (3))) ?_
              exact R_nil ⟨rfl, h3, trivial⟩
            · intro T H ⟨t4, h3, _⟩
              refine W_ret ?_
              refine y1 _ _ ?_
              refine Ret_1 t4 (fz_int ?_)
              · rw [wchk, if_neg (by omega), if_pos (by omega)]
          ·
            refine W_seq_regc (fun T H => T 13 = (V.bool (decide (0 ≤ fi (inE w n) 0 (w).length))) ∧ H 3 = (⟨1, true, false, 3, 1, [[(iV (n))]]⟩ : Blk) ∧ True) ?_ ?_
            · unfold r77_5
              refine R_mv t0 ?_
              refine R_mkf (evcons t3 evnil) ?_
              refine R_call (evcons (@rfl V (V.sl (List.map cI (w)))) (evcons (@rfl V (V.fn 106 [] [(V.mp 3 1 0 0)])) evnil)) (contains_pure w n (by omega)) (by simp [fzv, Blk.own, h3]) (by simp) (Or.inr rfl) ?_
              refine R_mv (@rfl V (V.bool (decide (0 ≤ fi (inE w n) 0 (w).length)))) ?_
              exact R_nil ⟨rfl, h3, trivial⟩
            · intro T H ⟨t13, h3, _⟩
              refine W_if (p := 0 ≤ fi (inE w n) 0 (w).length) t13 (fun c4 => ?_) (fun c4 => ?_)
              ·
                refine W_seq_regc (fun T H => T 4 = (iV (1)) ∧ H 3 = (⟨1, true, false, 3, 1, [[(iV (n))]]⟩ : Blk) ∧ True) ?_ ?_
                · unfold r77_6
                  refine R_mv (@rfl V (iV (1))) ?_
                  exact R_nil ⟨rfl, h3, trivial⟩
                · intro T H ⟨t4, h3, _⟩
                  refine W_ret ?_
                  refine y1 _ _ ?_
                  refine Ret_1 t4 (fz_int ?_)
                  · have e := in_fe w n w.length 0
                    rw [wchk, if_neg (by omega), if_neg (by omega)]; omega
              ·
                refine W_skip ?_
                refine n1 _ _ ?_
                refine W_seq_regc (fun T H => T 4 = (iV (0)) ∧ H 3 = (⟨1, true, false, 3, 1, [[(iV (n))]]⟩ : Blk) ∧ True) ?_ ?_
                · unfold r77_7
                  refine R_mv (@rfl V (iV (0))) ?_
                  exact R_nil ⟨rfl, h3, trivial⟩
                · intro T H ⟨t4, h3, _⟩
                  refine W_ret ?_
                  refine Ret_1 t4 (fz_int ?_)
                  · have e := in_fe w n w.length 0
                    rw [wchk, if_neg (by omega), if_neg (by omega)]; omega

end Go.Proofs.Ytngkckefanbhgaa

namespace Go.Proofs.Ytngkckefanbhgaa
open Go Go.Proofs

theorem move_pure (m : M) (s a : Int) (hs : 0 ≤ s ∧ s < m.nx.length ∧ m.ot.length = m.nx.length) (ha : 0 ≤ a ∧ a < (nth m.nx s.toNat).length ∧ a < (nth m.ot s.toNat).length) : PureC Try.prog 113 [(V.agg [(iV (m.i)), (iV (m.s)), (V.sl (List.map cL (m.nx))), (V.sl (List.map cL (m.ot)))]), (iV (s)), (iV (a))] (V.tup [(iV (cell m.nx s a)), (iV (cell m.ot s a))]) := by
  refine pure_of_Wz true 6 Try.func113 s113_ok (by kernel_rfl) (by simp [s113]) (by simp) (by simp) ?_
  unfold s113
  dsimp only
  refine W_seq_regc (fun T H => T 1 = (iV (s)) ∧ T 2 = (iV (a)) ∧ T 3 = (V.mp 3 1 0 0) ∧ H 3 = (⟨1, true, false, 120, 4, [[(iV (m.i)), (iV (m.s)), (V.sl (List.map cL (m.nx))), (V.sl (List.map cL (m.ot)))]]⟩ : Blk) ∧ True) ?_ ?_
  · unfold r113_0
    refine R_box (i := 3) (n := 0) (m := 4) (cs := [(iV (m.i)), (iV (m.s)), (V.sl (List.map cL (m.nx))), (V.sl (List.map cL (m.ot)))]) rfl (congrArg Blk.ver rfl) (@rfl V (V.agg [(iV (m.i)), (iV (m.s)), (V.sl (List.map cL (m.nx))), (V.sl (List.map cL (m.ot)))])) rfl rfl ?_
    refine R_mv (@rfl V (iV (0))) ?_
    refine R_mv (@rfl V (iV (0))) ?_
    exact R_nil ⟨rfl, rfl, rfl, rfl, trivial⟩
  · intro T H ⟨t1, t2, t3, h3, _⟩
    refine W_seq_regc (fun T H => T 6 = (iV ((nth ((nth (m.nx) (s).toNat)) (a).toNat))) ∧ T 7 = (iV ((nth ((nth (m.ot) (s).toNat)) (a).toNat))) ∧ H 3 = (⟨1, true, false, 120, 4, [[(iV (m.i)), (iV (m.s)), (V.sl (List.map cL (m.nx))), (V.sl (List.map cL (m.ot)))]]⟩ : Blk) ∧ True) ?_ ?_
    · unfold r113_1
      refine R_fld_mp (o' := 0) t3 h3 (by first | rfl | simp [okB, Blk.own]) rfl ?_
      refine R_fld_mp (o' := 2) (@rfl V (V.mp 3 1 0 0)) h3 (by first | rfl | simp [okB, Blk.own]) rfl ?_
      refine R_load_mp (v := (V.sl (List.map cL (m.nx)))) (@rfl V (V.mp 3 1 0 2)) h3 (by first | rfl | simp [ldB, ldV, Blk.own, V.one]) ?_
      refine R_mv t1 ?_
      refine R_idxI (i := (s)) (@rfl V (V.sl (List.map cL (m.nx)))) (@rfl V (iV (s))) (by omega) (by omega) rfl ?_
      refine R_load_pp (v := (V.sl (List.map cI ((nth (m.nx) (s).toNat))))) (@rfl V (V.pp [(V.sl (List.map cI ((nth (m.nx) (s).toNat))))])) (by first | rfl | simp [ldV]) ?_
      refine R_mv t2 ?_
      refine R_idxI (i := (a)) (@rfl V (V.sl (List.map cI ((nth (m.nx) (s).toNat))))) (@rfl V (iV (a))) (by omega) (by omega) rfl ?_
      refine R_load_pp (v := (iV ((nth ((nth (m.nx) (s).toNat)) (a).toNat)))) (@rfl V (V.pp [(iV ((nth ((nth (m.nx) (s).toNat)) (a).toNat)))])) (by first | rfl | simp [ldV]) ?_
      refine R_fld_mp (o' := 0) t3 h3 (by first | rfl | simp [okB, Blk.own]) rfl ?_
      refine R_fld_mp (o' := 3) (@rfl V (V.mp 3 1 0 0)) h3 (by first | rfl | simp [okB, Blk.own]) rfl ?_
      refine R_load_mp (v := (V.sl (List.map cL (m.ot)))) (@rfl V (V.mp 3 1 0 3)) h3 (by first | rfl | simp [ldB, ldV, Blk.own, V.one]) ?_
      refine R_mv t1 ?_
      refine R_idxI (i := (s)) (@rfl V (V.sl (List.map cL (m.ot)))) (@rfl V (iV (s))) (by omega) (by omega) rfl ?_
      refine R_load_pp (v := (V.sl (List.map cI ((nth (m.ot) (s).toNat))))) (@rfl V (V.pp [(V.sl (List.map cI ((nth (m.ot) (s).toNat))))])) (by first | rfl | simp [ldV]) ?_
      refine R_mv t2 ?_
      refine R_idxI (i := (a)) (@rfl V (V.sl (List.map cI ((nth (m.ot) (s).toNat))))) (@rfl V (iV (a))) (by omega) (by omega) rfl ?_
      refine R_load_pp (v := (iV ((nth ((nth (m.ot) (s).toNat)) (a).toNat)))) (@rfl V (V.pp [(iV ((nth ((nth (m.ot) (s).toNat)) (a).toNat)))])) (by first | rfl | simp [ldV]) ?_
      refine R_mv (@rfl V (iV ((nth ((nth (m.nx) (s).toNat)) (a).toNat)))) ?_
      refine R_mv (@rfl V (iV ((nth ((nth (m.ot) (s).toNat)) (a).toNat)))) ?_
      exact R_nil ⟨rfl, rfl, h3, trivial⟩
    · intro T H ⟨t6, t7, h3, _⟩
      refine W_ret ?_
      refine Ret_2 t6 t7 (fz_int ?_) (fz_int ?_)
      · rfl
      · rfl

end Go.Proofs.Ytngkckefanbhgaa

namespace Go.Proofs.Ytngkckefanbhgaa
open Go Go.Proofs

theorem run_E (m : M) (s : Int) (w : List Int) (v5 : Nat) (Hi : Heap) (h30 : Hi 30 = (⟨1, true, false, 122, 5, [[(iV (m.i)), (iV (m.s)), (V.sl (List.map cL (m.nx))), (V.sl (List.map cL (m.ot))), (iV (s))]]⟩ : Blk)) (h105 : (Hi 105).ver = v5) (hm : mval m = 0) (hs : 0 ≤ s ∧ s < m.nx.length) (hl : w.length ≤ 1024) (hw : ∀ k, k < w.length → 0 ≤ nth w k ∧ nth w k < m.i) : CallOK Try.prog 94 [(V.mp 30 1 0 0), (V.sl (List.map cI (w)))] Hi (V.ms 105 (v5 + 1 + w.length) 0 (w.length)) (upd (upd Hi 105 (⟨v5 + 1 + w.length, true, true, 3, 1, (List.map cI (outs m s w))⟩ : Blk)) 30 (⟨1, true, false, 122, 5, [[(iV (m.i)), (iV (m.s)), (V.sl (List.map cL (m.nx))), (V.sl (List.map cL (m.ot))), (iV (goal m s w))]]⟩ : Blk)) := by
  refine CallOK_of_W (k0 := 100) Try.func94 s94_ok (by kernel_rfl) (by simp [s94]) ?_
  unfold s94
  dsimp only
  refine W_seq_regc (fun T H => T 0 = (V.mp 30 1 0 0) ∧ T 1 = (V.sl (List.map cI (w))) ∧ (∀ j, j ∉ [105, 30] → H j = Hi j) ∧ H 30 = (⟨1, true, false, 122, 5, [[(iV (m.i)), (iV (m.s)), (V.sl (List.map cL (m.nx))), (V.sl (List.map cL (m.ot))), (iV (s))]]⟩ : Blk) ∧ (H 105).ver = v5 ∧ True) ?_ ?_
  · unfold r94_0
    refine R_mv (@rfl V V.nilsl) ?_
    exact R_nil ⟨rfl, rfl, (fun _ _ => rfl), h30, h105, trivial⟩
  · intro T H ⟨t0, t1, hF, h30, h105, _⟩
    refine W_seq_regc (fun T H => T 0 = (V.mp 30 1 0 0) ∧ T 1 = (V.sl (List.map cI (w))) ∧ T 5 = (V.ms 105 (v5 + 1) 0 (0)) ∧ (∀ j, j ∉ [105, 30] → H j = Hi j) ∧ H 30 = (⟨1, true, false, 122, 5, [[(iV (m.i)), (iV (m.s)), (V.sl (List.map cL (m.nx))), (V.sl (List.map cL (m.ot))), (iV (s))]]⟩ : Blk) ∧ H 105 = (⟨v5 + 1, true, true, 3, 1, []⟩ : Blk) ∧ True) ?_ ?_
    · unfold r94_1
      refine R_lazy (i := 105) (n := v5) rfl h105 ?_
      exact R_nil ⟨t0, t1, rfl, (upd_out hF (by decide)), h30, rfl, trivial⟩
    · intro T H ⟨t0, t1, t5, hF, h30, h105, _⟩
      refine W_seq_seq ?_
      refine W_seq_regc (fun T H => T 0 = (V.mp 30 1 0 0) ∧ T 5 = (V.ms 105 (v5 + 1) 0 (0)) ∧ T 10 = (V.sl (List.map cI (w))) ∧ T 11 = (iV ((w.length : Nat) : Int)) ∧ T 12 = (iV (0)) ∧ (∀ j, j ∉ [105, 30] → H j = Hi j) ∧ H 30 = (⟨1, true, false, 122, 5, [[(iV (m.i)), (iV (m.s)), (V.sl (List.map cL (m.nx))), (V.sl (List.map cL (m.ot))), (iV (s))]]⟩ : Blk) ∧ H 105 = (⟨v5 + 1, true, true, 3, 1, []⟩ : Blk) ∧ True) ?_ ?_
      · unfold r94_2
        refine R_mv t1 ?_
        refine R_len (@rfl V (V.sl (List.map cI (w)))) ?_
        refine R_mv (@rfl V (iV (0))) ?_
        exact R_nil ⟨t0, t5, rfl, rfl, rfl, hF, h30, h105, trivial⟩
      · intro T H ⟨t0, t5, t10, t11, t12, hF, h30, h105, _⟩
        refine W_seq_block fun Q1 n1 x1 y1 z1 => ?_
        refine W_loop (fun mm T H => ∃ (k : Nat), mm = w.length - k ∧ T 0 = (V.mp 30 1 0 0) ∧ T 5 = (V.ms 105 (v5 + 1 + k) 0 (k)) ∧ T 10 = (V.sl (List.map cI (w))) ∧ T 11 = (iV ((w.length : Nat) : Int)) ∧ T 12 = (iV ((k : Nat) : Int)) ∧ (∀ j, j ∉ [105, 30] → H j = Hi j) ∧ H 30 = (⟨1, true, false, 122, 5, [[(iV (m.i)), (iV (m.s)), (V.sl (List.map cL (m.nx))), (V.sl (List.map cL (m.ot))), (iV (goal m s (w.take k)))]]⟩ : Blk) ∧ H 105 = (⟨v5 + 1 + k, true, true, 3, 1, (List.map cI (outs m s (w.take k)))⟩ : Blk) ∧ (k ≤ w.length)) ?_ ?_
        · refine ⟨_, 0, rfl, t0, (Eq.trans t5 (by first | rfl | (have e : k = w.length := (by omega); subst e; rfl))), t10, t11, (Eq.trans t12 (by first | rfl | (have e : k = w.length := (by omega); subst e; rfl))), hF, (Eq.trans h30 (by first | rfl | (rw [outs_step m s (by omega)]; rfl) | (rw [goal_step m s (by omega)]) | (have e : k = w.length := (by omega); subst e; rw [List.take_length]; done))), (Eq.trans h105 (by first | rfl | (rw [outs_step m s (by omega)]; rfl) | (rw [goal_step m s (by omega)]) | (have e : k = w.length := (by omega); subst e; rw [List.take_length]; done))), ?_⟩
          · omega
        · intro mm T H ⟨k, hmm, t0, t5, t10, t11, t12, hF, h30, h105, hk⟩ Q2 p12 p22 p32
          unfold b94_0
          refine W_seq_regc (fun T H => T 0 = (V.mp 30 1 0 0) ∧ T 5 = (V.ms 105 (v5 + 1 + k) 0 (k)) ∧ T 10 = (V.sl (List.map cI (w))) ∧ T 11 = (iV ((w.length : Nat) : Int)) ∧ T 12 = (iV ((k : Nat) : Int)) ∧ T 13 = (V.bool (decide (((k : Nat) : Int) < ((w.length : Nat) : Int)))) ∧ (∀ j, j ∉ [105, 30] → H j = Hi j) ∧ H 30 = (⟨1, true, false, 122, 5, [[(iV (m.i)), (iV (m.s)), (V.sl (List.map cL (m.nx))), (V.sl (List.map cL (m.ot))), (iV (goal m s (w.take k)))]]⟩ : Blk) ∧ H 105 = (⟨v5 + 1 + k, true, true, 3, 1, (List.map cI (outs m s (w.take k)))⟩ : Blk) ∧ True) ?_ ?_
          · unfold r94_3
            refine R_lss (x := ((k : Nat) : Int)) (y := ((w.length : Nat) : Int)) t12 t11 ?_
            exact R_nil ⟨t0, t5, t10, t11, t12, rfl, hF, h30, h105, trivial⟩
          · intro T H ⟨t0, t5, t10, t11, t12, t13, hF, h30, h105, _⟩
            refine W_seq_if (p := ((k : Nat) : Int) < ((w.length : Nat) : Int)) t13 (fun c3 => ?_) (fun c3 => ?_)
            ·
              have h1 := run_at hm hs hw (k := k) (by omega)
              refine W_seq_skip ?_
              refine W_seq_block fun Q4 n4 x4 y4 z4 => ?_
              refine W_seq_regc (fun T H => T 0 = (V.mp 30 1 0 0) ∧ T 5 = (V.ms 105 (v5 + 1 + k) 0 (k)) ∧ T 7 = (iV ((nth (w) (k)))) ∧ T 10 = (V.sl (List.map cI (w))) ∧ T 11 = (iV ((w.length : Nat) : Int)) ∧ T 12 = (iV ((k : Nat) : Int)) ∧ (∀ j, j ∉ [105, 30] → H j = Hi j) ∧ H 30 = (⟨1, true, false, 122, 5, [[(iV (m.i)), (iV (m.s)), (V.sl (List.map cL (m.nx))), (V.sl (List.map cL (m.ot))), (iV (goal m s (w.take k)))]]⟩ : Blk) ∧ H 105 = (⟨v5 + 1 + k, true, true, 3, 1, (List.map cI (outs m s (w.take k)))⟩ : Blk) ∧ True) ?_ ?_
              · unfold r94_4
                refine R_idx (i := k) t10 t12 (by omega) rfl ?_
                refine R_load_pp (v := (iV ((nth (w) (k))))) (@rfl V (V.pp [(iV ((nth (w) (k))))])) (by first | rfl | simp [ldV]) ?_
                refine R_mv (@rfl V (iV ((nth (w) (k))))) ?_
                exact R_nil ⟨t0, t5, rfl, t10, t11, t12, hF, h30, h105, trivial⟩
              · intro T H ⟨t0, t5, t7, t10, t11, t12, hF, h30, h105, _⟩
                refine W_seq_regc (fun T H => T 0 = (V.mp 30 1 0 0) ∧ T 5 = (V.ms 105 (v5 + 1 + k) 0 (k)) ∧ T 8 = (iV (cell m.nx (goal m s (w.take k)) ((nth (w) (k))))) ∧ T 9 = (iV (cell m.ot (goal m s (w.take k)) ((nth (w) (k))))) ∧ T 10 = (V.sl (List.map cI (w))) ∧ T 11 = (iV ((w.length : Nat) : Int)) ∧ T 12 = (iV ((k : Nat) : Int)) ∧ (∀ j, j ∉ [105, 30] → H j = Hi j) ∧ H 30 = (⟨1, true, false, 122, 5, [[(iV (m.i)), (iV (m.s)), (V.sl (List.map cL (m.nx))), (V.sl (List.map cL (m.ot))), (iV (goal m s (w.take k)))]]⟩ : Blk) ∧ H 105 = (⟨v5 + 1 + k, true, true, 3, 1, (List.map cI (outs m s (w.take k)))⟩ : Blk) ∧ True) ?_ ?_
                · unfold r94_5
                  refine R_mv t0 ?_
                  refine R_nilck_mp (@rfl V (V.mp 30 1 0 0)) h30 (by first | rfl | simp [okB, Blk.own]) ?_
                  refine R_fld_mp (o' := 0) (@rfl V (V.mp 30 1 0 0)) h30 (by first | rfl | simp [okB, Blk.own]) rfl ?_
                  refine R_load_mp (v := (V.agg [(iV (m.i)), (iV (m.s)), (V.sl (List.map cL (m.nx))), (V.sl (List.map cL (m.ot)))])) (@rfl V (V.mp 30 1 0 0)) h30 (by first | rfl | simp [ldB, ldV, Blk.own, V.one]) ?_
                  refine R_mv t0 ?_
                  refine R_nilck_mp (@rfl V (V.mp 30 1 0 0)) h30 (by first | rfl | simp [okB, Blk.own]) ?_
                  refine R_fld_mp (o' := 4) (@rfl V (V.mp 30 1 0 0)) h30 (by first | rfl | simp [okB, Blk.own]) rfl ?_
                  refine R_load_mp (v := (iV (goal m s (w.take k)))) (@rfl V (V.mp 30 1 0 4)) h30 (by first | rfl | simp [ldB, ldV, Blk.own, V.one]) ?_
                  refine R_mv t7 ?_
                  refine R_call (evcons (@rfl V (V.agg [(iV (m.i)), (iV (m.s)), (V.sl (List.map cL (m.nx))), (V.sl (List.map cL (m.ot)))])) (evcons (@rfl V (iV (goal m s (w.take k)))) (evcons (@rfl V (iV ((nth (w) (k))))) evnil))) (move_pure m (goal m s (w.take k)) ((nth (w) (k))) h1.1 h1.2) (fzv_mapcanon _ _ (by simp)) (by simp) (Or.inl (by simp)) ?_
                  refine R_mv (@rfl V (V.tup [(iV (cell m.nx (goal m s (w.take k)) ((nth (w) (k))))), (iV (cell m.ot (goal m s (w.take k)) ((nth (w) (k)))))])) ?_
                  refine R_ext (v := (iV (cell m.nx (goal m s (w.take k)) ((nth (w) (k)))))) (@rfl V (V.tup [(iV (cell m.nx (goal m s (w.take k)) ((nth (w) (k))))), (iV (cell m.ot (goal m s (w.take k)) ((nth (w) (k)))))])) rfl ?_
                  refine R_ext (v := (iV (cell m.ot (goal m s (w.take k)) ((nth (w) (k)))))) (@rfl V (V.tup [(iV (cell m.nx (goal m s (w.take k)) ((nth (w) (k))))), (iV (cell m.ot (goal m s (w.take k)) ((nth (w) (k)))))])) rfl ?_
                  refine R_mv (@rfl V (iV (cell m.nx (goal m s (w.take k)) ((nth (w) (k)))))) ?_
                  refine R_mv (@rfl V (iV (cell m.ot (goal m s (w.take k)) ((nth (w) (k)))))) ?_
                  exact R_nil ⟨t0, t5, rfl, rfl, t10, t11, t12, hF, h30, h105, trivial⟩
                · intro T H ⟨t0, t5, t8, t9, t10, t11, t12, hF, h30, h105, _⟩
                  refine W_seq_regc (fun T H => T 0 = (V.mp 30 1 0 0) ∧ T 5 = (V.ms 105 (v5 + 1 + k) 0 (k)) ∧ T 9 = (iV (cell m.ot (goal m s (w.take k)) ((nth (w) (k))))) ∧ T 10 = (V.sl (List.map cI (w))) ∧ T 11 = (iV ((w.length : Nat) : Int)) ∧ T 12 = (iV ((k : Nat) : Int)) ∧ (∀ j, j ∉ [105, 30] → H j = Hi j) ∧ H 30 = (⟨1, true, false, 122, 5, [[(iV (m.i)), (iV (m.s)), (V.sl (List.map cL (m.nx))), (V.sl (List.map cL (m.ot))), (iV (cell m.nx (goal m s (w.take k)) ((nth (w) (k)))))]]⟩ : Blk) ∧ H 105 = (⟨v5 + 1 + k, true, true, 3, 1, (List.map cI (outs m s (w.take k)))⟩ : Blk) ∧ True) ?_ ?_
                  · unfold r94_6
                    refine R_mv t0 ?_
                    refine R_mv t8 ?_
                    refine R_nilck_mp (@rfl V (V.mp 30 1 0 0)) h30 (by first | rfl | simp [okB, Blk.own]) ?_
                    refine R_fld_mp (o' := 4) (@rfl V (V.mp 30 1 0 0)) h30 (by first | rfl | simp [okB, Blk.own]) rfl ?_
                    refine R_store (vs := [(iV (cell m.nx (goal m s (w.take k)) ((nth (w) (k)))))]) (B' := (⟨1, true, false, 122, 5, [[(iV (m.i)), (iV (m.s)), (V.sl (List.map cL (m.nx))), (V.sl (List.map cL (m.ot))), (iV (cell m.nx (goal m s (w.take k)) ((nth (w) (k)))))]]⟩ : Blk)) (@rfl V (V.mp 30 1 0 4)) (@rfl V (iV (cell m.nx (goal m s (w.take k)) ((nth (w) (k)))))) rfl h30 (by first | rfl | simp [stB, okB, Blk.own, putAt, V.one]) ?_
                    exact R_nil ⟨t0, t5, t9, t10, t11, t12, (upd_out hF (by decide)), rfl, h105, trivial⟩
                  · intro T H ⟨t0, t5, t9, t10, t11, t12, hF, h30, h105, _⟩
                    refine W_regc (fun T H => T 0 = (V.mp 30 1 0 0) ∧ T 5 = (V.ms 105 (v5 + 1 + k + 1) 0 (k + 1)) ∧ T 10 = (V.sl (List.map cI (w))) ∧ T 11 = (iV ((w.length : Nat) : Int)) ∧ T 12 = (iV ((k : Nat) : Int)) ∧ (∀ j, j ∉ [105, 30] → H j = Hi j) ∧ H 30 = (⟨1, true, false, 122, 5, [[(iV (m.i)), (iV (m.s)), (V.sl (List.map cL (m.nx))), (V.sl (List.map cL (m.ot))), (iV (cell m.nx (goal m s (w.take k)) ((nth (w) (k)))))]]⟩ : Blk) ∧ H 105 = (⟨v5 + 1 + k + 1, true, true, 3, 1, (List.map cI (outs m s (w.take k) ++ [cell m.ot (goal m s (w.take k)) ((nth (w) (k)))]))⟩ : Blk) ∧ True) ?_ ?_
                    · unfold r94_7
                      refine R_mv t5 ?_
                      refine R_mv t9 ?_
                      refine R_bslice (qs := [(0, (iV (cell m.ot (goal m s (w.take k)) ((nth (w) (k))))))]) (rows := [[(iV (cell m.ot (goal m s (w.take k)) ((nth (w) (k)))))]]) (mcons (congrArg (fun v => (0, v)) (@rfl V (iV (cell m.ot (goal m s (w.take k)) ((nth (w) (k))))))) rfl) rfl ?_
                      refine R_append1 (l := (outs m s (w.take k))) (f := cI) (x := (cell m.ot (goal m s (w.take k)) ((nth (w) (k))))) (@rfl V (V.ms 105 (v5 + 1 + k) 0 (k))) h105 (by first | rfl | (simp only [outs_len, List.length_take]; omega)) (@rfl V (V.sl [[(iV (cell m.ot (goal m s (w.take k)) ((nth (w) (k)))))]])) rfl rfl (by omega) (by omega) ?_
                      refine R_mv (@rfl V (V.ms 105 (v5 + 1 + k + 1) 0 (k + 1))) ?_
                      exact R_nil ⟨t0, rfl, t10, t11, t12, (upd_out hF (by decide)), h30, rfl, trivial⟩
                    · intro T H ⟨t0, t5, t10, t11, t12, hF, h30, h105, _⟩
                      refine n4 _ _ ?_
                      refine W_regc (fun T H => T 0 = (V.mp 30 1 0 0) ∧ T 5 = (V.ms 105 (v5 + 1 + k + 1) 0 (k + 1)) ∧ T 10 = (V.sl (List.map cI (w))) ∧ T 11 = (iV ((w.length : Nat) : Int)) ∧ T 12 = (iV ((k + 1 : Nat) : Int)) ∧ (∀ j, j ∉ [105, 30] → H j = Hi j) ∧ H 30 = (⟨1, true, false, 122, 5, [[(iV (m.i)), (iV (m.s)), (V.sl (List.map cL (m.nx))), (V.sl (List.map cL (m.ot))), (iV (cell m.nx (goal m s (w.take k)) ((nth (w) (k)))))]]⟩ : Blk) ∧ H 105 = (⟨v5 + 1 + k + 1, true, true, 3, 1, (List.map cI (outs m s (w.take k) ++ [cell m.ot (goal m s (w.take k)) ((nth (w) (k)))]))⟩ : Blk) ∧ True) ?_ ?_
                      · unfold r94_8
                        refine R_addN (m := k) (n := 1) t12 (@rfl V (iV ((1 : Nat) : Int))) (by omega) ?_
                        refine R_mv (@rfl V (iV ((k + 1 : Nat) : Int))) ?_
                        exact R_nil ⟨t0, t5, t10, t11, rfl, hF, h30, h105, trivial⟩
                      · intro T H ⟨t0, t5, t10, t11, t12, hF, h30, h105, _⟩
                        refine p12 _ _ _ ?_ ⟨k+1, rfl, t0, (Eq.trans t5 (by first | rfl | (have e : k = w.length := (by omega); subst e; rfl))), t10, t11, (Eq.trans t12 (by first | rfl | (have e : k = w.length := (by omega); subst e; rfl))), hF, (Eq.trans h30 (by first | rfl | (rw [outs_step m s (by omega)]; rfl) | (rw [goal_step m s (by omega)]) | (have e : k = w.length := (by omega); subst e; rw [List.take_length]; done))), (Eq.trans h105 (by first | rfl | (rw [outs_step m s (by omega)]; rfl) | (rw [goal_step m s (by omega)]) | (have e : k = w.length := (by omega); subst e; rw [List.take_length]; done))), ?_⟩
                        · omega
                        · omega
            ·
              refine W_seq_exit ?_
              refine p32 _ _ _ ?_
              refine x1 _ _ ?_
              refine W_seq_regc (fun T H => T 4 = (V.ms 105 (v5 + 1 + k) 0 (k)) ∧ (∀ j, j ∉ [105, 30] → H j = Hi j) ∧ H 30 = (⟨1, true, false, 122, 5, [[(iV (m.i)), (iV (m.s)), (V.sl (List.map cL (m.nx))), (V.sl (List.map cL (m.ot))), (iV (goal m s (w.take k)))]]⟩ : Blk) ∧ H 105 = (⟨v5 + 1 + k, true, true, 3, 1, (List.map cI (outs m s (w.take k)))⟩ : Blk) ∧ True) ?_ ?_
              · unfold r94_9
                refine R_mv t5 ?_
                refine R_mv (@rfl V (V.ms 105 (v5 + 1 + k) 0 (k))) ?_
                exact R_nil ⟨rfl, hF, h30, h105, trivial⟩
              · intro T H ⟨t4, hF, h30, h105, _⟩
                refine W_ret ?_
                refine RetE_1 (Eq.trans t4 (by first | rfl | (have e : k = w.length := (by omega); subst e; rfl))) ?_
                refine heap2 hF (Eq.trans h105 (by first | rfl | (rw [outs_step m s (by omega)]; rfl) | (rw [goal_step m s (by omega)]) | (have e : k = w.length := (by omega); subst e; rw [List.take_length]; done))) (Eq.trans h30 (by first | rfl | (rw [outs_step m s (by omega)]; rfl) | (rw [goal_step m s (by omega)]) | (have e : k = w.length := (by omega); subst e; rw [List.take_length]; done))) (by decide)

end Go.Proofs.Ytngkckefanbhgaa

