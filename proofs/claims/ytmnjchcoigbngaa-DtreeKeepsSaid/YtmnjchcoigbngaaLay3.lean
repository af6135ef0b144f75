/- The layer: abstract values for memory and their soundness; no condition. -/
import Derived.ChangeArms
import Derived.DataElems
import Derived.DataReads
import Derived.OpenShut
import Derived.ProofKit
import Derived.WalkKit
import Derived.Carry
import Derived.Test.YtmnjchcoigbngaaLay2
set_option linter.unusedSimpArgs false
set_option linter.unusedVariables false
namespace Go.Proofs.Ytmnjchcoigbngaa
open Go
def ldB (agg : Bool) (n : Nat) (B : Blk) (ver row off : Nat) : Option V := if (B.own && decide (B.ver = ver)) = true then (B.rows[row]?).bind fun r => ldV agg n (r.drop off) else none
def okB (B : Blk) (ver : Nat) : Bool := B.own && decide (B.ver = ver)
def stB (B : Blk) (ver row off n : Nat) (vs : List V) : Option Blk := if okB B ver = true then if vs.length = n then if vs.all V.one = true then match B.rows[row]? with
    | some r => if off + n ≤ r.length then some { B with rows := B.rows.set row (putAt r off vs) } else none
    | none => none
  else none else none else none
section
variable {P : Program} {k0 : Nat} {K : (Nat → V) → Heap → Prop} {T : Nat → V} {H : Heap} {r : List SO} {d : Nat} {a b c : SX} {v u : V}
theorem R_nil (h : K T H) : Ops P k0 [] T H K := h
theorem R_mv (ha : ev T a = v) (h : Ops P k0 r (upd T d v) H K) : Ops P k0 (⟨none, some d, .mv a⟩ :: r) T H K := by subst ha; exact h
theorem R_lazy {i n ty sz : Nat} (hi : k0 + d = i) (hv : (H i).ver = n) (h : Ops P k0 r (upd T d (.ms i (n + 1) 0 0)) (upd H i ⟨n + 1, true, true, ty, sz, []⟩) K) : Ops P k0 (⟨none, some d, .lazy ty sz⟩ :: r) T H K := by
  subst hi; subst hv; exact h
theorem R_alloc {i n ty m : Nat} {z : List V} (hi : k0 + d = i) (hv : (H i).ver = n) (hm : z.length = m) (h : Ops P k0 r (upd T d (.mp i (n + 1) 0 0)) (upd H i ⟨n + 1, true, false, ty, m, [z]⟩) K) : Ops P k0 (⟨none, some d, .alloc ty z⟩ :: r) T H K := by
  subst hi; subst hv; subst hm; exact h
theorem R_box {i n ty q m : Nat} {cs : List V} (hi : k0 + d = i) (hv : (H i).ver = n) (ha : ev T a = v) (hc : v.cells = cs) (hm : cs.length = m) (h : Ops P k0 r (upd T d (.mp i (n + 1) 0 0)) (upd H i ⟨n + 1, true, false, ty, m, [cs]⟩) K) :
    Ops P k0 (⟨none, some d, .box ty q a⟩ :: r) T H K := by
  subst hi; subst hv; subst ha; subst hc; subst hm; exact h
theorem on_some {α : Type} {o : Option α} {x : α} {k : α → Prop} (ho : o = some x) (h : k x) : onS o k := by rw [ho]; exact h
theorem stp {q : X} {o : Option V} (hS : ∀ k : V → Heap → Prop, St P (k0 + d) q T H k = onS o fun v => k v H) (ho : o = some v) (h : Ops P k0 r (upd T d v) H K) : Ops P k0 (⟨none, some d, q⟩ :: r) T H K := by
  simp only [Ops, Option.getD_some, hS, ho, onS_some]; exact h
theorem R_load_pp {agg : Bool} {n : Nat} {cs : List V} (ha : ev T a = .pp cs) (hg : ldV agg n cs = some v) (h : Ops P k0 r (upd T d v) H K) : Ops P k0 (⟨none, some d, .load agg n a⟩ :: r) T H K := by
  refine stp (v := v) (fun _ => rfl) ?_ h
  rw [ha]; exact hg
theorem R_load_mp {agg : Bool} {n id ver row off : Nat} {B : Blk} (ha : ev T a = .mp id ver row off) (hH : H id = B) (hg : ldB agg n B ver row off = some v) (h : Ops P k0 r (upd T d v) H K) : Ops P k0 (⟨none, some d, .load agg n a⟩ :: r) T H K := by
  subst hH
  refine stp (v := v) (fun _ => rfl) ?_ h
  rw [ha]
  simp only [ptr]
  unfold ldB at hg
  split at hg
  · rename_i hc
    rw [if_pos (show ok H id ver = true from hc)]
    cases hr : (H id).rows[row]? with
    | none => rw [hr] at hg; cases hg
    | some w => rw [hr] at hg; exact hg
  · cases hg
theorem R_fld_pp {off : Nat} {cs cs' : List V} (ha : ev T a = .pp cs) (hd : cs.drop off = cs') (h : Ops P k0 r (upd T d (.pp cs')) H K) : Ops P k0 (⟨none, some d, .fld off a⟩ :: r) T H K := by
  subst hd
  refine stp (v := .pp (cs.drop off)) (fun _ => rfl) ?_ h
  rw [ha]; rfl
theorem R_fld_mp {off id ver row o o' : Nat} {B : Blk} (ha : ev T a = .mp id ver row o) (hH : H id = B) (hok : okB B ver = true) (ho : o + off = o') (h : Ops P k0 r (upd T d (.mp id ver row o')) H K) : Ops P k0 (⟨none, some d, .fld off a⟩ :: r) T H K := by
  subst ho; subst hH
  refine stp (v := .mp id ver row (o + off)) (fun _ => rfl) ?_ h
  rw [ha]; rfl
theorem R_store {n id ver row off : Nat} {B B' : Blk} {vs : List V} (ha : ev T a = .mp id ver row off) (hb : ev T b = v) (hc : v.cells = vs) (hH : H id = B) (hst : stB B ver row off n vs = some B') (h : Ops P k0 r T (upd H id B') K) :
    Ops P k0 (⟨none, none, .store n a b⟩ :: r) T H K := by
  subst hH; subst hc; subst hb
  simp only [Ops, St]
  refine on_some (x := upd H id B') ?_ h
  rw [ha]
  unfold stB at hst
  simp only [stP]
  by_cases h1 : ok H id ver = true
  · rw [if_pos (show okB (H id) ver = true from h1)] at hst
    rw [if_pos h1]
    by_cases h2 : (ev T b).cells.length = n
    · rw [if_pos h2] at hst ⊢
      by_cases h3 : (ev T b).cells.all V.one = true
      · rw [if_pos h3] at hst ⊢
        cases hw : (H id).rows[row]? with
        | none => rw [hw] at hst; cases hst
        | some w =>
          rw [hw] at hst
          simp only at hst ⊢
          by_cases h4 : off + n ≤ w.length
          · rw [if_pos h4] at hst ⊢; cases hst; rfl
          · rw [if_neg h4] at hst; cases hst
      · rw [if_neg h3] at hst; cases hst
    · rw [if_neg h2] at hst; cases hst
  · rw [if_neg (show ¬okB (H id) ver = true from h1)] at hst; cases hst
theorem R_nilck_mp {id ver row o : Nat} {B : Blk} (ha : ev T a = .mp id ver row o) (hH : H id = B) (hok : okB B ver = true) (h : Ops P k0 r (upd T d (.mp id ver row o)) H K) : Ops P k0 (⟨none, some d, .nilck a⟩ :: r) T H K := by
  subst hH
  refine stp (v := .mp id ver row o) (fun _ => rfl) ?_ h
  rw [ha]; rfl
theorem R_nilck_pp {cs : List V} (ha : ev T a = .pp cs) (h : Ops P k0 r (upd T d (.pp cs)) H K) : Ops P k0 (⟨none, some d, .nilck a⟩ :: r) T H K := by
  refine stp (v := .pp cs) (fun _ => rfl) ?_ h
  rw [ha]; rfl
theorem R_nilck_fn {f : Nat} {x y : List V} (ha : ev T a = .fn f x y) (h : Ops P k0 r (upd T d (.fn f x y)) H K) : Ops P k0 (⟨none, some d, .nilck a⟩ :: r) T H K := by
  refine stp (v := .fn f x y) (fun _ => rfl) ?_ h
  rw [ha]; rfl
variable {x y : Int}
theorem R_bin {op : BinOp} {w : V} (ha : ev T a = u) (hb : ev T b = w) (hg : intBin op u w = some v) (h : Ops P k0 r (upd T d v) H K) : Ops P k0 (⟨none, some d, .bin op a b⟩ :: r) T H K := by
  refine stp (v := v) (fun _ => rfl) ?_ h
  rw [ha, hb]; exact hg
theorem R_add (ha : ev T a = iV x) (hb : ev T b = iV y) (h1 : -9223372036854775808 ≤ x + y) (h2 : x + y < 9223372036854775808) (h : Ops P k0 r (upd T d (iV (x + y))) H K) : Ops P k0 (⟨none, some d, .bin .add a b⟩ :: r) T H K :=
  R_bin ha hb (by simp only [intBin, if_true, wrap_in h1 h2]) h
theorem R_addN {m n : Nat} (ha : ev T a = iV (m : Nat)) (hb : ev T b = iV (n : Nat)) (h2 : m + n < 9223372036854775808) (h : Ops P k0 r (upd T d (iV ((m + n : Nat) : Int))) H K) : Ops P k0 (⟨none, some d, .bin .add a b⟩ :: r) T H K :=
  R_add ha hb (by omega) (by omega) (by rw [← Int.natCast_add]; exact h)
theorem R_sub (ha : ev T a = iV x) (hb : ev T b = iV y) (h1 : -9223372036854775808 ≤ x - y) (h2 : x - y < 9223372036854775808) (h : Ops P k0 r (upd T d (iV (x - y))) H K) : Ops P k0 (⟨none, some d, .bin .sub a b⟩ :: r) T H K :=
  R_bin ha hb (by simp only [intBin, if_true, wrap_in h1 h2]) h
theorem R_mul (ha : ev T a = iV x) (hb : ev T b = iV y) (h1 : -9223372036854775808 ≤ x * y) (h2 : x * y < 9223372036854775808) (h : Ops P k0 r (upd T d (iV (x * y))) H K) : Ops P k0 (⟨none, some d, .bin .mul a b⟩ :: r) T H K :=
  R_bin ha hb (by simp only [intBin, if_true, wrap_in h1 h2]) h
theorem R_lss (ha : ev T a = iV x) (hb : ev T b = iV y) (h : Ops P k0 r (upd T d (.bool (decide (x < y)))) H K) : Ops P k0 (⟨none, some d, .bin .lss a b⟩ :: r) T H K := R_bin ha hb (by simp only [intBin, if_true]) h
theorem R_leq (ha : ev T a = iV x) (hb : ev T b = iV y) (h : Ops P k0 r (upd T d (.bool (decide (x ≤ y)))) H K) : Ops P k0 (⟨none, some d, .bin .leq a b⟩ :: r) T H K := R_bin ha hb (by simp only [intBin, if_true]) h
theorem R_gtr (ha : ev T a = iV x) (hb : ev T b = iV y) (h : Ops P k0 r (upd T d (.bool (decide (y < x)))) H K) : Ops P k0 (⟨none, some d, .bin .gtr a b⟩ :: r) T H K := R_bin ha hb (by simp only [intBin, if_true]) h
theorem R_geq (ha : ev T a = iV x) (hb : ev T b = iV y) (h : Ops P k0 r (upd T d (.bool (decide (y ≤ x)))) H K) : Ops P k0 (⟨none, some d, .bin .geq a b⟩ :: r) T H K := R_bin ha hb (by simp only [intBin, if_true]) h
theorem R_eql (ha : ev T a = iV x) (hb : ev T b = iV y) (h : Ops P k0 r (upd T d (.bool (decide (x = y)))) H K) : Ops P k0 (⟨none, some d, .bin .eql a b⟩ :: r) T H K := R_bin ha hb (by simp only [intBin, if_true]; rfl) h
theorem R_neq (ha : ev T a = iV x) (hb : ev T b = iV y) (h : Ops P k0 r (upd T d (.bool (decide (x ≠ y)))) H K) : Ops P k0 (⟨none, some d, .bin .neq a b⟩ :: r) T H K := R_bin ha hb (by simp only [intBin, if_true]; by_cases e : x = y <;> simp [e, bne]) h
theorem R_not {p : Prop} [Decidable p] (ha : ev T a = .bool (decide p)) (h : Ops P k0 r (upd T d (.bool (decide (¬p)))) H K) : Ops P k0 (⟨none, some d, .un .not a⟩ :: r) T H K := by
  refine stp (v := .bool (decide (¬p))) (fun _ => rfl) ?_ h
  rw [ha]; simp [unV]
theorem R_notb {q : Bool} (ha : ev T a = .bool q) (h : Ops P k0 r (upd T d (.bool (!q))) H K) : Ops P k0 (⟨none, some d, .un .not a⟩ :: r) T H K := by
  refine stp (v := .bool (!q)) (fun _ => rfl) ?_ h
  rw [ha]; rfl
theorem R_mnN {m n : Nat} (ha : ev T a = iV (m : Nat)) (hb : ev T b = iV (n : Nat)) (h : Ops P k0 r (upd T d (iV ((min m n : Nat) : Int))) H K) : Ops P k0 (⟨none, some d, .mn a b⟩ :: r) T H K := by
  refine stp (v := iV ((min m n : Nat) : Int)) (fun _ => rfl) ?_ h
  rw [ha, hb]
  simp only [mnV]
  congr 2
  split <;> omega
theorem R_pickT (hc : ev T c = .bool true) (ha : ev T a = v) (h : Ops P k0 r (upd T d v) H K) : Ops P k0 (⟨none, some d, .pick c a b⟩ :: r) T H K := by
  subst ha
  simp only [Ops, St, hc, asB, onS_some]; exact h
theorem R_pickF (hc : ev T c = .bool false) (hb : ev T b = v) (h : Ops P k0 r (upd T d v) H K) : Ops P k0 (⟨none, some d, .pick c a b⟩ :: r) T H K := by
  subst hb
  simp only [Ops, St, hc, asB, onS_some]; exact h
theorem R_idx {α : Type} [Inhabited α] {e : Nat} {l : List α} {f : α → List V} {k : IntKind} {i : Nat} (ha : ev T a = .sl (l.map f)) (hb : ev T b = .int k (i : Nat)) (hi : i < l.length) (he : (f (nth l i)).length = e)
    (h : Ops P k0 r (upd T d (.pp (f (nth l i)))) H K) : Ops P k0 (⟨none, some d, .idx e a b⟩ :: r) T H K := by
  refine stp (v := .pp (f (nth l i))) (fun _ => rfl) ?_ h
  rw [ha, hb]
  simp only [idxV]
  rw [rowAt_map f l i (by omega) (by omega)]
  simp [he]
theorem R_idxI {α : Type} [Inhabited α] {e : Nat} {l : List α} {f : α → List V} {k : IntKind} {i : Int} (ha : ev T a = .sl (l.map f)) (hb : ev T b = .int k i) (h0 : 0 ≤ i) (hi : i < l.length) (he : (f (nth l i.toNat)).length = e)
    (h : Ops P k0 r (upd T d (.pp (f (nth l i.toNat)))) H K) : Ops P k0 (⟨none, some d, .idx e a b⟩ :: r) T H K := by
  refine stp (v := .pp (f (nth l i.toNat))) (fun _ => rfl) ?_ h
  rw [ha, hb]
  simp only [idxV]
  rw [rowAt_map f l i h0 hi]
  simp [he]
theorem R_idx_lit {e : Nat} {rows : List (List V)} {row : List V} {k : IntKind} {i : Int} (ha : ev T a = .sl rows) (hb : ev T b = .int k i) (hi : rowAt rows i = some row) (he : row.length = e)
    (h : Ops P k0 r (upd T d (.pp row)) H K) : Ops P k0 (⟨none, some d, .idx e a b⟩ :: r) T H K := by
  refine stp (v := .pp row) (fun _ => rfl) ?_ h
  rw [ha, hb]
  simp [idxV, hi, he]
theorem R_idx_ms {e id ver off len i : Nat} {B : Blk} {k : IntKind} (ha : ev T a = .ms id ver off len) (hb : ev T b = .int k (i : Nat)) (hH : H id = B) (hok : okB B ver = true) (hs : B.sz = e) (hi : i < len)
    (h : Ops P k0 r (upd T d (.mp id ver (off + i) 0)) H K) : Ops P k0 (⟨none, some d, .idx e a b⟩ :: r) T H K := by
  subst hH
  refine stp (v := .mp id ver (off + i) 0) (fun _ => rfl) ?_ h
  rw [ha, hb]
  simp only [idxV]
  rw [if_pos (show ok H id ver = true from hok), if_pos hs, if_pos (by omega)]
  simp
theorem R_len {α : Type} {l : List α} {f : α → List V} (ha : ev T a = .sl (l.map f)) (h : Ops P k0 r (upd T d (iV (l.length : Nat))) H K) : Ops P k0 (⟨none, some d, .len a⟩ :: r) T H K := by
  refine stp (v := iV (l.length : Nat)) (fun _ => rfl) ?_ h
  rw [ha]; simp [lenV]
theorem R_len_lit {rows : List (List V)} {n : Nat} (ha : ev T a = .sl rows) (hn : rows.length = n) (h : Ops P k0 r (upd T d (iV (n : Nat))) H K) : Ops P k0 (⟨none, some d, .len a⟩ :: r) T H K := by
  subst hn
  refine stp (v := iV (rows.length : Nat)) (fun _ => rfl) ?_ h
  rw [ha]; rfl
theorem R_len_nil (ha : ev T a = .nilsl) (h : Ops P k0 r (upd T d (iV ((0 : Nat) : Int))) H K) : Ops P k0 (⟨none, some d, .len a⟩ :: r) T H K := by
  refine stp (v := iV ((0 : Nat) : Int)) (fun _ => rfl) ?_ h
  rw [ha]; rfl
theorem R_len_ms {id ver off len : Nat} {B : Blk} (ha : ev T a = .ms id ver off len) (hH : H id = B) (hok : (B.live && decide (B.ver = ver)) = true) (h : Ops P k0 r (upd T d (iV (len : Nat))) H K) : Ops P k0 (⟨none, some d, .len a⟩ :: r) T H K := by
  subst hH
  refine stp (v := iV (len : Nat)) (fun _ => rfl) ?_ h
  rw [ha]; exact if_pos hok
theorem all_len {α : Type} {f : α → List V} {e : Nat} (he : ∀ x, (f x).length = e) (l : List α) : (l.map f).all (fun r => r.length == e) = true := by
  rw [List.all_eq_true]; intro r hr; obtain ⟨x, _, rfl⟩ := List.mem_map.1 hr; simp [he]
theorem slice_S {α : Type} {f : α → List V} {e : Nat} (he : ∀ x, (f x).length = e) (l : List α) {lo hi : Nat} {olo ohi : Option V} (h1 : boundV 0 olo = some lo) (h2 : boundV l.length ohi = some hi) (h3 : lo ≤ hi) (h4 : hi ≤ l.length) :
    sliceV H e olo ohi (.sl (l.map f)) = some (.sl (((l.take hi).drop lo).map f)) := by
  simp only [sliceV]
  rw [List.length_map, h1, h2]
  simp only [Option.bind_some]
  rw [if_pos h3, if_pos (by simpa using h4), if_pos (all_len he l), List.map_drop, List.map_take]
theorem bnd_some' {o : Option V} {dd n : Nat} {k : IntKind} {w : V} (ho : o = some w) (hw : w = .int k (n : Nat)) : boundV dd o = some n := by
  subst ho; subst hw
  simp only [boundV, natV]
  rw [if_pos (by omega)]; simp
theorem R_slice_lo {α : Type} {e n : Nat} {l : List α} {f : α → List V} {k : IntKind} {x : SX} (ha : ev T a = .sl (l.map f)) (hx : ev T x = .int k (n : Nat)) (hn : n ≤ l.length) (he : ∀ x, (f x).length = e)
    (h : Ops P k0 r (upd T d (.sl ((l.drop n).map f))) H K) : Ops P k0 (⟨none, some d, .slice e a (some x) none⟩ :: r) T H K := by
  refine stp (v := .sl ((l.drop n).map f)) (fun _ => rfl) ?_ h
  rw [ha]
  simp only [Option.map_some, Option.map_none]
  rw [slice_S he l (lo := n) (hi := l.length) (bnd_some' rfl hx) (by simp [boundV]) hn (Nat.le_refl _), List.take_length]
theorem R_slice_hi {α : Type} {e n : Nat} {l : List α} {f : α → List V} {k : IntKind} {x : SX} (ha : ev T a = .sl (l.map f)) (hx : ev T x = .int k (n : Nat)) (hn : n ≤ l.length) (he : ∀ x, (f x).length = e)
    (h : Ops P k0 r (upd T d (.sl ((l.take n).map f))) H K) : Ops P k0 (⟨none, some d, .slice e a none (some x)⟩ :: r) T H K := by
  refine stp (v := .sl ((l.take n).map f)) (fun _ => rfl) ?_ h
  rw [ha]
  simp only [Option.map_some, Option.map_none]
  rw [slice_S he l (lo := 0) (hi := n) (by simp [boundV]) (bnd_some' rfl hx) (Nat.zero_le _) hn, List.drop_zero]
theorem R_slice_lh {α : Type} {e m n : Nat} {l : List α} {f : α → List V} {k k' : IntKind} {x y : SX} (ha : ev T a = .sl (l.map f)) (hx : ev T x = .int k (m : Nat)) (hy : ev T y = .int k' (n : Nat)) (hm : m ≤ n) (hn : n ≤ l.length) (he : ∀ x, (f x).length = e)
    (h : Ops P k0 r (upd T d (.sl (((l.take n).drop m).map f))) H K) : Ops P k0 (⟨none, some d, .slice e a (some x) (some y)⟩ :: r) T H K := by
  refine stp (v := .sl (((l.take n).drop m).map f)) (fun _ => rfl) ?_ h
  rw [ha]
  simp only [Option.map_some]
  rw [slice_S he l (lo := m) (hi := n) (bnd_some' rfl hx) (bnd_some' rfl hy) hm hn]
theorem R_build {z cs : List V} {ps : List (Nat × Nat × SX)} {qs : List (Nat × Nat × V)} (hq : ps.map (fun p => (p.1, p.2.1, ev T p.2.2)) = qs) (hb : bld z qs = some cs) (h : Ops P k0 r (upd T d (.agg cs)) H K) : Ops P k0 (⟨none, some d, .build z ps⟩ :: r) T H K := by
  simp only [Ops, St]
  rw [hq, hb]; exact h
theorem R_bslice {ty e len : Nat} {z : List V} {ps : List (Nat × SX)} {qs : List (Nat × V)} {rows : List (List V)} (hq : ps.map (fun p => (p.1, ev T p.2)) = qs) (hb : brows e (List.replicate len z) qs = some rows) (h : Ops P k0 r (upd T d (.sl rows)) H K) :
    Ops P k0 (⟨none, some d, .bslice ty e false z len ps⟩ :: r) T H K := by
  simp only [Ops, St]
  rw [hq, hb]; exact h
theorem R_bslice_own {ty e len i n : Nat} {z : List V} {ps : List (Nat × SX)} {qs : List (Nat × V)} {rows : List (List V)} (hi : k0 + d = i) (hv : (H i).ver = n) (hq : ps.map (fun p => (p.1, ev T p.2)) = qs) (hb : brows e (List.replicate len z) qs = some rows)
    (h : Ops P k0 r (upd T d (.ms i (n + 1) 0 rows.length)) (upd H i ⟨n + 1, true, false, ty, e, rows⟩) K) : Ops P k0 (⟨none, some d, .bslice ty e true z len ps⟩ :: r) T H K := by
  subst hi; subst hv
  simp only [Ops, St]
  rw [hq, hb]; exact h
theorem R_mks {ty e bytes i n : Nat} {z : List V} {m q : Nat} (hi : k0 + d = i) (hv : (H i).ver = n) (ha : ev T a = iV (m : Nat)) (hb : ev T b = iV (q : Nat)) (h1 : m ≤ q) (h2 : q * bytes ≤ 281474976710656) (h3 : q ≤ 9223372036854775807)
    (h : Ops P k0 r (upd T d (.ms i (n + 1) 0 m)) (upd H i ⟨n + 1, true, false, ty, e, List.replicate m z⟩) K) : Ops P k0 (⟨none, some d, .mks ty e bytes z a b⟩ :: r) T H K := by
  subst hi; subst hv
  have e : mksV bytes (iV (m : Nat)) (iV (q : Nat)) = some (m, q) := by
    unfold mksV
    have h2' : (q : Int) * (bytes : Int) ≤ 281474976710656 := by have := Int.ofNat_le.2 h2; simpa using this
    exact (if_pos (by omega)).trans ((if_pos (by omega)).trans ((if_pos h2').trans ((if_pos (by omega)).trans rfl)))
  simp only [Ops, St]
  rw [ha, hb, e]; exact h
theorem R_append {ty e bytes id ver len : Nat} {lz : Bool} {rows new : List (List V)} (ha : ev T a = .ms id ver 0 len) (hH : H id = ⟨ver, true, lz, ty, e, rows⟩) (hl : len = rows.length) (hn : rowsOf H (ev T b) = some new) (hf : fitRows e new = true)
    (h1 : (len + new.length) * bytes ≤ 140737488355328) (h2 : len + new.length ≤ 9223372036854775807)
    (h : Ops P k0 r (upd T d (.ms id (ver + 1) 0 (len + new.length))) (upd H id ⟨ver + 1, true, lz, ty, e, rows ++ new⟩) K) : Ops P k0 (⟨none, some d, .append ty e bytes a b⟩ :: r) T H K := by
  simp only [Ops, St]
  rw [ha]
  simp only [hH]
  rw [if_pos (by simp), if_pos trivial, if_pos hl, if_pos trivial, if_pos trivial, hn, onS_some, if_pos hf, if_pos h1, if_pos h2]
  exact h
theorem fit_one {α : Type} {f : α → List V} {e : Nat} {x : α} (he : (f x).length = e) (h1 : (f x).all V.one = true) : fitRows e [f x] = true := by simp [fitRows, he, h1]
theorem R_append1 {α : Type} {ty e bytes id ver n : Nat} {lz : Bool} {l : List α} {f : α → List V} {x : α} (ha : ev T a = .ms id ver 0 n) (hH : H id = ⟨ver, true, lz, ty, e, l.map f⟩) (hn : n = l.length) (hb : ev T b = .sl [f x]) (he : (f x).length = e) (h1 : (f x).all V.one = true)
    (h2 : (n + 1) * bytes ≤ 140737488355328) (h3 : n + 1 ≤ 9223372036854775807)
    (h : Ops P k0 r (upd T d (.ms id (ver + 1) 0 (n + 1))) (upd H id ⟨ver + 1, true, lz, ty, e, (l ++ [x]).map f⟩) K) : Ops P k0 (⟨none, some d, .append ty e bytes a b⟩ :: r) T H K := by
  refine R_append ha hH (by simpa using hn) (new := [f x]) (by rw [hb]; rfl) (fit_one he h1) (by simpa using h2) (by simpa using h3) ?_
  rw [List.map_append] at h
  exact h
theorem R_appendS {α : Type} {ty e bytes id ver n : Nat} {lz : Bool} {l m : List α} {f : α → List V} (ha : ev T a = .ms id ver 0 n) (hH : H id = ⟨ver, true, lz, ty, e, l.map f⟩) (hn : n = l.length) (hb : ev T b = .sl (m.map f)) (he : ∀ x, (f x).length = e) (h1 : ∀ x, (f x).all V.one = true)
    (h2 : (n + m.length) * bytes ≤ 140737488355328) (h3 : n + m.length ≤ 9223372036854775807)
    (h : Ops P k0 r (upd T d (.ms id (ver + 1) 0 (n + m.length))) (upd H id ⟨ver + 1, true, lz, ty, e, (l ++ m).map f⟩) K) : Ops P k0 (⟨none, some d, .append ty e bytes a b⟩ :: r) T H K := by
  refine R_append ha hH (by simpa using hn) (new := m.map f) (by rw [hb]; rfl) ?_ (by simpa using h2) (by simpa using h3) ?_
  · simp only [fitRows, List.all_eq_true]
    intro r hr
    obtain ⟨x, _, rfl⟩ := List.mem_map.1 hr
    simp only [he, beq_self_eq_true, Bool.true_and]
    exact h1 x
  · rw [List.map_append, show m.length = (m.map f).length by simp] at h
    exact h
theorem R_call {f : Nat} {args : List SX} {as0 us : List V} (he : evs T args = as0) (hc : PureC P f us v) (ha : as0.map (fzv true H 6) = us) (hp : pureL us = true) (hs : pureL as0 = true ∨ v.scalar = true) (h : Ops P k0 r (upd T d v) H K) :
    Ops P k0 (⟨none, some d, .call false f args⟩ :: r) T H K := by
  subst he
  exact CallK_z true 6 (k := fun v H' => Ops P k0 r (upd T d v) H' K) hc ha hp hs h
theorem R_callv {f : Nat} {first caps : List V} {g : SX} {args : List SX} {as0 us : List V} (hg : ev T g = .fn f first caps) (he : evs T args = as0) (hc : PureC P f us v) (ha : (first ++ as0 ++ caps).map (fzv true H 6) = us) (hp : pureL us = true)
    (hs : pureL (first ++ as0 ++ caps) = true ∨ v.scalar = true) (h : Ops P k0 r (upd T d v) H K) : Ops P k0 (⟨none, some d, .callv false g args⟩ :: r) T H K := by
  subst he
  simp only [Ops, St]
  rw [hg]
  exact CallK_z true 6 hc ha hp hs h
theorem R_callE {f : Nat} {args : List SX} {as0 : List V} {H' : Heap} (he : evs T args = as0) (hc : CallOK P f as0 H v H') (h : Ops P k0 r (upd T d v) H' K) : Ops P k0 (⟨none, some d, .call true f args⟩ :: r) T H K := by
  subst he
  exact CallK_E hc h
theorem R_callA {f i n : Nat} {args : List SX} {as0 : List V} {B : Blk} (hi : k0 + d = i) (hv : (H i).ver = n) (he : evs T args = as0) (hl : B.live = true) (hc : ∀ H2 : Heap, (H2 i).ver = n → CallOK P f as0 H2 v (upd H2 i B)) (h : Ops P k0 r (upd T d v) (upd H i B) K) : Ops P k0 (⟨none, some d, .callA f args⟩ :: r) T H K := by
  subst he; subst hi
  exact ⟨v, B, hl, fun H2 h2 => hc H2 ((congrArg Blk.ver h2).trans hv), h⟩
theorem R_ext {i : Nat} {vs : List V} (ha : ev T a = .tup vs) (hi : vs[i]? = some v) (h : Ops P k0 r (upd T d v) H K) : Ops P k0 (⟨none, some d, .ext a i⟩ :: r) T H K := by
  refine stp (v := v) (fun _ => rfl) ?_ h
  rw [ha]; exact hi
theorem R_mkf {f : Nat} {caps : List SX} {cs : List V} (he : evs T caps = cs) (h : Ops P k0 r (upd T d (.fn f [] cs)) H K) : Ops P k0 (⟨none, some d, .mkf f caps⟩ :: r) T H K := by
  subst he; exact h
theorem R_part {agg : Bool} {off n : Nat} (ha : ev T a = u) (hg : partV agg off n u = some v) (h : Ops P k0 r (upd T d v) H K) : Ops P k0 (⟨none, some d, .part agg off n a⟩ :: r) T H K := by
  refine stp (v := v) (fun _ => rfl) ?_ h
  rw [ha]; exact hg
theorem R_isnil_sl {neg : Bool} {rows : List (List V)} (ha : ev T a = .sl rows) (h1 : rows = [] → Ops P k0 r (upd T d (.bool (!neg))) H K) (h2 : Ops P k0 r (upd T d (.bool neg)) H K) : Ops P k0 (⟨none, some d, .isnil neg a⟩ :: r) T H K := by
  simp only [Ops, St]; rw [ha]; exact ⟨h1, h2⟩
theorem R_isnil_nil {neg : Bool} (ha : ev T a = .nilsl) (h : Ops P k0 r (upd T d (.bool (!neg))) H K) : Ops P k0 (⟨none, some d, .isnil neg a⟩ :: r) T H K := by
  simp only [Ops, St]; rw [ha]; exact h
theorem G_yes {t : Nat} {w : Bool} {od : Option Nat} {q : X} (ht : T t = .bool w) (h : Ops P k0 (⟨none, od, q⟩ :: r) T H K) : Ops P k0 (⟨some (t, w), od, q⟩ :: r) T H K := by
  simp only [Ops, ht, gd] at h ⊢
  exact ⟨fun _ => h, fun hn => (by simp at hn)⟩
theorem G_no {t : Nat} {w w' : Bool} {q : X} (ht : T t = .bool w') (hw : w' ≠ w) (h : Ops P k0 r (upd T d (.raw undef)) H K) : Ops P k0 (⟨some (t, w), some d, q⟩ :: r) T H K := by
  simp only [Ops, ht, gd] at h ⊢
  exact ⟨fun hn => (hw (by simpa using hn)).elim, fun _ => h⟩
theorem G_raw {t : Nat} {w : Bool} {q : X} (ht : T t = .raw undef) (h : Ops P k0 r (upd T d (.raw undef)) H K) : Ops P k0 (⟨some (t, w), some d, q⟩ :: r) T H K := by
  simp only [Ops, ht, gd, undef] at h ⊢
  exact ⟨fun hn => (by simp at hn), fun _ => h⟩
theorem Ops_append (a b : List SO) : Ops P k0 (a ++ b) T H K ↔ Ops P k0 a T H fun T H => Ops P k0 b T H K := by
  induction a generalizing T H with
  | nil => exact Iff.rfl
  | cons o a ih =>
    simp only [List.cons_append, Ops]
    cases o.g with
    | none => simp only; rw [show (fun v H' => Ops P k0 (a ++ b) (putT T o.d v) H' K) = fun v H' => Ops P k0 a (putT T o.d v) H' fun T H => Ops P k0 b T H K from funext fun v => funext fun H' => propext ih]
    | some p => simp only [ih]
theorem Ops_seg (n : Nat) {ops : List SO} (R : (Nat → V) → Heap → Prop) (h1 : Ops P k0 (ops.take n) T H R) (h2 : ∀ T' H', R T' H' → Ops P k0 (ops.drop n) T' H' K) : Ops P k0 ops T H K := by
  rw [← List.take_append_drop n ops, Ops_append]
  exact Ops_mono h2 h1
theorem upd_out {α : Type} {T A : Nat → α} {l : List Nat} (h : ∀ j, j ∉ l → A j = T j) {d : Nat} {v : α} (hd : d ∈ l) : ∀ j, j ∉ l → upd A d v j = T j := by
  intro j hj
  rw [upd_ne _ _ fun e => hj (by rw [e]; exact hd)]
  exact h j hj
theorem dec_T {p : Prop} [Decidable p] (hp : p) : V.bool true = V.bool (decide p) := by simp [hp]
theorem dec_F {p : Prop} [Decidable p] (hp : ¬p) : V.bool false = V.bool (decide p) := by simp [hp]
theorem dec_orT {p q : Prop} [Decidable p] [Decidable q] (hp : p) : V.bool true = V.bool (decide (p ∨ q)) := by simp [hp]
theorem dec_orF {p q : Prop} [Decidable p] [Decidable q] (hp : ¬p) : V.bool (decide q) = V.bool (decide (p ∨ q)) := by simp [hp]
theorem dec_andF {p q : Prop} [Decidable p] [Decidable q] (hp : ¬p) : V.bool false = V.bool (decide (p ∧ q)) := by simp [hp]
theorem dec_andT {p q : Prop} [Decidable p] [Decidable q] (hp : p) : V.bool (decide q) = V.bool (decide (p ∧ q)) := by simp [hp]
end
section
variable {P : Program} {k0 : Nat} {Q : Ex → (Nat → V) → Heap → Prop} {T : Nat → V} {H : Heap}
theorem W_seq_if {c : SX} {a b r : SC} {p : Prop} [Decidable p] (hc : ev T c = .bool (decide p)) (h1 : p → W P k0 (.seq a r) Q T H) (h2 : ¬p → W P k0 (.seq b r) Q T H) : W P k0 (.seq (.cond c a b) r) Q T H :=
  W_seq_cond (bb := decide p) (by rw [hc]; rfl) (fun h => h1 (of_decide_eq_true h)) fun h => h2 (of_decide_eq_false h)
theorem W_if {c : SX} {a b : SC} {p : Prop} [Decidable p] (hc : ev T c = .bool (decide p)) (h1 : p → W P k0 a Q T H) (h2 : ¬p → W P k0 b Q T H) : W P k0 (.cond c a b) Q T H :=
  W_cond (bb := decide p) (by rw [hc]; rfl) (fun h => h1 (of_decide_eq_true h)) fun h => h2 (of_decide_eq_false h)
theorem W_seq_ifb {c : SX} {a b r : SC} {q : Bool} (hc : ev T c = .bool q) (h1 : q = true → W P k0 (.seq a r) Q T H) (h2 : q = false → W P k0 (.seq b r) Q T H) : W P k0 (.seq (.cond c a b) r) Q T H :=
  W_seq_cond (bb := q) (by rw [hc]; rfl) h1 h2
theorem W_ifb {c : SX} {a b : SC} {q : Bool} (hc : ev T c = .bool q) (h1 : q = true → W P k0 a Q T H) (h2 : q = false → W P k0 b Q T H) : W P k0 (.cond c a b) Q T H :=
  W_cond (bb := q) (by rw [hc]; rfl) h1 h2
theorem W_seq_regc {ops : List SO} {b : SC} (R : (Nat → V) → Heap → Prop) (h : Ops P k0 ops T H R) (hk : ∀ T H, R T H → W P k0 b Q T H) : W P k0 (.seq (.reg ops) b) Q T H :=
  W_seq_reg fun _ hK => Ops_mono (fun T H hr => hK T H (hk T H hr)) h
theorem W_seq_dregc {ops : List SO} {b : SC} {late : List Nat} (R : (Nat → V) → Heap → Prop) (hl : ∀ d ∈ late, (H (k0 + d)).live = false) (h : Ops P k0 ops T H R) (hk : ∀ T H, R T H → W P k0 b Q T H) : W P k0 (.seq (.dreg late ops) b) Q T H :=
  W_seq_dreg hl fun _ hK => Ops_mono (fun T H hr => hK T H (hk T H hr)) h
theorem W_regc {ops : List SO} (R : (Nat → V) → Heap → Prop) (h : Ops P k0 ops T H R) (hk : ∀ T H, R T H → Q .norm T H) : W P k0 (.reg ops) Q T H :=
  ⟨k0, Ops_mono hk h⟩
theorem W_dregc {ops : List SO} {late : List Nat} (R : (Nat → V) → Heap → Prop) (hl : ∀ d ∈ late, (H (k0 + d)).live = false) (h : Ops P k0 ops T H R) (hk : ∀ T H, R T H → Q .norm T H) : W P k0 (.dreg late ops) Q T H :=
  ⟨k0, hl, Ops_mono hk h⟩
theorem W_seq_frz {ops : List SO} {b : SC} (id : Nat) (R : (Nat → V) → Heap → Prop) (h : Ops P k0 ops T H R) (hk : ∀ T H, R T H → W P k0 b Q (fzT id H T) (kill id H)) : W P k0 (.seq (.reg ops) b) Q T H :=
  W_seq_reg_g fun _ hK => Ops_mono (fun T H hr => hK T H (.freeze id (.done (hk T H hr)))) h
theorem Ret_1 {t : Nat} {u v : V} {n : Nat} (h1 : T t = u) (h2 : fzv true H n u = v) : Ret [.tmp t] (fun u G => fzv true G n u = v) .ret T H := by
  simp only [Ret, resT, mapO, resV, onS_some, h1]; exact h2
theorem Ret_2 {t1 t2 : Nat} {u1 u2 v1 v2 : V} {n : Nat} (h1 : T t1 = u1) (h2 : T t2 = u2) (g1 : fzv true H n u1 = v1) (g2 : fzv true H n u2 = v2) : Ret [.tmp t1, .tmp t2] (fun u G => fzv true G (n + 1) u = .tup [v1, v2]) .ret T H := by
  simp only [Ret, resT, mapO, resV, onS_some, h1, h2, fzv, List.map_cons, List.map_nil, g1, g2]
theorem Ret_3 {t1 t2 t3 : Nat} {u1 u2 u3 v1 v2 v3 : V} {n : Nat} (h1 : T t1 = u1) (h2 : T t2 = u2) (h3 : T t3 = u3) (g1 : fzv true H n u1 = v1) (g2 : fzv true H n u2 = v2) (g3 : fzv true H n u3 = v3) :
    Ret [.tmp t1, .tmp t2, .tmp t3] (fun u G => fzv true G (n + 1) u = .tup [v1, v2, v3]) .ret T H := by
  simp only [Ret, resT, mapO, resV, onS_some, h1, h2, h3, fzv, List.map_cons, List.map_nil, g1, g2, g3]
theorem RetE_1 {t : Nat} {v : V} {H' : Heap} (h1 : T t = v) (h2 : H = H') : Ret [.tmp t] (fun u G => u = v ∧ G = H') .ret T H := by
  simp only [Ret, resT, mapO, resV, onS_some, h1]; exact ⟨trivial, h2⟩
theorem heap1 {Hi : Heap} {a : Nat} {A : Blk} (hF : ∀ j, j ∉ [a] → H j = Hi j) (h1 : H a = A) (_ : True) : H = upd Hi a A := by
  funext j
  by_cases e : j = a
  · subst e; rw [upd_same, h1]
  · rw [upd_ne _ _ e]; exact hF j (by simpa using e)
theorem heap2 {Hi : Heap} {a b : Nat} {A B : Blk} (hF : ∀ j, j ∉ [a, b] → H j = Hi j) (h1 : H a = A) (h2 : H b = B) (hne : a ≠ b) : H = upd (upd Hi a A) b B := by
  funext j
  by_cases e : j = b
  · subst e; rw [upd_same, h2]
  · rw [upd_ne _ _ e]
    by_cases e' : j = a
    · subst e'; rw [upd_same, h1]
    · rw [upd_ne _ _ e']; exact hF j (by simp [e, e'])
theorem fz_int {n : Nat} {x y : Int} (h : x = y) : fzv true H n (iV x) = iV y := by rw [fzv_canon n _ (by simp), h]
theorem fz_bool {n : Nat} {x y : Bool} (h : x = y) : fzv true H n (.bool x) = .bool y := by rw [fzv_canon n _ (by simp), h]
theorem fz_sl {α : Type} {n : Nat} {f : α → List V} {l m : List α} (h : l = m) (hc : ∀ a, canonL (f a) = true) : fzv true H n (.sl (l.map f)) = .sl (m.map f) := by
  rw [fzv_canon n _ (by rw [canon_sl]; exact canonLL_map _ _ hc), h]
theorem fz_nil {α : Type} {n : Nat} {f : α → List V} {m : List α} (h : m = []) : fzv true H (n + 1) .nilsl = .sl (m.map f) := by subst h; rfl
theorem fz_ms {α : Type} {n id ver len : Nat} {B : Blk} {f : α → List V} {l m : List α} (hH : H id = B) (hok : (B.live && decide (B.ver = ver)) = true) (hr : B.rows = l.map f) (hl : len = l.length) (hc : ∀ a, canonL (f a) = true) (h : l = m) :
    fzv true H (n + 1) (.ms id ver 0 len) = .sl (m.map f) := by
  subst hH; subst hl; subst h
  have hx : List.take l.length (List.map f l) = List.map f l := by rw [show l.length = (l.map f).length by simp, List.take_length]
  simp only [fzv]
  rw [if_pos hok, hr, List.drop_zero, hx]
  congr 1
  rw [List.map_map]
  refine List.map_congr_left fun a _ => fzv_mapcanon n _ (hc a)
theorem fz_canon {n : Nat} {u v : V} (hc : u.canon = true) (h : u = v) : fzv true H n u = v := by rw [fzv_canon n _ hc, h]
end
theorem fork_ {R : (Nat → V) → Heap → Prop} {K : (Nat → V) → Heap → Prop} {T : Nat → V} {H : Heap} (h : R T H) (hk : ∀ T H, R T H → K T H) : K T H := hk T H h
theorem mcons {α β : Type} {g : α → β} {a : α} {b : β} {l : List α} {m : List β} (h1 : g a = b) (h2 : l.map g = m) : (a :: l).map g = b :: m := by subst h1; subst h2; rfl
theorem evcons {T : Nat → V} {a : SX} {v : V} {l : List SX} {m : List V} (h1 : ev T a = v) (h2 : evs T l = m) : evs T (a :: l) = v :: m := by subst h1; subst h2; rfl
theorem evnil {T : Nat → V} : evs T [] = [] := rfl
end Go.Proofs.Ytmnjchcoigbngaa

namespace Go.Proofs.Ytmnjchcoigbngaa
open Go
section
variable {P : Program} {k0 : Nat} {Q : Ex → (Nat → V) → Heap → Prop} {T : Nat → V} {H : Heap}
theorem W_seq_g {ops : List SO} {b : SC} (R : (Nat → V) → Heap → Prop) (h : Ops P k0 ops T H R) (hk : ∀ T H, R T H → G (W P k0 b Q) T H) : W P k0 (.seq (.reg ops) b) Q T H :=
  W_seq_reg_g fun _ hK => Ops_mono (fun T H hr => hK T H (hk T H hr)) h
theorem W_seq_dg {ops : List SO} {b : SC} {late : List Nat} (R : (Nat → V) → Heap → Prop) (hl : ∀ d ∈ late, (H (k0 + d)).live = false) (h : Ops P k0 ops T H R) (hk : ∀ T H, R T H → G (W P k0 b Q) T H) : W P k0 (.seq (.dreg late ops) b) Q T H :=
  ⟨k0, hl, Ops_mono (fun T H hr => hk T H hr) h⟩
theorem W_seq_gk {ops : List SO} {b : SC} (k1 : Nat) (R : (Nat → V) → Heap → Prop) (h : Ops P k1 ops T H R) (hk : ∀ T H, R T H → G (W P k0 b Q) T H) : W P k0 (.seq (.reg ops) b) Q T H :=
  W_seq_regk k1 fun _ hK => Ops_mono (fun T H hr => hK T H (hk T H hr)) h
theorem W_seq_dgk {ops : List SO} {b : SC} {late : List Nat} (k1 : Nat) (R : (Nat → V) → Heap → Prop) (hl : ∀ d ∈ late, (H (k1 + d)).live = false) (h : Ops P k1 ops T H R) (hk : ∀ T H, R T H → G (W P k0 b Q) T H) : W P k0 (.seq (.dreg late ops) b) Q T H :=
  ⟨k1, hl, Ops_mono (fun T H hr => hk T H hr) h⟩
theorem W_seq_blockg {id : Nat} {a r : SC} (h : ∀ Q' : Ex → (Nat → V) → Heap → Prop, (∀ T H, G (W P k0 r Q) T H → Q' .norm T H) → (∀ T H, G (W P k0 r Q) T H → Q' (.exit id) T H) → (∀ T H, Q .ret T H → Q' .ret T H) →
    (∀ n T H, n ≠ id → Q (.exit n) T H → Q' (.exit n) T H) → W P k0 a Q' T H) : W P k0 (.seq (.block id a) r) Q T H := by
  simp only [W]
  refine h _ (fun T H h => h) (fun T H h => ?_) (fun T H h => h) (fun n T H hn h => ?_)
  · simp only [if_true]; exact h
  · simp only [if_neg hn]; exact h
theorem G_nil {K : (Nat → V) → Heap → Prop} {i : Nat} (ht : T i = .nilsl) (h : K (upd T i (.sl [])) H) : G K T H :=
  .slot i (.sl []) (fun x c _ _ hr => by rw [ht] at hr; generalize hq : V.nilsl = q at hr; cases hr <;> cases hq; exact .slnil) (.done h)
theorem G_nil' {K : (Nat → V) → Heap → Prop} {i : Nat} (ht : T i = .nilsl) (h : G K (upd T i (.sl [])) H) : G K T H :=
  .slot i (.sl []) (fun x c _ _ hr => by rw [ht] at hr; generalize hq : V.nilsl = q at hr; cases hr <;> cases hq; exact .slnil) h
end
section
variable {P : Program} {k0 : Nat} {K : (Nat → V) → Heap → Prop} {T : Nat → V} {H : Heap} {r : List SO} {d : Nat} {a b : SX}
theorem R_mn3N {c : SX} {m n q : Nat} (ha : ev T a = iV (m : Nat)) (hb : ev T b = iV (n : Nat)) (hc : ev T c = iV (q : Nat)) (h : Ops P k0 r (upd T d (iV ((min (min m n) q : Nat) : Int))) H K) : Ops P k0 (⟨none, some d, .mn3 a b c⟩ :: r) T H K := by
  refine stp (v := iV ((min (min m n) q : Nat) : Int)) (fun _ => rfl) ?_ h
  rw [ha, hb, hc]
  simp only [mnV, Option.bind_some]
  congr 2
  split <;> split <;> omega
theorem R_mxN {m n : Nat} (ha : ev T a = iV (m : Nat)) (hb : ev T b = iV (n : Nat)) (h : Ops P k0 r (upd T d (iV ((max m n : Nat) : Int))) H K) : Ops P k0 (⟨none, some d, .mx a b⟩ :: r) T H K := by
  refine stp (v := iV ((max m n : Nat) : Int)) (fun _ => rfl) ?_ h
  rw [ha, hb]
  simp only [mxV]
  congr 2
  split <;> omega
theorem R_idxI_ms {e id ver off len : Nat} {i : Int} {B : Blk} {k : IntKind} (ha : ev T a = .ms id ver off len) (hb : ev T b = .int k i) (hH : H id = B) (hok : okB B ver = true) (hs : B.sz = e) (h0 : 0 ≤ i) (hi : i < len)
    (h : Ops P k0 r (upd T d (.mp id ver (off + i.toNat) 0)) H K) : Ops P k0 (⟨none, some d, .idx e a b⟩ :: r) T H K := by
  subst hH
  refine stp (v := .mp id ver (off + i.toNat) 0) (fun _ => rfl) ?_ h
  rw [ha, hb]
  simp only [idxV]
  rw [if_pos (show ok H id ver = true from hok), if_pos hs, if_pos ⟨h0, hi⟩]
theorem R_beql {x y : Bool} (ha : ev T a = .bool x) (hb : ev T b = .bool y) (h : Ops P k0 r (upd T d (.bool (x == y))) H K) : Ops P k0 (⟨none, some d, .bbin .eql a b⟩ :: r) T H K := by
  refine stp (v := .bool (x == y)) (fun _ => rfl) ?_ h
  rw [ha, hb]; rfl
theorem R_bneq {x y : Bool} (ha : ev T a = .bool x) (hb : ev T b = .bool y) (h : Ops P k0 r (upd T d (.bool (x != y))) H K) : Ops P k0 (⟨none, some d, .bbin .neq a b⟩ :: r) T H K := by
  refine stp (v := .bool (x != y)) (fun _ => rfl) ?_ h
  rw [ha, hb]; rfl
end
theorem okB_map {α : Type} {ver ty sz : Nat} {lz : Bool} {f : α → List V} {l : List α} (h : 0 < l.length) : okB ⟨ver, true, lz, ty, sz, l.map f⟩ ver = true := by
  cases l with
  | nil => simp at h
  | cons a l => simp [okB, Blk.own]
theorem ldB_map {α : Type} [Inhabited α] {agg : Bool} {n ver ty sz i off : Nat} {lz : Bool} {f : α → List V} {l : List α} {v : V} (h : i < l.length) (hg : ldV agg n ((f (nth l i)).drop off) = some v) :
    ldB agg n ⟨ver, true, lz, ty, sz, l.map f⟩ ver i off = some v := by
  unfold ldB
  rw [if_pos (show (_ && _) = true from okB_map (by omega))]
  simp only [List.getElem?_map, nth_eq h, Option.map_some, Option.bind_some]
  exact hg
theorem fz_ms0 {H : Heap} {n id ver : Nat} {B : Blk} (hH : H id = B) (hok : (B.live && decide (B.ver = ver)) = true) : fzv true H (n + 1) (.ms id ver 0 0) = .sl [] := by
  subst hH
  simp only [fzv]
  rw [if_pos hok]; simp
theorem iv_toNat {x : Int} (h : 0 ≤ x) : iV x = iV ((x.toNat : Nat) : Int) := by rw [Int.toNat_of_nonneg h]
theorem bdT {p : Prop} [Decidable p] (h : p) : V.bool (decide p) = V.bool true := by simp [h]
theorem bdF {p : Prop} [Decidable p] (h : ¬p) : V.bool (decide p) = V.bool false := by simp [h]
theorem bbT {b : Bool} (h : b = true) : V.bool b = V.bool true := by rw [h]
theorem bbF {b : Bool} (h : ¬b = true) : V.bool b = V.bool false := by rw [Bool.eq_false_iff.2 h]
theorem borT {x y : Bool} (h : x = true) : V.bool true = V.bool (x || y) := by rw [h]; rfl
theorem borF {x y : Bool} (h : ¬x = true) : V.bool y = V.bool (x || y) := by rw [Bool.eq_false_iff.2 h]; rfl
theorem bandT {x y : Bool} (h : x = true) : V.bool y = V.bool (x && y) := by rw [h]; rfl
theorem bandF {x y : Bool} (h : ¬x = true) : V.bool false = V.bool (x && y) := by rw [Bool.eq_false_iff.2 h]; rfl
theorem dborT {p : Prop} [Decidable p] {y : Bool} (h : p) : V.bool true = V.bool (decide p || y) := by simp [h]
theorem dborF {p : Prop} [Decidable p] {y : Bool} (h : ¬p) : V.bool y = V.bool (decide p || y) := by simp [h]
theorem dbandT {p : Prop} [Decidable p] {y : Bool} (h : p) : V.bool y = V.bool (decide p && y) := by simp [h]
theorem dbandF {p : Prop} [Decidable p] {y : Bool} (h : ¬p) : V.bool false = V.bool (decide p && y) := by simp [h]
def fzq (id : Nat) (H : Heap) : V → V
  | .ms j ver off len => if j = id ∧ (H id).live = true ∧ (H id).ver = ver then .sl (((H id).rows.drop off).take len) else .ms j ver off len
  | v => v
theorem fzT_q {id : Nat} {H : Heap} {T : Nat → V} {i : Nat} {v u : V} (h : T i = v) (hu : fzq id H v = u) : fzT id H T i = u := by
  subst hu; subst h
  unfold fzT fzq
  cases hT : T i <;> simp only
theorem fzq_own {α : Type} {id ver len : Nat} {H : Heap} {B : Blk} {f : α → List V} {l : List α} (hH : H id = B) (hok : (B.live && decide (B.ver = ver)) = true) (hr : B.rows = l.map f) (hl : len = l.length) :
    fzq id H (.ms id ver 0 len) = .sl (l.map f) := by
  subst hH
  simp only [Bool.and_eq_true, decide_eq_true_eq] at hok
  simp only [fzq]
  rw [if_pos ⟨trivial, hok.1, hok.2⟩, hr, List.drop_zero, hl]
  congr 1
  rw [show l.length = (l.map f).length by simp, List.take_length]
theorem fzq_other {id j ver off len : Nat} {H : Heap} (h : j ≠ id) : fzq id H (.ms j ver off len) = .ms j ver off len := by
  simp only [fzq]; rw [if_neg (fun e => h e.1)]
theorem kill_at {id : Nat} {H : Heap} {B : Blk} (h : H id = B) : kill id H id = { B with live := false } := by subst h; simp [kill]
theorem kill_ne {id j : Nat} {H : Heap} {B : Blk} (h : H j = B) (hn : j ≠ id) : kill id H j = B := by subst h; simp [kill, hn]
theorem kill_ver {id j : Nat} {H : Heap} {n : Nat} (h : (H j).ver = n) : (kill id H j).ver = n := by subst h; unfold kill; by_cases e : j = id <;> simp [e]
theorem kill_out {id : Nat} {H Hi : Heap} {l : List Nat} (h : ∀ j, j ∉ l → H j = Hi j) (hd : id ∈ l) : ∀ j, j ∉ l → kill id H j = Hi j := by
  intro j hj
  have : j ≠ id := fun e => hj (by rw [e]; exact hd)
  simp only [kill, upd_ne _ _ this]; exact h j hj
mutual
def V.bnd : V → Bool
  | .sl rows => decide (rows.length ≤ 9223372036854775807) && bndLL rows
  | .pp cells => bndL cells
  | .agg cells => bndL cells
  | .tup vs => bndL vs
  | .fn _ a b => bndL a && bndL b
  | .ms _ _ _ _ => true
  | .mp _ _ _ _ => true
  | .int _ _ => true
  | .bool _ => true
  | .str _ => true
  | .nilsl => true
  | .nilp => true
  | .raw _ => true
def bndL : List V → Bool
  | [] => true
  | v :: l => v.bnd && bndL l
def bndLL : List (List V) → Bool
  | [] => true
  | r :: l => bndL r && bndLL l
end
theorem bndL_iff {l : List V} : bndL l = true ↔ ∀ v ∈ l, v.bnd = true := by
  induction l with
  | nil => simp [bndL]
  | cons v l ih => simp [bndL, ih]
theorem bndLL_iff {l : List (List V)} : bndLL l = true ↔ ∀ r ∈ l, bndL r = true := by
  induction l with
  | nil => simp [bndLL]
  | cons v l ih => simp [bndLL, ih]
theorem R.bnd {x : Cx} {v : V} {c : Value} (h : R x v c) : v.bnd = true := by
  have all : ∀ {l : List V}, (∀ (j : Nat) (v : V), l[j]? = some v → v.bnd = true) → bndL l = true := fun {l} h =>
    bndL_iff.2 fun v hv => by obtain ⟨j, hj⟩ := List.getElem?_of_mem hv; exact h j v hj
  induction h with
  | sl rows a cap sz cs hc hm hz hsz hcell _ ih =>
    simp only [V.bnd, Bool.and_eq_true, decide_eq_true_eq]
    have : maxLen = 9223372036854775807 := rfl
    refine ⟨by omega, bndLL_iff.2 fun r hr => ?_⟩
    obtain ⟨k, hk⟩ := List.getElem?_of_mem hr
    exact all fun j v hj => ih k r j v hk hj
  | slnil => simp [V.bnd, bndLL]
  | pp cells a cs hzz hcell _ ih => simp only [V.bnd]; exact all ih
  | agg cells cs hs _ ih => simp only [V.bnd]; exact all ih
  | tup cells cs hs _ ih => simp only [V.bnd]; exact all ih
  | fn f first caps fs cs hfs hcs _ _ ih1 ih2 => simp only [V.bnd, Bool.and_eq_true]; exact ⟨all ih1, all ih2⟩
  | _ => simp [V.bnd]
theorem RL.bnd {x : Cx} {vs : List V} {cs : List Value} (h : RL x vs cs) : bndL vs = true :=
  bndL_iff.2 fun v hv => by obtain ⟨j, hj⟩ := List.getElem?_of_mem hv; exact (h.2 j v hj).bnd
theorem pure_of_Wb {P : Program} {op : Opt} (z : Bool) (n : Nat) {f : Nat} {fn : Func} {s : SF} (hf : P.funcs[f]? = some fn) (hs : slimF P op fn = some s) (hn : (fn.name == "runtime.NumGoroutine") = false) {args : List V} {v : V}
    (hl : args.length ≤ s.n) (ha : pureL args = true) (hv : v.pure = true) (hW : bndL args = true → W P 0 s.body (Ret s.res fun u G => fzv z G n u = v) (T0 args) H0) : PureC P f args v := fun H =>
  ⟨callable_of hf hs hn, fun x cs hxH hx hr => (pure_of_Wz z n hf hs hn hl ha hv (hW hr.bnd) H).2 x cs hxH hx hr⟩
theorem CallOK_of_Wb {P : Program} {op : Opt} {k0 f : Nat} {fn : Func} {s : SF} (hf : P.funcs[f]? = some fn) (hs : slimF P op fn = some s) (hn : (fn.name == "runtime.NumGoroutine") = false) {args : List V} {H : Heap} {v : V} {H' : Heap}
    (hl : args.length ≤ s.n) (hW : bndL args = true → W P k0 s.body (Ret s.res fun u G => u = v ∧ G = H') (T0 args) H) : CallOK P f args H v H' :=
  ⟨callable_of hf hs hn, fun x cs hxH hx hr => (CallOK_of_W hf hs hn hl (hW hr.bnd)).2 x cs hxH hx hr⟩
theorem bndLL_map {α : Type} [Inhabited α] {f : α → List V} {l : List α} : bndLL (l.map f) = true ↔ ∀ k, k < l.length → bndL (f (nth l k)) = true := by
  rw [bndLL_iff]
  constructor
  · intro h k hk; exact h _ (List.mem_map_of_mem (by rw [← nth_getElem hk]; exact List.getElem_mem hk))
  · intro h r hr
    obtain ⟨a, ha, rfl⟩ := List.mem_map.1 hr
    obtain ⟨k, hk, rfl⟩ := List.getElem_of_mem ha
    rw [nth_getElem hk]; exact h k hk
theorem bnd_map {α : Type} [Inhabited α] {f : α → List V} {l : List α} : (V.sl (l.map f)).bnd = true ↔ l.length ≤ 9223372036854775807 ∧ ∀ k, k < l.length → bndL (f (nth l k)) = true := by
  simp only [V.bnd, Bool.and_eq_true, decide_eq_true_eq, List.length_map, bndLL_map]
theorem bnd_int (k : IntKind) (n : Int) : (V.int k n).bnd = true := by simp [V.bnd]
theorem bnd_bool (b : Bool) : (V.bool b).bnd = true := by simp [V.bnd]
theorem bnd_str (s : List UInt8) : (V.str s).bnd = true := by simp [V.bnd]
theorem bnd_agg {l : List V} : (V.agg l).bnd = bndL l := by simp [V.bnd]
theorem bnd_pp {l : List V} : (V.pp l).bnd = bndL l := by simp [V.bnd]
theorem bnd_nil : bndL [] = true := by simp [bndL]
theorem bnd_cons {v : V} {l : List V} : bndL (v :: l) = true ↔ v.bnd = true ∧ bndL l = true := by simp [bndL]
end Go.Proofs.Ytmnjchcoigbngaa

namespace Go.Proofs.Ytmnjchcoigbngaa
open Go
theorem choiceL {α : Type} {n : Nat} {p : Nat → α → Prop} (h : ∀ i, i < n → ∃ a, p i a) : ∃ l : List α, l.length = n ∧ ∀ i a, l[i]? = some a → p i a := by
  induction n with
  | zero => exact ⟨[], rfl, fun i a h => by simp at h⟩
  | succ n ih =>
    obtain ⟨l, h1, h2⟩ := ih fun i hi => h i (by omega)
    obtain ⟨b, hb⟩ := h n (by omega)
    refine ⟨l ++ [b], by simp [h1], fun i a hi => ?_⟩
    rw [List.getElem?_append] at hi
    split at hi
    · exact h2 i a hi
    · rename_i hlt
      have e : i = n := by
        have := (List.getElem?_eq_some_iff.1 hi).1
        simp at this; omega
      subst e
      simp [h1] at hi
      subst hi
      exact hb
def tile (P : Program) (all : Nat) : Nat → List Field → Bool
  | off, [] => decide (off = all)
  | off, f :: r => decide (f.offset = off) && tile P all (off + P.cellsOf f.type) r
def okT (P : Program) : Nat → TypeId → Bool
  | 0, _ => false
  | n + 1, t => match P.underlying t with
    | some .bool => true
    | some (.int _) => true
    | some .string => true
    | some (.slice e) => okT P n e && decide (P.cellsOf e ≠ 0)
    | some (.struct fs) => fs.toList.all (fun f => okT P n f.type) && tile P (P.cellsOf t) 0 fs.toList
    | some (.array m e) => okT P n e && decide (m * P.cellsOf e = P.cellsOf t)
    | _ => false
def ShpL (S : TypeId → List V → Prop) : List Field → List V → Prop
  | [], vs => vs = []
  | f :: r, vs => ∃ a b, vs = a ++ b ∧ S f.type a ∧ ShpL S r b
def ShpR (S : List V → Prop) : Nat → List V → Prop
  | 0, vs => vs = []
  | k + 1, vs => ∃ a b, vs = a ++ b ∧ S a ∧ ShpR S k b
def Shp (P : Program) : Nat → TypeId → List V → Prop
  | 0, _, _ => False
  | n + 1, t, vs => match P.underlying t with
    | some .bool => ∃ b, vs = [.bool b]
    | some (.int k) => ∃ m, vs = [.int k m]
    | some .string => ∃ s, vs = [.str s]
    | some (.slice e) => ∃ rows, vs = [.sl rows] ∧ ∀ r ∈ rows, Shp P n e r
    | some (.struct fs) => ShpL (Shp P n) fs.toList vs
    | some (.array m e) => ShpR (Shp P n e) m vs
    | _ => False
def RC (x : Cx) (vs : List V) (cs : List Value) : Prop := vs.length = cs.length ∧ ∀ j v, vs[j]? = some v → R x v (cs.getD j undef)
theorem RC_append {x : Cx} {a b : List V} {c d : List Value} (h1 : RC x a c) (h2 : RC x b d) : RC x (a ++ b) (c ++ d) := by
  refine ⟨by simp [h1.1, h2.1], fun j v hj => ?_⟩
  rw [List.getElem?_append] at hj
  rw [List.getD_eq_getElem?_getD, List.getElem?_append, ← h1.1]
  split at hj
  · rename_i hlt
    rw [if_pos hlt, ← List.getD_eq_getElem?_getD]; exact h1.2 j v hj
  · rename_i hlt
    rw [if_neg hlt, ← List.getD_eq_getElem?_getD]; exact h2.2 _ v hj
section
variable {H : Type} {enc : TypeId × Value → H} {P : Program} {base : Nat} {spare : Nat → Bool} {held : Bool}
theorem trod_R {x : Cx} (hZ : ∀ b, b < x.w.heap.size → x.Z b) : ∀ (n : Nat) (t : TypeId), okT P n t = true → ∀ (fuel : Nat) (cs : List Value) (y : DataW H × List MemPlace), DataW.trod enc P x.w base spare held fuel t cs = some y →
    ∃ vs, Shp P n t vs ∧ RC x vs cs := by
  intro n
  induction n with
  | zero => intro t h; cases h
  | succ n ih =>
    intro t hok fuel cs y hy
    have one : ∀ {v : V} {c : Value}, R x v c → RC x [v] [c] := fun {v c} h => ⟨rfl, fun j u hj => by
      cases j with
      | zero => simp at hj; subst hj; exact h
      | succ j => simp at hj⟩
    simp only [okT] at hok
    simp only [Shp]
    split at hok
    · rename_i ht
      obtain ⟨b, rfl, _⟩ := DataW.trod_bool ht hy
      exact ⟨[.bool b], ⟨b, rfl⟩, one (.bool b)⟩
    · rename_i k ht
      obtain ⟨m, rfl, _⟩ := DataW.trod_int ht hy
      exact ⟨[.int k m], ⟨m, rfl⟩, one (.int k m)⟩
    · rename_i ht
      obtain ⟨s, rfl, _⟩ := DataW.trod_string ht hy
      exact ⟨[.str s.data.toList], ⟨_, rfl⟩, one (R.str s.data.toList)⟩
    · rename_i e ht
      simp only [Bool.and_eq_true, decide_eq_true_eq] at hok
      obtain ⟨hok, hnz⟩ := hok
      rcases DataW.trod_slice ht hy with ⟨rfl, _⟩ | ⟨a, len, cap, elems, rest, m, _, rfl, _, hb, hl, hc, hlen, hel, _, _⟩
      · exact ⟨[.sl []], ⟨[], rfl, fun r hr => by cases hr⟩, one .slnil⟩
      · have hall : ∀ i, i < len → ∃ r : List V, Shp P n e r ∧ ∃ ci : List Value, x.w.cells? base (a.add (i * P.cellsOf e)) (P.cellsOf e) = some ci ∧ RC x r ci := by
          intro i hi
          have h1 := hel i hi
          rw [List.getElem?_eq_getElem (by omega)] at h1
          cases h2 : x.w.cells? base (a.add (i * P.cellsOf e)) (P.cellsOf e) with
          | none => rw [h2] at h1; cases h1
          | some ci =>
            rw [h2] at h1
            obtain ⟨vs, h3, h4⟩ := ih e hok m ci _ h1
            exact ⟨vs, h3, ci, rfl, h4⟩
        obtain ⟨rows, hrl, hrows⟩ := choiceL hall
        have hcell : ∀ (r : Nat) (row : List V) (j : Nat) (v : V), rows[r]? = some row → row[j]? = some v →
            ∃ c, x.w.cell? (a.add (r * P.cellsOf e + j)) = some c ∧ R x v c := by
          intro r row j v hr hj
          obtain ⟨_, ci, g1, g2⟩ := hrows r row hr
          obtain ⟨_, g4, g5⟩ := World.cells?_some g1
          have hjlt : j < ci.length := by have := (List.getElem?_eq_some_iff.1 hj).1; rw [← g2.1]; exact this
          have g6 := g5 j (by omega)
          rw [List.getElem?_eq_getElem hjlt, Addr.add_add] at g6
          refine ⟨_, g6, ?_⟩
          have := g2.2 j v hj
          rw [List.getD_eq_getElem?_getD, List.getElem?_eq_getElem hjlt] at this
          exact this
        have key := R.sl (x := x) rows a cap (P.cellsOf e) (fun k => (x.w.cell? (a.add k)).getD undef) (by omega) hc ?_ ?_ ?_ ?_
        · rw [hrl] at key
          exact ⟨[.sl rows], ⟨rows, rfl, fun r hr => by obtain ⟨i, hi⟩ := List.getElem?_of_mem hr; exact (hrows i r hi).1⟩, one key⟩
        · intro hne
          cases hrr : rows with
          | nil => exact (hne hrr).elim
          | cons r0 rs =>
            obtain ⟨_, ci, g1, g2⟩ := hrows 0 r0 (by rw [hrr]; rfl)
            · obtain ⟨_, g4, g5⟩ := World.cells?_some g1
              have g6 := g5 0 (by omega)
              rw [List.getElem?_eq_getElem (by omega), Addr.add_add] at g6
              have hlt : (a.add (0 * P.cellsOf e + 0)).block < x.w.heap.size := by
                unfold World.cell? at g6
                split at g6
                · rename_i hh
                  exact (Array.getElem?_eq_some_iff.1 hh).1
                · cases g6
              exact hZ _ (by simpa [Addr.add] using hlt)
        · intro r hr
          obtain ⟨i, hi⟩ := List.getElem?_of_mem hr
          obtain ⟨_, ci, g1, g2⟩ := hrows i r hi
          rw [g2.1]
          exact (World.cells?_some g1).2.1
        · intro r row j v hr hj
          obtain ⟨c, g1, _⟩ := hcell r row j v hr hj
          rw [g1]; rfl
        · intro r row j v hr hj
          obtain ⟨c, g1, g2⟩ := hcell r row j v hr hj
          simp only [g1, Option.getD_some]
          exact g2
    · rename_i fs ht
      simp only [Bool.and_eq_true] at hok
      obtain ⟨xs, m, _, _, hl, hxl, hf⟩ := DataW.trod_struct ht hy
      have hfs : ∀ f ∈ fs.toList, ∃ z, DataW.trod enc P x.w base spare held m f.type ((cs.drop f.offset).take (P.cellsOf f.type)) = some z := by
        intro f hm
        obtain ⟨i, hi⟩ := List.getElem?_of_mem hm
        have hi' : fs[i]? = some f := by simpa using hi
        have hlt : i < xs.length := by
          have := (Array.getElem?_eq_some_iff.1 hi').1
          omega
        exact ⟨xs[i], by rw [hf i f hi', List.getElem?_eq_getElem hlt]⟩
      have hok' := List.all_eq_true.1 hok.1
      have main : ∀ (l : List Field) (off : Nat), (∀ f ∈ l, f ∈ fs.toList) → tile P (P.cellsOf t) off l = true → off ≤ cs.length → ∃ vs, ShpL (Shp P n) l vs ∧ RC x vs (cs.drop off) := by
        intro l
        induction l with
        | nil =>
          intro off _ htl hle
          simp only [tile, decide_eq_true_eq] at htl
          refine ⟨[], rfl, ?_⟩
          rw [List.drop_of_length_le (by omega)]
          exact ⟨rfl, fun j v hj => by simp at hj⟩
        | cons f r ihr =>
          intro off hsub htl hle
          simp only [tile, Bool.and_eq_true, decide_eq_true_eq] at htl
          obtain ⟨z, hz⟩ := hfs f (hsub f (List.mem_cons_self ..))
          obtain ⟨va, g1, g2⟩ := ih f.type (hok' f (hsub f (List.mem_cons_self ..))) _ _ _ hz
          have hoff : off + P.cellsOf f.type ≤ cs.length := by
            rw [hl]
            have : ∀ (l : List Field) (o : Nat), tile P (P.cellsOf t) o l = true → o ≤ P.cellsOf t := by
              intro l
              induction l with
              | nil => intro o h; simp only [tile, decide_eq_true_eq] at h; omega
              | cons f r ih => intro o h; simp only [tile, Bool.and_eq_true, decide_eq_true_eq] at h; have := ih _ h.2; omega
            exact this _ _ htl.2
          obtain ⟨vb, g3, g4⟩ := ihr (off + P.cellsOf f.type) (fun q hq => hsub q (List.mem_cons_of_mem _ hq)) htl.2 hoff
          refine ⟨va ++ vb, ⟨va, vb, rfl, g1, g3⟩, ?_⟩
          have hsplit : cs.drop off = (cs.drop off).take (P.cellsOf f.type) ++ cs.drop (off + P.cellsOf f.type) := by
            rw [← List.drop_drop, List.take_append_drop]
          rw [hsplit]
          rw [htl.1] at g2
          exact RC_append g2 g4
      obtain ⟨vs, g1, g2⟩ := main fs.toList 0 (fun _ h => h) hok.2 (Nat.zero_le _)
      exact ⟨vs, g1, by simpa using g2⟩
    · rename_i m e ht
      simp only [Bool.and_eq_true, decide_eq_true_eq] at hok
      obtain ⟨xs, f, _, _, hl, hxl, hf⟩ := DataW.trod_array ht hy
      have main : ∀ (k i : Nat), i + k = m → ∃ vs, ShpR (Shp P n e) k vs ∧ RC x vs (cs.drop (i * P.cellsOf e)) := by
        intro k
        induction k with
        | zero =>
          intro i hi
          refine ⟨[], rfl, ?_⟩
          rw [List.drop_of_length_le (by rw [hl, ← hok.2, show i = m by omega]; exact Nat.le_refl _)]
          exact ⟨rfl, fun j v hj => by simp at hj⟩
        | succ k ihk =>
          intro i hi
          have hlt : i < m := by omega
          have hz := hf i hlt
          rw [List.getElem?_eq_getElem (by omega)] at hz
          obtain ⟨va, g1, g2⟩ := ih e hok.1 _ _ _ hz
          obtain ⟨vb, g3, g4⟩ := ihk (i + 1) (by omega)
          refine ⟨va ++ vb, ⟨va, vb, rfl, g1, g3⟩, ?_⟩
          have hsplit : cs.drop (i * P.cellsOf e) = (cs.drop (i * P.cellsOf e)).take (P.cellsOf e) ++ cs.drop ((i + 1) * P.cellsOf e) := by
            rw [Nat.add_mul, Nat.one_mul, ← List.drop_drop, List.take_append_drop]
          rw [hsplit]
          exact RC_append g2 g4
      obtain ⟨vs, g1, g2⟩ := main m 0 (by omega)
      exact ⟨vs, g1, by simpa using g2⟩
    · cases hok
end
end Go.Proofs.Ytmnjchcoigbngaa

namespace Go.Proofs.Ytmnjchcoigbngaa
open Go Go.ChangeShapes Go.WideShapes Go.ChangeAt Go.RowKit
section
variable {H : Type} {enc : TypeId × Value → H} {P : Program}
theorem post_of_below {f : Func} {s : ChangeSpec} {apart fresh handsOn again : Bool} {W W' : World} {args : Array Value} {v : Value} {ds gs : List (DataW H)} {before pa pv : List MemPlace}
    (hW : DataW.Whole enc P f.params.toList s.vars apart W args.toList ds gs before)
    (hres : ∀ (b : Nat) (sp : Nat → Bool) (hd : Bool), DataW.TrodAll enc P W' b sp hd f.resultTypes.toList (v.resultList f.resultTypes.size) (s.fn H (ds ++ gs)).results [])
    (hargs : ∀ sp : Nat → Bool, (∀ p ∈ before, sp p.block = true) → DataW.TrodAll enc P W' 0 sp true f.params.toList args.toList (s.fn H (ds ++ gs)).args pa)
    (hvars : ∀ sp : Nat → Bool, (∀ p ∈ before, sp p.block = true) → DataW.TrodVars enc P W' sp s.vars (s.fn H (ds ++ gs)).vars pv)
    (hps : before = pa ++ pv) (hb : Below W.heap.size W W')
    (hok : ∀ (j : Nat) (t : TypeId) (r : Value), f.resultTypes[j]? = some t → (v.resultList f.resultTypes.size)[j]? = some r → Value.okWide P W' .any 0 t r) :
    s.post enc P f apart fresh handsOn again W args v W' := by
  have hold : ∀ p ∈ before, (fun b => decide (b < W.heap.size)) p.block = true := fun p hp => by simpa using hW.lt p hp
  refine ⟨ds, gs, before, [], pa, pv, hW, hres _ _ _, hargs _ hold, hvars _ hold, World.keptBut_mono (fun p hp => ⟨hp, ?_⟩) (hb.frame (· ∈ before)), fun _ => ?_⟩
  · rw [hps, List.mem_append] at hp
    exact Or.inr hp
  · have hlt := hW.lt
    obtain ⟨_, _, _, _, _, hz, hn⟩ := hW
    refine ⟨hok, _, _, ([] ++ pa) ++ pv, ⟨[] ++ pa, pv, trodAll_append (hargs _ (fun _ _ => rfl)) (hres _ _ _), hvars _ (fun _ _ => rfl), rfl, ?_, ?_⟩, ?_⟩
    · intro b off hp
      have hp' : MemPlace.cell b off ∈ before := by rw [hps]; simpa using hp
      rw [hb.frozen (hlt _ hp')]
      exact hz b off hp'
    · intro ha
      have := hn ha
      rw [hps] at this
      simpa using this
    · intro p hp _
      rw [hps]
      simpa using hp
theorem below_of_frame {x y : Cx} {w : World} (h : Frame x y) (hx : ∀ id, (x.H id).own = false) (hw : x.w = w) : Below w.heap.size w y.w := by
  subst hw
  exact ⟨h.os, h.tape, h.output, h.size, fun k hk => h.keep k hk fun id ho => by rw [hx id] at ho; cases ho⟩
def packV (P : Program) (t : TypeId) (vs : List V) : V := match P.underlying t with
  | some (.struct _) => .agg vs
  | some (.array _ _) => .agg vs
  | _ => vs.headD undefV
theorem RC_one {x : Cx} {vs : List V} {c : Value} (h : RC x vs [c]) : R x (vs.headD undefV) c := by
  obtain ⟨h1, h2⟩ := h
  cases vs with
  | nil => simp at h1
  | cons u l => exact h2 0 u rfl
theorem open_R {x : Cx} (hZ : ∀ b, b < x.w.heap.size → x.Z b) {n : Nat} {t : TypeId} (hok : okT P n t = true) {r : Reach} {b0 base : Nat} {spare : Nat → Bool} {held : Bool} {v : Value} {d : DataW H} {ps : List MemPlace}
    (hval : Value.okWide P x.w r b0 t v) (hd : DataW.Trod enc P x.w base spare held t v d ps) : ∃ vs, Shp P n t vs ∧ R x (packV P t vs) v := by
  obtain ⟨fuel, hf⟩ := hd
  obtain ⟨vs, h1, h2⟩ := trod_R hZ n t hok fuel _ _ hf
  refine ⟨vs, h1, ?_⟩
  unfold packV
  cases n with
  | zero => cases hok
  | succ n =>
    simp only [okT] at hok
    split at hok
    · rename_i ht
      obtain ⟨b, rfl⟩ := okWide_bool ht hval
      rw [ht]; exact RC_one h2
    · rename_i k ht
      obtain ⟨m, rfl⟩ := okWide_int ht hval
      rw [ht]; exact RC_one h2
    · rename_i ht
      obtain ⟨s, rfl⟩ := okWide_string ht hval
      rw [ht]; exact RC_one h2
    · rename_i e ht
      obtain ⟨a, l, c, rfl⟩ := okWide_slice ht hval
      rw [ht]; exact RC_one h2
    · rename_i fs ht
      obtain ⟨cs, rfl, _⟩ := okWide_struct ht hval
      rw [ht]
      refine .agg vs cs (by have := h2.1; simp [Value.cells] at this; omega) fun j u hj => ?_
      have := h2.2 j u hj
      rw [List.getD_eq_getElem?_getD] at this
      rw [Array.getD_eq_getD_getElem?, ← Array.getElem?_toList]
      exact this
    · rename_i m e ht
      have hval2 := hval
      simp only [Value.okWide, ht] at hval2
      obtain ⟨cs, rfl, _⟩ := hval2
      rw [ht]
      refine .agg vs cs (by have := h2.1; simp [Value.cells] at this; omega) fun j u hj => ?_
      have := h2.2 j u hj
      rw [List.getD_eq_getElem?_getD] at this
      rw [Array.getD_eq_getD_getElem?, ← Array.getElem?_toList]
      exact this
    · cases hok
def ShpA (P : Program) (n : Nat) : List TypeId → List V → Prop
  | [], vs => vs = []
  | t :: ts, vs => ∃ a b, vs = packV P t a :: b ∧ Shp P n t a ∧ ShpA P n ts b
theorem open_all {x : Cx} (hZ : ∀ b, b < x.w.heap.size → x.Z b) {n : Nat} {r : Reach} {b0 base : Nat} {spare : Nat → Bool} {held : Bool} : ∀ (ts : List TypeId) (vs : List Value) (ds : List (DataW H)) (ps : List MemPlace),
    (∀ t ∈ ts, okT P n t = true) → (∀ (j : Nat) t v, ts[j]? = some t → vs[j]? = some v → Value.okWide P x.w r b0 t v) → DataW.TrodAll enc P x.w base spare held ts vs ds ps →
    ∃ us, ShpA P n ts us ∧ RL x us vs
  | [], vs, ds, ps, _, _, h => by
    obtain ⟨rfl, rfl, rfl⟩ := trodAll_nil h
    exact ⟨[], rfl, rfl, fun j v hj => by simp at hj⟩
  | t :: ts, vs, ds, ps, hok, hval, h => by
    obtain ⟨v, vs1, d, ds1, a, b, rfl, rfl, rfl, h1, h2⟩ := trodAll_cons h
    obtain ⟨ws, g1, g2⟩ := open_R hZ (hok t (List.mem_cons_self ..)) (hval 0 t v rfl rfl) h1
    obtain ⟨us, g3, g4⟩ := open_all hZ ts vs1 ds1 b (fun q hq => hok q (List.mem_cons_of_mem _ hq)) (fun j q u hq hu => hval (j + 1) q u (by simpa using hq) (by simpa using hu)) h2
    refine ⟨packV P t ws :: us, ⟨ws, us, rfl, g1, g3⟩, by simp [g4.1], fun j u hj => ?_⟩
    cases j with
    | zero => simp at hj; subst hj; exact g2
    | succ j => exact g4.2 j u (by simpa using hj)
theorem trodAll_stays (hl : laidOutB P = true) {W W' : World} (hb : Below W.heap.size W W') {sp : Nat → Bool} : ∀ (ts : List TypeId) (vs : List Value) (ds : List (DataW H)) (ps : List MemPlace),
    (∀ t ∈ ts, P.readableRec t = true ∧ t < P.types.size) → DataW.TrodAll enc P W 0 (fun _ => true) true ts vs ds ps → (∀ p ∈ ps, p.block < W.heap.size) → (∀ p ∈ ps, sp p.block = true) → DataW.TrodAll enc P W' 0 sp true ts vs ds ps
  | [], vs, ds, ps, _, h, _, _ => by
    obtain ⟨rfl, rfl, rfl⟩ := trodAll_nil h
    exact h
  | t :: ts, vs, ds, ps, hr, h, hlt, hsp => by
    obtain ⟨v, vs1, d, ds1, a, b, rfl, rfl, rfl, h1, h2⟩ := trodAll_cons h
    refine ⟨a, b, WideElems.Trod_stays hl (hr t (List.mem_cons_self ..)).1 (hr t (List.mem_cons_self ..)).2 h1 (fun p hp => hb.same (hlt p (List.mem_append_left _ hp))) (fun p hp => hsp p (List.mem_append_left _ hp)),
      trodAll_stays hl hb ts vs1 ds1 b (fun q hq => hr q (List.mem_cons_of_mem _ hq)) h2 (fun p hp => hlt p (List.mem_append_right _ hp)) (fun p hp => hsp p (List.mem_append_right _ hp)), rfl⟩
theorem law_post {f : FuncId} {fn : Func} {s : ChangeSpec} {apart fresh handsOn again : Bool} {n tb : Nat} {W : World} {args : Array Value} {ds gs : List (DataW H)} {before : List MemPlace}
    (hl : laidOutB P = true) (hres : fn.resultTypes = #[tb]) (htb : P.underlying tb = some .bool) (hts : ∀ t ∈ fn.params.toList, okT P n t = true ∧ P.readableRec t = true ∧ t < P.types.size)
    (hvars : s.vars = []) (hs : s.fn H (ds ++ gs) = { results := [.lit (.bool true)], args := ds })
    (hlaw : ∀ us, ShpA P n fn.params.toList us → PureC P f us (.bool true))
    (hval : ∀ (j : Nat) t v, fn.params[j]? = some t → args[j]? = some v → Value.okWide P W .any 0 t v)
    (hW : DataW.Whole enc P fn.params.toList s.vars apart W args.toList ds gs before) :
    Calls P f args W fun e W' => ∃ v, e = .returned v ∧ s.post enc P fn apart fresh handsOn again W args v W' := by
  have hW' := hW
  obtain ⟨p, q, hA, hV, rfl, hfz, hnd⟩ := hW
  rw [hvars] at hV
  obtain ⟨rfl, rfl⟩ := trodVars_none hV
  have hlt := hW'.lt
  let x : Cx := start { w := W, Z := fun b => b < W.heap.size, σ := fun _ => 0, H := H0 } (fun b => b < W.heap.size)
  have hx : Inv x := start_ok fun b hb => hb
  obtain ⟨us, g1, g2⟩ := open_all (x := x) (fun b hb => hb) fn.params.toList args.toList ds p (fun t ht => (hts t ht).1) (fun j t v h1 h2 => hval j t v (by simpa using h1) (by simpa using h2)) hA
  have hc := (hlaw us g1 H0).2 x args.toList rfl hx g2
  rw [Array.toArray_toList] at hc
  refine Calls.mono (show Calls P f args W _ from hc) fun e W' h => ?_
  obtain ⟨c, y, rfl, rfl, h3, h4, h5, h6⟩ := h
  cases h5
  have hb : Below W.heap.size W y.w := below_of_frame h6 (fun _ => rfl) rfl
  refine ⟨_, rfl, post_of_below (pa := p) (pv := []) hW' (fun b sp hd => ?_) (fun sp hsp => ?_) (fun sp _ => ?_) (by simp) hb ?_⟩
  · rw [hs, hres]
    exact trodAll_mk1 (shut_bool htb true)
  · rw [hs]
    exact trodAll_stays hl hb _ _ _ _ (fun t ht => (hts t ht).2) hA (fun z hz => hlt z (by simpa using hz)) (fun z hz => hsp z (by simpa using hz))
  · rw [hs, hvars]; rfl
  · exact ok_one hres rfl (okWide_bool_mk htb true)
end
end Go.Proofs.Ytmnjchcoigbngaa

namespace Go.Proofs.Ytmnjchcoigbngaa
open Go
theorem rows_map {α : Type} {f : α → List V} : ∀ {rows : List (List V)}, (∀ r ∈ rows, ∃ a, r = f a) → ∃ l : List α, rows = l.map f
  | [], _ => ⟨[], rfl⟩
  | r :: rows, h => by
    obtain ⟨a, ha⟩ := h r (List.mem_cons_self ..)
    obtain ⟨l, hl⟩ := rows_map (rows := rows) fun q hq => h q (List.mem_cons_of_mem _ hq)
    exact ⟨a :: l, by rw [ha, hl]; rfl⟩
section
variable {P : Program} {n t : Nat} {vs : List V}
theorem shp_int {k : IntKind} (ht : P.underlying t = some (.int k)) (h : Shp P (n + 1) t vs) : ∃ m : Int, vs = [.int k m] := by
  simp only [Shp, ht] at h; exact h
theorem shp_bool (ht : P.underlying t = some .bool) (h : Shp P (n + 1) t vs) : ∃ b : Bool, vs = [.bool b] := by
  simp only [Shp, ht] at h; exact h
theorem shp_str (ht : P.underlying t = some .string) (h : Shp P (n + 1) t vs) : ∃ s : List UInt8, vs = [.str s] := by
  simp only [Shp, ht] at h; exact h
theorem shp_slice {e : Nat} {α : Type} {f : α → List V} (ht : P.underlying t = some (.slice e)) (he : ∀ vs, Shp P n e vs → ∃ a, vs = f a) (h : Shp P (n + 1) t vs) : ∃ l : List α, vs = [.sl (l.map f)] := by
  simp only [Shp, ht] at h
  obtain ⟨rows, rfl, hr⟩ := h
  obtain ⟨l, rfl⟩ := rows_map (f := f) fun r h => he r (hr r h)
  exact ⟨l, rfl⟩
theorem shp_step {fs : Array Field} (ht : P.underlying t = some (.struct fs)) (h : Shp P (n + 1) t vs) : ShpL (Shp P n) fs.toList vs := by
  simp only [Shp, ht] at h; exact h
theorem shpL_cons {S : TypeId → List V → Prop} {f : Field} {r : List Field} {α : Type} {c : α → List V} (hc : ∀ vs, S f.type vs → ∃ a, vs = c a) (h : ShpL S (f :: r) vs) : ∃ a us, vs = c a ++ us ∧ ShpL S r us := by
  obtain ⟨a, b, rfl, h1, h2⟩ := h
  obtain ⟨x, rfl⟩ := hc a h1
  exact ⟨x, b, rfl, h2⟩
theorem shpL_nil {S : TypeId → List V → Prop} (h : ShpL S [] vs) : vs = [] := h
theorem pack_struct {fs : Array Field} (ht : P.underlying t = some (.struct fs)) (vs : List V) : packV P t vs = .agg vs := by
  unfold packV; rw [ht]
theorem pack_array {m e : Nat} (ht : P.underlying t = some (.array m e)) (vs : List V) : packV P t vs = .agg vs := by
  unfold packV; rw [ht]
theorem shp_arr2 {e : Nat} {α : Type} {c : α → List V} (ht : P.underlying t = some (.array 2 e)) (he : ∀ vs, Shp P n e vs → ∃ a, vs = c a) (h : Shp P (n + 1) t vs) : ∃ p : α × α, vs = c p.1 ++ c p.2 := by
  simp only [Shp, ht] at h
  obtain ⟨a, b, rfl, h1, a2, b2, rfl, h2, rfl⟩ := h
  obtain ⟨x, rfl⟩ := he a h1
  obtain ⟨y, rfl⟩ := he a2 h2
  exact ⟨(x, y), by simp⟩
theorem pack_other {v : V} (ht : ∀ fs, P.underlying t ≠ some (.struct fs)) (hta : ∀ m e, P.underlying t ≠ some (.array m e)) : packV P t [v] = v := by
  unfold packV; split
  · rename_i fs h; exact (ht fs h).elim
  · rename_i m e h; exact (hta m e h).elim
  · rfl
theorem shpA_cons {ts : List TypeId} {us : List V} (h : ShpA P n (t :: ts) us) : ∃ a b, us = packV P t a :: b ∧ Shp P n t a ∧ ShpA P n ts b := h
theorem shpA_nil {us : List V} (h : ShpA P n [] us) : us = [] := h
end
theorem nstruct {d : TypeDesc} {fs : Array Field} (h : some d = some (.struct fs)) : d = .struct fs := by injection h
end Go.Proofs.Ytmnjchcoigbngaa

