/- Contracts of the functions that the law OV reaches, and the law itself, for every input; no condition. -/
import Derived.Shelf.SlSortCmp.KitK
import Derived.KernelRfl
import Derived.Test.YtngkckefanbhgaaProg
import Derived.Shelf.SlSortCmp.NoneTotal
import Derived.Test.YtngkckefanbhgaaOV1
set_option linter.unusedSimpArgs false
set_option linter.unusedVariables false
/-
  slices.SortFunc over owned memory, out of the library's contract.
-/
namespace Go.Proofs.Ytngkckefanbhgaa
open Go Go.Sort Go.Proofs Go.Shelf

/-- What holds no name is the same over a memory in which its blocks are as they were. -/
theorem R.pure_same {x y : Cx} {v : V} {c : Value} (h : R x v c) (hp : v.pure = true) (hw : ∀ b, x.Z b → y.w.heap[b]? = x.w.heap[b]?) (hz : ∀ b, x.Z b → y.Z b) : R y v c := by
  have keep : ∀ a : Addr, x.Z a.block → ∀ n, y.w.cell? (a.add n) = x.w.cell? (a.add n) := fun a ha n => by
    refine cell_of_heap ?_
    rw [addr_add_block]; exact hw _ ha
  induction h with
  | int k n => exact .int k n
  | bool b => exact .bool b
  | str s => exact .str s
  | nilsl => exact .nilsl
  | slnil => exact .slnil
  | sl rows a cap sz cs hc hm hzz hsz hcell _ ih =>
    simp only [V.pure] at hp
    refine .sl rows a cap sz cs hc hm (fun hne => hz _ (hzz hne)) hsz (fun r row j v hr hj => by rw [keep a (hzz (by intro e; subst e; simp at hr))]; exact hcell r row j v hr hj) fun r row j v hr hj => ih r row j v hr hj ?_
    exact pureL_iff.1 (pureLL_iff.1 hp row (List.mem_of_getElem? hr)) v (List.mem_of_getElem? hj)
  | ms => simp [V.pure] at hp
  | pp cells a cs hzz hcell _ ih =>
    simp only [V.pure] at hp
    exact .pp cells a cs (fun hne => hz _ (hzz hne)) (fun j v hj => by rw [keep a (hzz (by intro e; subst e; simp at hj))]; exact hcell j v hj) fun j v hj => ih j v hj (pureL_iff.1 hp v (List.mem_of_getElem? hj))
  | nilp => exact .nilp
  | mp => simp [V.pure] at hp
  | agg cells cs hs _ ih =>
    simp only [V.pure] at hp
    exact .agg cells cs hs fun j v hj => ih j v hj (pureL_iff.1 hp v (List.mem_of_getElem? hj))
  | tup vs cs hs _ ih =>
    simp only [V.pure] at hp
    exact .tup vs cs hs fun j v hj => ih j v hj (pureL_iff.1 hp v (List.mem_of_getElem? hj))
  | fn f first caps fs cs hfs hcs _ _ ih1 ih2 =>
    simp only [V.pure, Bool.and_eq_true] at hp
    exact .fn f first caps fs cs hfs hcs (fun j v hj => ih1 j v hj (pureL_iff.1 hp.1 v (List.mem_of_getElem? hj))) fun j v hj => ih2 j v hj (pureL_iff.1 hp.2 v (List.mem_of_getElem? hj))
  | raw c hh => exact .raw c hh

/-- Blocks behind. -/
theorem step_grow {x : Cx} (hx : Inv x) (os : Array Obj) : let y : Cx := { x with w := Go.Sort.grow x.w os }; Inv y ∧ Frame x y := by
  intro y
  have hp : ∀ b, b < x.w.heap.size → y.w.heap[b]? = x.w.heap[b]? := fun b hb => by
    show (x.w.heap ++ os)[b]? = _
    rw [Array.getElem?_append, if_pos hb]
  have hs : x.w.heap.size ≤ y.w.heap.size := by show _ ≤ (x.w.heap ++ os).size; simp
  have hf : Frame x y := by
    refine ⟨rfl, rfl, rfl, hs, fun b hb _ => hp b hb, fun _ h => h, fun b h => .inl h, fun id => ⟨Nat.le_refl _, fun h _ => ⟨h, rfl, rfl, rfl, fun h => ⟨rfl, ?_⟩⟩⟩, fun _ h => .inl ⟨h, rfl⟩, Nat.le_refl _⟩
    unfold rowSize; rw [hp _ (hx.lt h)]
  refine ⟨⟨fun b h => Nat.lt_of_lt_of_le (hx.zlt b h) hs, hx.zown, fun id hl => ?_, hx.inj⟩, hf⟩
  obtain ⟨cc, h1, h2, h3, h4⟩ := hx.blk id hl
  exact ⟨cc, by rw [hp _ (hx.lt hl)]; exact h1, h2, h3, fun r row j v hr hj => (h4 r row j v hr hj).frame hx hf⟩

theorem sorted_uniq {α : Type} {le : α → α → Prop} : ∀ {l m : List α}, (∀ a ∈ l, ∀ b ∈ l, le a b → le b a → a = b) → l.Perm m → l.Pairwise le → m.Pairwise le → l = m
  | [], m, _, hp, _, _ => (List.perm_nil.1 hp.symm).symm
  | a :: l, [], _, hp, _, _ => (List.cons_ne_nil _ _ (List.perm_nil.1 hp)).elim
  | a :: l, b :: m, anti, hp, h1, h2 => by
    have hb : b ∈ a :: l := hp.mem_iff.2 (List.mem_cons_self ..)
    have ha : a ∈ b :: m := hp.mem_iff.1 (List.mem_cons_self ..)
    have e : a = b := by
      rcases List.mem_cons.1 hb with e | hb'
      · exact e.symm
      · rcases List.mem_cons.1 ha with e | ha'
        · exact e
        · exact anti a (List.mem_cons_self ..) b hb ((List.pairwise_cons.1 h1).1 b hb') ((List.pairwise_cons.1 h2).1 a ha')
    subst e
    rw [sorted_uniq (fun x hx y hy => anti x (List.mem_cons_of_mem _ hx) y (List.mem_cons_of_mem _ hy)) (List.Perm.cons_inv hp) (List.pairwise_cons.1 h1).2 (List.pairwise_cons.1 h2).2]

/-- Sorted by a comparison. -/
def srt {α : Type} (cmp : α → α → Int) (l : List α) : List α := l.mergeSort fun a b => decide (¬cmp b a < 0)

theorem srt_perm {α : Type} (cmp : α → α → Int) (l : List α) : (srt cmp l).Perm l := List.mergeSort_perm l _
theorem srt_sorted {α : Type} {cmp : α → α → Int} (hO : SWO fun a b => decide (cmp a b < 0)) (l : List α) : (srt cmp l).Pairwise fun a b => ¬cmp b a < 0 := by
  have := List.pairwise_mergeSort (le := fun a b => decide (¬cmp b a < 0)) (fun a b c h1 h2 => by
    have h := hO.ntrans c b a (by simpa using h2) (by simpa using h1)
    simpa using h) (fun a b => by
    cases h : decide (cmp b a < 0) with
    | false => simp at h; simp [h]
    | true =>
      cases h' : decide (cmp a b < 0) with
      | false => simp at h'; simp [h']
      | true =>
        have := hO.trans a b a h' h
        rw [hO.irrefl a] at this; cases this) l
  exact this.imp fun h => by simpa using h

/-- What the library says of slices.SortFunc at elements of k cells. -/
def SortSpec (P : Program) (f k : Nat) : Prop := ∀ {α : Type} [Inhabited α] (enc : α → List Value) (_ : ∀ x, (enc x).length = k) (_ : ∀ x, ∀ v ∈ enc x, v.oneCell' = true) (cf : α → α → Int) (_ : SWO (ltOf cf)) (g : Nat) (cb : Array Value) (blk off cap : Nat) (d : Array α) (w : World)
    (_ : ∀ args w, (callFunc g args).run P w = .ok (.enter g args) w) (_ : CmpLays P g cb enc k cf blk off d.size w) (_ : HoldsK enc k w blk off d) (_ : blk < w.heap.size) (_ : d.size < 4611686018427387904),
    Calls P f #[.slice (some ⟨blk, off, none⟩) d.size cap, .func (.func g) #[] cb] w fun e w' =>
      e = .returned (.tuple #[]) ∧ ∃ d' n os, PermIn 0 d.size d d' ∧ SortedIn (ltOf cf) 0 d.size d' ∧ w' = sortWorldK enc k w blk off n d' os
/-- .. at no element. -/
def SortNone (P : Program) (f : Nat) : Prop := ∀ (p : Option Addr) (cap : Nat) (fv : Value) (w : World), Calls P f #[.slice p 0 cap, fv] w fun e w' => e = .returned (.tuple #[]) ∧ w' = w

theorem enters_callable {P : Program} {g : Nat} (h : callable P g) : ∀ args w, (callFunc g args).run P w = .ok (.enter g args) w := by
  obtain ⟨fn, h1, h2, h3⟩ := h
  obtain ⟨c, hc⟩ := Option.isSome_iff_exists.1 h2
  exact enters_of h1 h3 hc

theorem grown_of_frame {z y : Cx} (hf : Frame z y) (hno : ∀ id, (z.H id).own = false) : ∃ q os, y.w = grow (z.w.drewN q) os := by
  refine ⟨y.w.drawn - z.w.drawn, y.w.heap.extract z.w.heap.size y.w.heap.size, ?_⟩
  have e1 := hf.os; have e2 := hf.tape; have e3 := hf.output; have e4 := hf.drawn; have e5 := hf.size
  have e6 : y.w.heap = z.w.heap ++ y.w.heap.extract z.w.heap.size y.w.heap.size := by
    refine Array.ext_getElem? fun b => ?_
    rw [Array.getElem?_append]
    split
    · rename_i hb
      exact hf.keep b hb fun id h => by rw [hno id] at h; cases h
    · rename_i hb
      rw [Array.getElem?_extract]
      by_cases h : b < y.w.heap.size
      · rw [if_pos (by omega)]; congr 1; omega
      · rw [if_neg (by omega), Array.getElem?_eq_none (by omega)]
  have e7 : y.w.drawn = z.w.drawn + (y.w.drawn - z.w.drawn) := by omega
  unfold grow World.drewN
  cases hy : y.w with
  | mk heap tape drawn os output =>
    rw [hy] at e1 e2 e3 e6 e7
    simp only at e1 e2 e3 e6 e7 ⊢
    rw [← e6, ← e7, e1, e2, e3]

section
variable {P : Program} {α : Type} [Inhabited α] {enc : α → List Value} {k : Nat} {w : World} {blk off m : Nat} {dk : Array α} {os : Array Obj}

theorem sortWorld_other {b : Nat} (hb : b < w.heap.size) (hne : b ≠ blk) : (sortWorldK enc k w blk off m dk os).heap[b]? = w.heap[b]? := by
  unfold sortWorldK grow putRowK putRow mapBlock Sort.ahead
  simp only
  rw [Array.getElem?_append, if_pos (by simpa using hb), Array.getElem?_modify, if_neg (Ne.symm hne)]
theorem sortWorld_size : w.heap.size ≤ (sortWorldK enc k w blk off m dk os).heap.size := by
  unfold sortWorldK grow putRowK putRow mapBlock Sort.ahead
  simp
theorem sortWorld_eq {cc : Array Value} {ty : TypeId} (h : w.heap[blk]? = some (.cells cc ty (0, 0))) :
    sortWorldK enc k w blk off m dk os = grow { w.setRow blk (putCells id off (flatK enc k dk) cc) with drawn := w.drawn + m } os := by
  unfold sortWorldK putRowK putRow mapBlock Sort.ahead World.setRow
  congr 2
  refine Array.ext_getElem? fun b => ?_
  simp only [Array.getElem?_modify]
  by_cases e : blk = b
  · subst e
    simp only [if_true, h, Option.map_some, onCells]
  · simp only [if_neg e]
end

theorem nth_set_eq {α : Type} [Inhabited α] (d : Array α) (i : Nat) (h : i < d.size) : d[i]! = nth d.toList i := by
  rw [getElem!_pos d i h, ← nth_getElem (by simpa using h)]; rfl

section
variable {P : Program}

/-- A slice of the caller's own is sorted. -/
theorem CallOK_sort {f g k : Nat} (hS : SortSpec P f k) (hN : SortNone P f) (hcf : callable P f) (hcg : callable P g) {T : Type} [Inhabited T] {f0 : T → List V} {l : List T} {cmp : T → T → Int}
    (hO : SWO fun a b => decide (cmp a b < 0)) (hT : ∀ a ∈ l, ∀ b ∈ l, ¬cmp a b < 0 → ¬cmp b a < 0 → a = b)
    (hc : ∀ a ∈ l, ∀ b ∈ l, PureC P g [.agg (f0 a), .agg (f0 b)] (iV (cmp a b))) (hp : ∀ a ∈ l, pureL (f0 a) = true) (h1 : ∀ a ∈ l, (f0 a).all V.one = true) (hk : ∀ a, (f0 a).length = k)
    (hl : l.length < 4611686018427387904) {id ver ty : Nat} {lz : Bool} {H : Heap} (hH : H id = ⟨ver, true, lz, ty, k, l.map f0⟩) :
    CallOK P f [.ms id ver 0 l.length, .fn g [] []] H (.tup []) (upd H id ⟨ver, true, lz, ty, k, (srt cmp l).map f0⟩) := by
  refine ⟨hcf, fun x cs hxH hx hr => ?_⟩
  subst hxH
  obtain ⟨c0, c1, rfl⟩ : ∃ c0 c1, cs = [c0, c1] := by
    have := hr.1
    match cs with
    | [a, b] => exact ⟨a, b, rfl⟩
    | [] => simp at this
    | [_] => simp at this
    | _ :: _ :: _ :: _ => simp at this
  have r0 : R x (.ms id ver 0 l.length) c0 := hr.2 0 _ rfl
  have r1 : R x (.fn g [] []) c1 := hr.2 1 _ rfl
  cases r1 with
  | fn _ _ _ fs cb hfs hcs _ _ =>
  have hfs' : fs = #[] := Array.eq_empty_of_size_eq_zero (by simpa using hfs)
  have hcs' : cb = #[] := Array.eq_empty_of_size_eq_zero (by simpa using hcs)
  subst hfs'; subst hcs'
  cases r0 with
  | ms _ _ _ _ b n cap hv hh =>
  obtain ⟨e1, e2, e3, e4, e5, e6⟩ := hh (by rw [hH]) (by rw [hH])
  subst e1
  by_cases hne : l = []
  · subst hne
    refine (hN b cap (.func (.func g) #[] #[]) x.w).mono fun e w' h => ?_
    obtain ⟨rfl, rfl⟩ := h
    refine ⟨_, x, rfl, rfl, ?_, hx, .tup [] #[] rfl (fun j v hj => by simp at hj), Frame.refl x⟩
    funext j
    by_cases e : j = id
    · subst e; rw [upd_same, hH]; simp [srt]
    · rw [upd_ne _ _ e]
  have hpos : 0 < l.length := List.length_pos_iff.2 hne
  have ho : (x.H id).own = true := by
    rw [hH]
    cases l with
    | nil => exact (hne rfl).elim
    | cons a l => simp [Blk.own]
  obtain ⟨e7, _⟩ := e5 ho
  rw [hH] at e7
  simp only [Nat.zero_mul] at e7
  subst e7
  obtain ⟨cc, b1, b2, b3, b4⟩ := hx.blk id ho
  simp only [hH] at b1 b2 b3 b4
  rw [List.length_map] at b3
  let A : Type := { i : Nat // i < l.length }
  haveI : Inhabited A := ⟨⟨0, hpos⟩⟩
  let enc : A → List Value := fun i => (List.range k).map fun j => cc.getD (i.1 * k + j) undef
  let cf : A → A → Int := fun a b => cmp (nth l a.1) (nth l b.1)
  let d : Array A := Array.ofFn fun i : Fin l.length => (⟨i.1, i.2⟩ : A)
  have hdn : d.size = l.length := by simp [d]
  have hdi : ∀ i (h : i < l.length), d[i]! = ⟨i, h⟩ := fun i h => by
    rw [getElem!_pos d i (by rw [hdn]; exact h)]; simp [d]
  have hek : ∀ a, (enc a).length = k := fun a => by simp [enc]
  have hej : ∀ (a : A) (j : Nat), j < k → (enc a)[j]? = some (cc.getD (a.1 * k + j) undef) := fun a j hj => by simp [enc, hj]
  have hrow : ∀ i, i < l.length → (l.map f0)[i]? = some (f0 (nth l i)) := fun i hi => by rw [List.getElem?_map, nth_eq hi]; rfl
  have hRx : ∀ (a : A) (j : Nat) (v : V), (f0 (nth l a.1))[j]? = some v → R x v (cc.getD (a.1 * k + j) undef) := fun a j v hj => b4 a.1 _ j v (hrow a.1 a.2) hj
  have hcell : ∀ (a : A) (j : Nat), j < k → a.1 * k + j < cc.size := fun a j hj => by
    have : (a.1 + 1) * k ≤ l.length * k := Nat.mul_le_mul_right k a.2
    rw [Nat.add_mul, Nat.one_mul] at this
    omega
  have hO' : SWO (ltOf cf) := ⟨fun a => hO.irrefl _, fun a b c => hO.trans _ _ _, fun a b c => hO.ntrans _ _ _⟩
  have hcmp : CmpLays P g #[] enc k cf (x.σ id) 0 d.size x.w := by
    intro m os dk hdk a b
    let W := sortWorldK enc k x.w (x.σ id) 0 m dk os
    let z : Cx := start { x with w := W } x.Z
    have hz : Inv z := start_ok fun b hb => Nat.lt_of_lt_of_le (hx.zlt b hb) sortWorld_size
    have hag : ∀ a : A, R z (.agg (f0 (nth l a.1))) (.agg (enc a).toArray) := fun a => by
      refine .agg _ _ (by simp [hek, hk]) fun j v hj => ?_
      have hjk : j < k := by rw [← hk (nth l a.1)]; exact (List.getElem?_eq_some_iff.1 hj).1
      have h := hRx a j v hj
      have hg : (enc a).toArray.getD j undef = cc.getD (a.1 * k + j) undef := by
        rw [Array.getD_eq_getD_getElem?, List.getElem?_toArray, hej a j hjk]; rfl
      rw [hg]
      refine h.pure_same (y := z) (pureL_iff.1 (hp _ (nth_mem a.2)) v (List.mem_of_getElem? hj)) (fun b hb => ?_) fun _ h => h
      exact sortWorld_other (hx.zlt b hb) fun e => hx.zown b id hb ho e.symm
    have hrl : RL z [.agg (f0 (nth l a.1)), .agg (f0 (nth l b.1))] [.agg (enc a).toArray, .agg (enc b).toArray] := by
      refine ⟨rfl, fun j v hj => ?_⟩
      match j, hj with
      | 0, hj => simp at hj; subst hj; exact hag a
      | 1, hj => simp at hj; subst hj; exact hag b
    refine ((hc _ (nth_mem a.2) _ (nth_mem b.2) H0).2 z _ rfl hz hrl).mono fun e w' h => ?_
    obtain ⟨c, y, rfl, rfl, _, _, h5, h6⟩ := h
    cases h5
    obtain ⟨q, os', hq⟩ := grown_of_frame h6 fun id => rfl
    exact ⟨rfl, q, os', hq⟩
  have hsz : d.size < 4611686018427387904 := by rw [hdn]; exact hl
  have hH' : HoldsK enc k x.w (x.σ id) 0 d := by
    intro j hj
    rw [size_flatK, hdn] at hj
    have hk0 : 0 < k := Nat.pos_of_ne_zero fun e => by subst e; simp at hj
    have hdv : j / k < l.length := (Nat.div_lt_iff_lt_mul hk0).2 hj
    have hmd : j % k < k := Nat.mod_lt _ hk0
    have e : (flatK enc k d)[j]! = cc.getD j undef := by
      rw [get_flatK _ _ _ _ (by rw [hdn]; exact hj), hdi _ hdv]
      have h := hej ⟨j / k, hdv⟩ (j % k) hmd
      rw [List.getElem!_eq_getElem?_getD, h]
      simp only [Option.getD_some]
      rw [Nat.div_add_mod' j k]
    have hjc : j < cc.size := by omega
    refine ⟨?_, ?_⟩
    · rw [e, Nat.zero_add]; exact own_cell b1 hjc
    · simp [World.frozen?, b1]
  have hcall := hS enc hek (fun a v hv => by
      obtain ⟨j, hj⟩ := List.getElem?_of_mem hv
      have hjk : j < k := by rw [← hek a]; exact (List.getElem?_eq_some_iff.1 hj).1
      rw [hej a j hjk] at hj
      cases hj
      have hu : ∃ u, (f0 (nth l a.1))[j]? = some u := ⟨_, List.getElem?_eq_getElem (by rw [hk]; exact hjk)⟩
      obtain ⟨u, hu⟩ := hu
      exact (hRx a j u hu).one (List.all_eq_true.1 (h1 _ (nth_mem a.2)) u (List.mem_of_getElem? hu))) cf hO' g #[] (x.σ id) 0 cap d x.w (enters_callable hcg) hcmp hH' (hx.lt ho) hsz
  rw [hdn] at hcall
  refine hcall.mono fun e w' h => ?_
  obtain ⟨rfl, d', n', os', hP, hSo, rfl⟩ := h
  obtain ⟨p1, _, p3⟩ := hP
  rw [hdn] at p1
  have x1 : d'.extract 0 l.length = d' := by rw [← p1]; simp
  have x2 : d.extract 0 l.length = d := by rw [← hdn]; simp
  rw [x1, x2] at p3
  have hmap : d.toList.map (fun a : A => nth l a.1) = l := by
    refine nth_ext (by simp [hdn]) fun j hj => ?_
    have hj' : j < l.length := by simpa [hdn] using hj
    rw [nth_map (by simpa using hj), ← nth_set_eq d j (by rw [hdn]; exact hj'), hdi j hj']
  have hl' : d'.toList.map (fun a : A => nth l a.1) = srt cmp l := by
    have hperm : (d'.toList.map (fun a : A => nth l a.1)).Perm l := by
      have := p3.map (fun a : A => nth l a.1)
      rwa [hmap] at this
    refine sorted_uniq (le := fun a b => ¬cmp b a < 0) (fun a ha b hb h1 h2 => hT a (hperm.mem_iff.1 ha) b (hperm.mem_iff.1 hb) h2 h1) (hperm.trans (srt_perm cmp l).symm) ?_ (srt_sorted hO l)
    rw [List.pairwise_map, List.pairwise_iff_getElem]
    intro i j hi hj hij
    have h := hSo i j (Nat.zero_le _) hij (by rw [← p1]; simpa using hj)
    rw [nth_set_eq d' i (by simpa using hi), nth_set_eq d' j (by simpa using hj), ← nth_getElem hi, ← nth_getElem hj] at h
    simpa [ltOf, cf] using h
  let cc' := putCells _root_.id 0 (flatK enc k d') cc
  have hcs : cc'.size = cc.size := by simp [cc', putCells]
  have hg : ∀ r j, r < l.length → j < k → ∀ (hr : r < d'.size), cc'.getD (r * k + j) undef = cc.getD ((d'[r]'hr).1 * k + j) undef := by
    intro r j hr hj hr'
    have hb : r * k + j < l.length * k := by
      have : (r + 1) * k ≤ l.length * k := Nat.mul_le_mul_right k hr
      rw [Nat.add_mul, Nat.one_mul] at this; omega
    have hsz' : (flatK enc k d').size = l.length * k := by rw [size_flatK, p1]
    have e : cc'[r * k + j]? = some ((flatK enc k d')[r * k + j]!) := by
      simp only [cc', putCells, Array.getElem?_mapIdx]
      rw [Array.getElem?_eq_getElem (by omega)]
      simp [hsz', hb]
    rw [Array.getD_eq_getD_getElem?, e, get_flatK _ _ _ _ (by rw [p1]; exact hb)]
    have q1 : (r * k + j) / k = r := by rw [Nat.mul_comm, Nat.mul_add_div (by omega), Nat.div_eq_of_lt hj]; rfl
    have q2 : (r * k + j) % k = j := by rw [Nat.mul_comm, Nat.mul_add_mod]; exact Nat.mod_eq_of_lt hj
    rw [q1, q2, getElem!_pos d' r hr', List.getElem!_eq_getElem?_getD, hej _ j hj]
    rfl
  have hrows : ∀ (r : Nat) (row : List V) (j : Nat) (v : V), ((srt cmp l).map f0)[r]? = some row → row[j]? = some v → R x v (cc'.getD (r * k + j) undef) := by
    intro r row j v hr hj
    rw [← hl', List.map_map, List.getElem?_map] at hr
    obtain ⟨a, ha, rfl⟩ := map_some hr
    have har := List.getElem?_eq_some_iff.1 ha
    obtain ⟨hlt, hae⟩ := har
    have hlt' : r < d'.size := by simpa using hlt
    have hjk : j < k := by rw [← hk (nth l a.1)]; exact (List.getElem?_eq_some_iff.1 hj).1
    rw [hg r j (by omega) hjk hlt']
    have hae' : d'[r]'hlt' = a := by simpa using hae
    rw [hae']
    exact hRx a j v hj
  have st := step_set hx id ho cc cc' (by rw [hH]; exact b1) hcs (x.H id).ver ((srt cmp l).map f0) (Nat.le_refl _) (fun _ => by rw [hH]; simp [srt]) (by
      rw [hH]
      have : (srt cmp l).length = l.length := by simp [srt]
      cases hq : srt cmp l with
      | nil => rw [hq] at this; simp at this; omega
      | cons a q => simp) (fun r hr => by
      rw [hH]
      obtain ⟨a, _, rfl⟩ := List.mem_map.1 hr
      exact hk a) (by rw [hH]; simpa [srt] using b3) (by simp only [hH]; exact hrows)
  simp only [hH] at st
  obtain ⟨i1, f1⟩ := st
  obtain ⟨i2, f2⟩ := step_draw i1 (x.w.drawn + n') (Nat.le_add_right _ _)
  obtain ⟨i3, f3⟩ := step_grow i2 os'
  refine ⟨.tuple #[], _, rfl, ?_, ?_, i3, .tup [] #[] rfl (fun j v hj => by simp at hj), (f1.trans f2).trans f3⟩
  · rw [sortWorld_eq b1]
  · rfl
/-- .. at no element. -/
theorem CallOK_sort_nil {f g : Nat} (hN : SortNone P f) (hcf : callable P f) (H : Heap) : CallOK P f [.sl [], .fn g [] []] H (.tup []) H := by
  refine ⟨hcf, fun x cs hxH hx hr => ?_⟩
  obtain ⟨c0, c1, rfl⟩ : ∃ c0 c1, cs = [c0, c1] := by
    have := hr.1
    match cs with
    | [a, b] => exact ⟨a, b, rfl⟩
    | [] => simp at this
    | [_] => simp at this
    | _ :: _ :: _ :: _ => simp at this
  have r0 : R x (.sl []) c0 := hr.2 0 _ rfl
  obtain ⟨p, cap, rfl⟩ : ∃ p cap, c0 = .slice p 0 cap := by
    generalize hv : V.sl [] = v at r0
    cases r0 <;> cases hv
    · exact ⟨_, _, rfl⟩
    · exact ⟨_, _, rfl⟩
  refine (hN p cap c1 x.w).mono fun e w' h => ?_
  obtain ⟨rfl, rfl⟩ := h
  exact ⟨_, x, rfl, rfl, hxH, hx, .tup [] #[] rfl (fun j v hj => by simp at hj), Frame.refl x⟩
end

end Go.Proofs.Ytngkckefanbhgaa

/-
  Sorted traces: neighbours suffice.
-/
namespace Go.Proofs.Ytngkckefanbhgaa
open Go Go.Sort

theorem lexI_le {a b : List Int} : ¬lexI a b < 0 ↔ lexI b a ≤ 0 := by
  constructor
  · intro h
    by_cases e : lexI a b = 0
    · rw [lexI_zero.2 (lexI_zero.1 e).symm]; omega
    · have := lexI_pos (a := a) (b := b) (by omega); omega
  · intro h g
    have := lexI_neg g; omega
theorem lexI_tr {a b c : List Int} (h1 : lexI a b ≤ 0) (h2 : lexI b c ≤ 0) : lexI a c ≤ 0 := by
  by_cases e1 : lexI a b = 0
  · rw [lexI_zero.1 e1]; exact h2
  · by_cases e2 : lexI b c = 0
    · rw [← lexI_zero.1 e2]; exact h1
    · have := lexI_trans (a := a) (b := b) (c := c) (by omega) (by omega); omega
def lexT (a b : Tr) : Int := lexI a.ni b.ni
theorem lexT_swo : SWO fun a b : Tr => decide (lexT a b < 0) where
  irrefl a := decide_eq_false (by rw [lexT, lexI_zero.2 rfl]; omega)
  trans a b c h1 h2 := decide_eq_true (lexI_trans (of_decide_eq_true h1) (of_decide_eq_true h2))
  ntrans a b c h1 h2 := decide_eq_false (lexI_le.2 (lexI_tr (lexI_le.1 (of_decide_eq_false h2)) (lexI_le.1 (of_decide_eq_false h1))))
theorem lexT_anti {a b : Tr} (h1 : ¬lexT a b < 0) (h2 : ¬lexT b a < 0) : a.ni = b.ni := by
  have q1 : ¬lexI a.ni b.ni < 0 := h1
  have q2 : lexI a.ni b.ni ≤ 0 := lexI_le.1 h2
  exact lexI_zero.1 (by omega)
theorem srt_len {α : Type} (cmp : α → α → Int) (l : List α) : (srt cmp l).length = l.length := by simp [srt]

/-- Neighbours that are no good. -/
def nbB (L : List Tr) (k : Nat) : Bool := hp (nth L k).ni (nth L (k - 1)).ni || decide (0 ≤ df (nth L (k - 1)) (nth L k))
def nbE (L : List Tr) (k : Nat) : Int := if nbB L k = true then 1 else 0
def fitB (l : List Tr) : Bool := decide (fe (nbE (srt lexT l)) 1 ((srt lexT l).length - 1) = 0)

theorem OK.lt_of {o : Ob} (h : ∀ k, k + 1 < o.tr.length → slx (nth o.tr k).ni (nth o.tr (k + 1)).ni < 0) : ∀ {i k : Nat}, i < k → k < o.tr.length → slx (nth o.tr i).ni (nth o.tr k).ni < 0 := by
  intro i k hik hk
  induction k with
  | zero => omega
  | succ k ih =>
    by_cases e : i = k
    · subst e; exact h i hk
    · exact slx_trans (ih (by omega) (by omega)) (h k hk)

/-- Words between two others share what these share. -/
theorem lex_between {a b c : List Int} (h1 : lexI a b ≤ 0) (h2 : lexI b c ≤ 0) : cmn a c ≤ cmn a b ∧ cmn a c ≤ cmn b c := by
  have s1 := cmn_spec a b
  have s2 := cmn_spec b c
  have s3 := cmn_spec a c
  have m := cmn_min (a := a) (b := c) (c := b)
  have m2 := cmn_min (a := b) (b := a) (c := c)
  have e1 := cmn_comm c b
  have e2 := cmn_comm b a
  have key : cmn a c ≤ cmn a b := by
    by_cases g : cmn a c ≤ cmn a b
    · exact g
    · exfalso
      have hlt : cmn a b < cmn a c := by omega
      have hbc : cmn b c = cmn a b := by
        rw [cmn_comm b c]
        refine cmn_at ?_ ?_
        · have := cmn_min (a := c) (b := a) (c := b); rw [cmn_comm c a] at this; omega
        · by_cases q : b.length ≤ cmn a b
          · exact .inr (.inl q)
          · refine .inr (.inr ?_)
            rw [← s3.2.2.1 _ hlt]
            exact s1.2.2.2 (by omega) (by omega)
      unfold lexI at h1 h2
      rw [hbc] at h2
      have hca := s3.2.2.1 _ hlt
      by_cases q : cmn a b = b.length
      · rw [if_neg (by omega), if_neg (by omega)] at h1; omega
      · have hne := s1.2.2.2 (by omega) (by omega)
        rw [if_neg (by omega)] at h1
        rw [if_neg (by omega)] at h2
        split at h1
        · rename_i g1
          split at h2
          · rename_i g2
            rw [hca] at g1; omega
          · omega
        · omega
  have m3 := cmn_min (a := b) (b := a) (c := c)
  exact ⟨key, by omega⟩

theorem sorted_at {L : List Tr} (h : L.Pairwise fun a b => ¬lexT b a < 0) {i j : Nat} (hij : i < j) (hj : j < L.length) : lexI (nth L i).ni (nth L j).ni ≤ 0 := by
  have := List.pairwise_iff_getElem.1 h i j (by omega) hj hij
  rw [nth_getElem (k := i) (by omega), nth_getElem (k := j) hj] at this
  exact lexI_le.1 this

/-- Where no neighbours are bad, no two are. -/
theorem fit_all {L : List Tr} (hs : L.Pairwise fun a b => ¬lexT b a < 0) (hn : fe (nbE L) 1 (L.length - 1) = 0) {i j : Nat} (hij : i < j) (hj : j < L.length) :
    hp (nth L j).ni (nth L i).ni = false ∧ df (nth L i) (nth L j) < 0 := by
  have nb : ∀ k, 1 ≤ k → k < L.length → hp (nth L k).ni (nth L (k - 1)).ni = false ∧ df (nth L (k - 1)) (nth L k) < 0 := by
    intro k h1 h2
    have := fe_zero_iff.1 hn k h1 (by omega)
    unfold nbE at this
    split at this
    · cases this
    · rename_i g
      simp only [nbB, Bool.or_eq_true, not_or, decide_eq_true_eq] at g
      exact ⟨by simpa using g.1, by omega⟩
  have mono : ∀ a b, a ≤ b → b < L.length → lexI (nth L a).ni (nth L b).ni ≤ 0 := by
    intro a b h1 h2
    by_cases e : a = b
    · subst e; rw [lexI_zero.2 rfl]; omega
    · exact sorted_at hs (by omega) h2
  have share : ∀ a b, i ≤ a → a ≤ b → b ≤ j → cmn (nth L i).ni (nth L j).ni ≤ cmn (nth L a).ni (nth L b).ni := by
    intro a b h1 h2 h3
    have q1 := (lex_between (mono i a h1 (by omega)) (mono a j (by omega) hj)).2
    have q2 := (lex_between (mono a b h2 (by omega)) (mono b j h3 hj)).1
    omega
  constructor
  · by_cases e : hp (nth L j).ni (nth L i).ni = true
    · exfalso
      have h1 : cmn (nth L i).ni (nth L j).ni = (nth L i).ni.length := by rw [cmn_comm]; simpa [hp] using e
      have h2 := share i (i + 1) (Nat.le_refl _) (by omega) (by omega)
      have h3 := cmn_l (nth L i).ni (nth L (i + 1)).ni
      have h4 := (nb (i + 1) (by omega) (by omega)).1
      simp only [Nat.add_sub_cancel] at h4
      rw [hp, cmn_comm] at h4
      simp at h4
      omega
    · simpa using e
  · by_cases e : df (nth L i) (nth L j) < 0
    · exact e
    · exfalso
      obtain ⟨p, hp1, hp2⟩ := df_iff.1 (show 0 ≤ df (nth L i) (nth L j) by omega)
      have same : ∀ d, i + d ≤ j → nth (nth L i).no p = nth (nth L (i + d)).no p := by
        intro d
        induction d with
        | zero => intro _; rfl
        | succ d ih =>
          intro hd
          rw [ih (by omega)]
          have h4 := (nb (i + (d + 1)) (by omega) (by omega)).2
          rw [show i + (d + 1) - 1 = i + d by omega] at h4
          have h2 := share (i + d) (i + (d + 1)) (by omega) (by omega) (by omega)
          by_cases q : nth (nth L (i + d)).no p = nth (nth L (i + (d + 1))).no p
          · exact q
          · have := df_iff.2 ⟨p, by omega, q⟩
            omega
      exact hp2 (by have := same (j - i) (by omega); rwa [show i + (j - i) = j by omega] at this)

theorem fit_ap {o : Ob} (hlt : ∀ k, k + 1 < o.tr.length → slx (nth o.tr k).ni (nth o.tr (k + 1)).ni < 0) (h : fitB o.tr = true) : fe (apE o) 0 o.tr.length = 0 := by
  have h := of_decide_eq_true h
  refine fe_zero_iff.2 fun i _ hi => ?_
  have hs := srt_sorted lexT_swo o.tr
  have hpm := srt_perm lexT o.tr
  -- any two different traces stand at two places of the sorted list
  have place : ∀ a b : Nat, a < b → b < o.tr.length → ∃ p q, p < (srt lexT o.tr).length ∧ q < (srt lexT o.tr).length ∧ p ≠ q ∧ nth (srt lexT o.tr) p = nth o.tr a ∧ nth (srt lexT o.tr) q = nth o.tr b := by
    intro a b hab hb
    obtain ⟨p, hp, ep⟩ := mem_nth (hpm.mem_iff.2 (nth_mem (l := o.tr) (j := a) (by omega)))
    obtain ⟨q, hq, eq⟩ := mem_nth (hpm.mem_iff.2 (nth_mem (l := o.tr) (j := b) hb))
    refine ⟨p, q, hp, hq, fun e => ?_, ep, eq⟩
    subst e
    rw [ep] at eq
    have := OK.lt_of hlt hab hb
    rw [eq, slx_zero.2 rfl] at this; omega
  have none : ∀ b, i < b → b < o.tr.length → preB o i b = false ∧ claB o i b = false := by
    intro b hib hb
    obtain ⟨p, q, hp, hq, hpq, ep, eq⟩ := place i b hib hb
    by_cases hlt' : p < q
    · obtain ⟨g1, g2⟩ := fit_all hs h hlt' hq
      rw [ep, eq] at g1 g2
      exact ⟨g1, by simp only [claB, decide_eq_false_iff_not]; omega⟩
    · obtain ⟨g1, g2⟩ := fit_all hs h (show q < p by omega) hp
      rw [ep, eq] at g1 g2
      refine ⟨?_, by simp only [claB, decide_eq_false_iff_not]; rw [df_comm]; omega⟩
      by_cases e : preB o i b = true
      · -- the later one begins with the earlier one: then it stands behind it in dictionary order, too
        have h5 : Go.Proofs.Ytngkckefanbhgaa.hp (nth o.tr b).ni (nth o.tr i).ni = true := e
        have h6 : cmn (nth o.tr i).ni (nth o.tr b).ni = (nth o.tr i).ni.length := by rw [cmn_comm]; simpa [Go.Proofs.Ytngkckefanbhgaa.hp] using h5
        have h7 := sorted_at hs (show q < p by omega) hp
        rw [ep, eq] at h7
        have h8 := OK.lt_of hlt hib hb
        unfold lexI at h7
        have h9 := cmn_comm (nth o.tr b).ni (nth o.tr i).ni
        have h10 := cmn_r (nth o.tr i).ni (nth o.tr b).ni
        by_cases h11 : (nth o.tr i).ni.length = (nth o.tr b).ni.length
        · have := eq_of_cmn h6 (by omega)
          rw [this, slx_zero.2 rfl] at h8; omega
        · rw [if_neg (by omega), if_neg (by omega)] at h7; omega
      · simpa using e
  unfold apE
  rw [if_neg, if_neg]
  · rw [exB_iff]
    rintro ⟨j, h1, h2⟩
    have := (none (i + 1 + j) (by omega) (by omega)).2
    rw [this] at h2; cases h2
  · rw [exB_iff]
    rintro ⟨j, h1, h2⟩
    have := (none (i + 1 + j) (by omega) (by omega)).1
    rw [this] at h2; cases h2

theorem out_fe (t : Tr) : ∀ (n k : Nat), (0 ≤ fi (fun j => decide (nth t.no j < 0 ∨ 1048576 < nth t.no j)) k n ↔ fe (outE t) k n = 2) ∧ (fe (outE t) k n = 0 ∨ fe (outE t) k n = 2)
  | 0, k => by simp [fi, fe]
  | n + 1, k => by
    simp only [fi, fe, outE]
    by_cases h : nth t.no k < 0 ∨ 1048576 < nth t.no k
    · simp [h]
    · simp only [h, decide_false, if_false, if_true]
      simpa using out_fe t n (k + 1)

theorem tr_inj {o : Ob} (h : ∀ k, k + 1 < o.tr.length → slx (nth o.tr k).ni (nth o.tr (k + 1)).ni < 0) : ∀ a ∈ o.tr, ∀ b ∈ o.tr, a.ni = b.ni → a = b := by
  intro a ha b hb e
  obtain ⟨i, hi, rfl⟩ := mem_nth ha
  obtain ⟨j, hj, rfl⟩ := mem_nth hb
  by_cases g : i = j
  · subst g; rfl
  · exfalso
    by_cases g' : i < j
    · have := OK.lt_of h g' hj; rw [e, slx_zero.2 rfl] at this; omega
    · have := OK.lt_of h (show j < i by omega) hi; rw [e, slx_zero.2 rfl] at this; omega
theorem fi_exB {α : Type} [Inhabited α] {p : α → Bool} {l : List α} {m : Nat} : 0 ≤ fi (fun j => p (nth (l.drop m) j)) 0 (l.drop m).length ↔ exB (fun i => p (nth l i)) m (l.length - m) = true := by
  rw [fi_iff, exB_iff]
  simp only [List.length_drop, nth_dropn]
  constructor
  · rintro ⟨j, _, h2, h3⟩; exact ⟨j, by omega, h3⟩
  · rintro ⟨j, h2, h3⟩; exact ⟨j, by omega, by omega, h3⟩

/-- What the program's comparison of two traces says. -/
theorem df_prog {a b : Tr} (ha : a.no.length = a.ni.length) (hb : b.no.length = b.ni.length) :
    (if cmn (a.no.take (cmn a.ni b.ni)) (b.no.take (cmn a.ni b.ni)) < cmn a.ni b.ni then ((cmn (a.no.take (cmn a.ni b.ni)) (b.no.take (cmn a.ni b.ni)) : Nat) : Int) else -1) = df a b := by
  have h1 := cmn_l a.ni b.ni
  have h2 := cmn_r a.ni b.ni
  generalize hn : cmn a.ni b.ni = n at *
  have s := cmn_spec (a.no.take n) (b.no.take n)
  have la : (a.no.take n).length = n := by simp; omega
  have lb : (b.no.take n).length = n := by simp; omega
  generalize hc : cmn (a.no.take n) (b.no.take n) = c at *
  unfold df
  rw [hn]
  by_cases g : c < n
  · rw [if_pos g]
    have hd : dfE a b c = true := by
      have := s.2.2.2 (by omega) (by omega)
      rw [nth_take g, nth_take g] at this
      simpa [dfE] using this
    have hz : ∀ j, j < c → dfE a b j = false := fun j hj => by
      have := s.2.2.1 j hj
      rw [nth_take (by omega), nth_take (by omega)] at this
      simpa [dfE] using this
    have h0 : 0 ≤ fi (dfE a b) 0 n := fi_iff.2 ⟨c, by omega, by omega, hd⟩
    obtain ⟨_, q2, q3, q4⟩ := fi_val h0
    by_cases e : (fi (dfE a b) 0 n).toNat = c
    · omega
    · by_cases e' : (fi (dfE a b) 0 n).toNat < c
      · rw [hz _ e'] at q3; cases q3
      · have := q4 c (by omega) (by omega); rw [hd] at this; cases this
  · rw [if_neg g]
    by_cases h0 : 0 ≤ fi (dfE a b) 0 n
    · exfalso
      obtain ⟨_, q2, q3, q4⟩ := fi_val h0
      have := s.2.2.1 (fi (dfE a b) 0 n).toNat (by omega)
      rw [nth_take (by omega), nth_take (by omega)] at this
      simp [dfE, this] at q3
    · have : ∀ {p : Nat → Bool} {m k : Nat}, ¬0 ≤ fi p k m → fi p k m = -1 := by
        intro p m
        induction m with
        | zero => intro k _; rfl
        | succ m ih =>
          intro k hk
          simp only [fi] at hk ⊢
          split at hk
          · omega
          · rename_i hh; rw [if_neg hh]; exact ih hk
      rw [this h0]

theorem ansL_miss {w : List Int} : ∀ {l : List Tr}, fi (fun j => (fun t : Tr => hp t.ni w) (nth l j)) 0 l.length < 0 → ansL l w = none := by
  intro l h
  cases hq : ansL l w with
  | none => rfl
  | some x =>
    exfalso
    obtain ⟨t, ht, h2, _⟩ := ansL_some hq
    obtain ⟨j, hj, rfl⟩ := mem_nth ht
    have := (fi_iff (p := fun j => (fun t : Tr => hp t.ni w) (nth l j)) (n := l.length) (k := 0)).2 ⟨j, by omega, by omega, h2⟩
    omega
theorem ansL_first {w : List Int} : ∀ {l : List Tr} {k : Nat}, k < l.length → hp (nth l k).ni w = true → (∀ j, j < k → hp (nth l j).ni w = false) → ansL l w = some ((nth l k).no.take w.length)
  | [], k, h, _, _ => by simp at h
  | t :: l, 0, _, h2, _ => by simp only [ansL]; rw [if_pos (show hp t.ni w = true from h2)]; rfl
  | t :: l, k + 1, h1, h2, h3 => by
    simp only [ansL]
    rw [if_neg (by have := h3 0 (by omega); simpa [nth_zero] using this)]
    exact ansL_first (by simpa using h1) h2 fun j hj => h3 (j + 1) (by omega)
theorem ansL_hit {w : List Int} {l : List Tr} (h : 0 ≤ fi (fun j => (fun t : Tr => hp t.ni w) (nth l j)) 0 l.length) :
    (fi (fun j => (fun t : Tr => hp t.ni w) (nth l j)) 0 l.length).toNat < l.length ∧ hp (nth l (fi (fun j => (fun t : Tr => hp t.ni w) (nth l j)) 0 l.length).toNat).ni w = true ∧
    ansL l w = some ((nth l (fi (fun j => (fun t : Tr => hp t.ni w) (nth l j)) 0 l.length).toNat).no.take w.length) := by
  obtain ⟨h1, h2, h3, h4⟩ := fi_val h
  exact ⟨by omega, h3, ansL_first (by omega) h3 fun j hj => h4 j (Nat.zero_le _) hj⟩

theorem outs_take (m : M) : ∀ (w : List Int) (s : Int) (k : Nat), outs m s (w.take k) = (outs m s w).take k
  | [], s, k => by simp [outs]
  | a :: w, s, 0 => by simp [outs]
  | a :: w, s, k + 1 => by simp [outs, outs_take m w]
/-- What all hypotheses say of traces of proper form. -/
theorem run_proper {h : Hy} {o : Ob} (hv : hval h = 0) (ho : oval o = 0) (hi : h.m.i = o.i) {t : Tr} (ht : t ∈ o.tr) (k : Nat) : frE h.m h.m.s (t.ni.take k) = 0 ∧ frOut h.m h.m.s (t.ni.take k) = (outs h.m h.m.s t.ni).take k := by
  have h1 := (hval_ok hv).1
  have h2 := mval_ok h1
  have h3 := ((oval_ok ho).mem ht).1
  have hl3 := h3.lel
  have hz : wchk (t.ni.take k) h.m.i = 0 := by
    refine wchk_zero (by omega) (by simp; omega) ?_
    intro j hj
    have hj2 : j < k ∧ j < t.ni.length := by
      rw [List.length_take] at hj
      omega
    rw [nth_take hj2.1, hi]
    exact h3.sym j hj2.2
  refine ⟨by rw [frE_val h1]; exact hz, ?_⟩
  rw [(frE_ok h1 hz).2.1, outs_take]
theorem agree_ok {h : Hy} {o : Ob} (hv : hval h = 0) (ho : oval o = 0) (hi : h.m.i = o.i) (hf : rfs h o.tr = []) {k : Nat} (hk : k < o.tr.length) : frE h.m h.m.s (nth o.tr k).ni = 0 ∧ frOut h.m h.m.s (nth o.tr k).ni = (nth o.tr k).no := by
  have ht := nth_mem hk
  obtain ⟨h1, h2⟩ := run_proper hv ho hi ht (nth o.tr k).ni.length
  rw [List.take_length] at h1 h2
  refine ⟨h1, ?_⟩
  have hl := ((oval_ok ho).mem ht).1.len
  have ho' := outs_len h.m (nth o.tr k).ni h.m.s
  rw [h2, ← ho', List.take_length]
  have hn : rf1 h (nth o.tr k) = [] := by
    cases hq : rf1 h (nth o.tr k) with
    | nil => rfl
    | cons x l =>
      have : x ∈ rfs h o.tr := by simp only [rfs, List.mem_flatMap]; exact ⟨_, ht, by rw [hq]; exact List.mem_cons_self ..⟩
      rw [hf] at this; cases this
  unfold rf1 at hn
  split at hn
  · cases hn
  · rename_i g
    have := cmn_l (outs h.m h.m.s (nth o.tr k).ni) (nth o.tr k).no
    exact eq_of_cmn (by omega) (by omega)
theorem counter_ok {h : Hy} {o : Ob} (hv : hval h = 0) (ho : oval o = 0) (hi : h.m.i = o.i) (hne : rfs h o.tr ≠ []) :
    ∃ n : Nat, n < 1024 ∧ (least (rfs h o.tr)).length = n + 1 ∧ (ans o (least (rfs h o.tr))).isSome = true ∧ frE h.m h.m.s (least (rfs h o.tr)) = 0 ∧ ((ans o (least (rfs h o.tr))).getD []).length = n + 1 ∧ (frOut h.m h.m.s (least (rfs h o.tr))).length = n + 1 ∧
      ((ans o (least (rfs h o.tr))).getD []).take n = (frOut h.m h.m.s (least (rfs h o.tr))).take n ∧ nth ((ans o (least (rfs h o.tr))).getD []) n ≠ nth (frOut h.m h.m.s (least (rfs h o.tr))) n := by
  have ok := oval_ok ho
  obtain ⟨t, ht, e, hc⟩ := rfs_mem (least_mem hne)
  generalize least (rfs h o.tr) = w at *
  have hl := (ok.mem ht).1.len
  have hol := outs_len h.m t.ni h.m.s
  have sp := cmn_spec (outs h.m h.m.s t.ni) t.no
  generalize hcn : cmn (outs h.m h.m.s t.ni) t.no = n at *
  have hwl : w.length = n + 1 := by rw [e]; simp; omega
  obtain ⟨r1, r2⟩ := run_proper hv ho hi ht (n + 1)
  rw [← e] at r1 r2
  have hpw : hp t.ni w = true := by rw [e]; exact hp_take (by omega)
  have hne' : w ≠ [] := by intro e'; rw [e'] at hwl; simp at hwl
  have hans : ∃ x, ans o w = some x := by
    cases hq : ans o w with
    | some x => exact ⟨x, rfl⟩
    | none =>
      exfalso
      unfold ans at hq
      rw [if_neg hne'] at hq
      have := ansL_none hq t ht
      rw [hpw] at this; cases this
  obtain ⟨x, hx⟩ := hans
  have hx' := hx
  unfold ans at hx'
  rw [if_neg hne'] at hx'
  obtain ⟨s, hs, h2, hxe⟩ := ansL_some hx'
  have hsame : ∀ j, j < n + 1 → nth x j = nth t.no j := fun j hj => by
    rw [hxe, nth_take (by omega)]
    refine ok.same hs ht ?_
    have := cmn_of_pre h2 hpw
    omega
  have hxl : x.length = n + 1 := by
    have := ans_len ok (w := w) (by rw [hx]; rfl)
    rw [hx] at this; simpa [hwl] using this
  have hyl : (frOut h.m h.m.s w).length = n + 1 := by rw [r2]; simp; omega
  have hlel := (ok.mem ht).1.lel
  refine ⟨n, by omega, hwl, by rw [hx]; rfl, r1, by rw [hx]; exact hxl, hyl, ?_, ?_⟩
  · rw [hx]
    refine nth_ext (by simp; omega) fun j hj => ?_
    have hj' : j < n := by simp [hxl] at hj; omega
    simp only [Option.getD_some]
    rw [nth_take hj', nth_take hj', hsame j (by omega), r2, nth_take (by omega)]
    exact (sp.2.2.1 j hj').symm
  · rw [hx]
    simp only [Option.getD_some]
    rw [hsame n (by omega), r2, nth_take (by omega)]
    exact fun e' => sp.2.2.2 (by omega) (by omega) e'.symm

end Go.Proofs.Ytngkckefanbhgaa

namespace Go.Proofs.Ytngkckefanbhgaa
open Go Go.Proofs

theorem proper_pure (t : Tr) (n : Int) : PureC Try.prog 78 [(V.agg [(V.sl (List.map cI (t.ni))), (V.sl (List.map cI (t.no)))]), (iV (n))] (iV (prE t n)) := by
 refine pure_of_Wb true 6 Try.func78 s78_ok (by kernel_rfl) (by simp [s78]) (by simp) (by simp) fun hB => ?_
 simp only [bnd_map, bnd_int, bnd_bool, bnd_str, bnd_agg, bnd_pp, bnd_nil, bnd_cons, implies_true, and_true, true_and] at hB
 unfold s78
 dsimp only
 refine W_seq_regc (fun T H => T 1 = (iV (n)) ∧ T 2 = (V.mp 2 1 0 0) ∧ H 2 = (⟨1, true, false, 63, 2, [[(V.sl (List.map cI (t.ni))), (V.sl (List.map cI (t.no)))]]⟩ : Blk) ∧ True) ?_ ?_
 ·
  unfold r78_0
  refine R_box (i := 2) (n := 0) (m := 2) (cs := [(V.sl (List.map cI (t.ni))), (V.sl (List.map cI (t.no)))]) rfl (congrArg Blk.ver rfl) (@rfl V (V.agg [(V.sl (List.map cI (t.ni))), (V.sl (List.map cI (t.no)))])) rfl rfl ?_
  refine R_mv (@rfl V (iV (0 : Int))) ?_
  exact R_nil ⟨rfl, rfl, rfl, trivial⟩
 intro T H ⟨t1, t2, h2, _⟩
 refine W_seq_seq ?_
 refine W_seq_regc (fun T H => T 2 = (V.mp 2 1 0 0) ∧ T 5 = (iV (wchk t.ni ((n)))) ∧ H 2 = (⟨1, true, false, 63, 2, [[(V.sl (List.map cI (t.ni))), (V.sl (List.map cI (t.no)))]]⟩ : Blk) ∧ True) ?_ ?_
 ·
  unfold r78_1
  refine R_fld_mp (o' := 0) t2 h2 (by first | rfl | simp [okB, Blk.own]) rfl ?_
  refine R_load_mp (v := (V.sl (List.map cI (t.ni)))) (@rfl V (V.mp 2 1 0 0)) h2 (by first | rfl | simp [ldB, ldV, Blk.own, V.one]) ?_
  refine R_mv t1 ?_
  refine R_call (evcons (@rfl V (V.sl (List.map cI (t.ni)))) (evcons (@rfl V (iV (n))) evnil)) (check_pure t.ni ((n))) (fzv_mapcanon _ _ (by simp [-List.map_take, -List.map_drop, -List.map_append, -List.map_reverse])) (by simp [-List.map_take, -List.map_drop, -List.map_append, -List.map_reverse]) (Or.inl (by simp [-List.map_take, -List.map_drop, -List.map_append, -List.map_reverse])) ?_
  refine R_mv (@rfl V (iV (wchk t.ni ((n))))) ?_
  exact R_nil ⟨t2, rfl, h2, trivial⟩
 intro T H ⟨t2, t5, h2, _⟩
 refine W_seq_seq ?_
 refine W_seq_regc (fun T H => T 2 = (V.mp 2 1 0 0) ∧ T 5 = (iV (wchk t.ni ((n)))) ∧ T 11 = (V.bool (decide ((wchk t.ni ((n))) ≠ (0 : Int)))) ∧ H 2 = (⟨1, true, false, 63, 2, [[(V.sl (List.map cI (t.ni))), (V.sl (List.map cI (t.no)))]]⟩ : Blk) ∧ True) ?_ ?_
 ·
  unfold r78_2
  refine R_mv t5 ?_
  refine R_neq (x := (wchk t.ni ((n)))) (y := (0 : Int)) (@rfl V (iV (wchk t.ni ((n))))) (@rfl V (iV (0 : Int))) ?_
  exact R_nil ⟨t2, t5, rfl, h2, trivial⟩
 intro T H ⟨t2, t5, t11, h2, _⟩
 refine W_seq_if (p := (wchk t.ni ((n))) ≠ (0 : Int)) t11 (fun c1 => ?_) (fun c1 => ?_)
 ·
  refine W_seq_seq ?_
  refine W_seq_regc (fun T H => T 4 = (iV (wchk t.ni ((n)))) ∧ H 2 = (⟨1, true, false, 63, 2, [[(V.sl (List.map cI (t.ni))), (V.sl (List.map cI (t.no)))]]⟩ : Blk) ∧ True) ?_ ?_
  ·
   unfold r78_3
   refine R_mv t5 ?_
   refine R_mv (@rfl V (iV (wchk t.ni ((n))))) ?_
   exact R_nil ⟨rfl, h2, trivial⟩
  intro T H ⟨t4, h2, _⟩
  refine W_seq_ret ?_
  refine Ret_1 t4 (fz_int ?_)
  · rw [prE, if_pos (by omega)]
 refine W_seq_skip ?_
 refine W_seq_blockg fun Q2 n2 x2 y2 z2 => ?_
 refine W_seq_regc (fun T H => T 2 = (V.mp 2 1 0 0) ∧ T 13 = (V.bool (decide (((t.no.length : Nat) : Int) ≠ ((t.ni.length : Nat) : Int)))) ∧ H 2 = (⟨1, true, false, 63, 2, [[(V.sl (List.map cI (t.ni))), (V.sl (List.map cI (t.no)))]]⟩ : Blk) ∧ True) ?_ ?_
 ·
  unfold r78_4
  refine R_fld_mp (o' := 1) t2 h2 (by first | rfl | simp [okB, Blk.own]) rfl ?_
  refine R_load_mp (v := (V.sl (List.map cI (t.no)))) (@rfl V (V.mp 2 1 0 1)) h2 (by first | rfl | simp [ldB, ldV, Blk.own, V.one]) ?_
  refine R_len (@rfl V (V.sl (List.map cI (t.no)))) ?_
  refine R_fld_mp (o' := 0) t2 h2 (by first | rfl | simp [okB, Blk.own]) rfl ?_
  refine R_load_mp (v := (V.sl (List.map cI (t.ni)))) (@rfl V (V.mp 2 1 0 0)) h2 (by first | rfl | simp [ldB, ldV, Blk.own, V.one]) ?_
  refine R_len (@rfl V (V.sl (List.map cI (t.ni)))) ?_
  refine R_neq (x := ((t.no.length : Nat) : Int)) (y := ((t.ni.length : Nat) : Int)) (@rfl V (iV ((t.no.length : Nat) : Int))) (@rfl V (iV ((t.ni.length : Nat) : Int))) ?_
  refine R_mv (@rfl V (V.bool (decide (((t.no.length : Nat) : Int) ≠ ((t.ni.length : Nat) : Int))))) ?_
  exact R_nil ⟨t2, rfl, h2, trivial⟩
 intro T H ⟨t2, t13, h2, _⟩
 refine W_if (p := ((t.no.length : Nat) : Int) ≠ ((t.ni.length : Nat) : Int)) t13 (fun c3 => ?_) (fun c3 => ?_)
 ·
  refine W_seq_regc (fun T H => T 4 = (iV (1 : Int)) ∧ H 2 = (⟨1, true, false, 63, 2, [[(V.sl (List.map cI (t.ni))), (V.sl (List.map cI (t.no)))]]⟩ : Blk) ∧ True) ?_ ?_
  ·
   unfold r78_5
   refine R_mv (@rfl V (iV (1 : Int))) ?_
   exact R_nil ⟨rfl, h2, trivial⟩
  intro T H ⟨t4, h2, _⟩
  refine W_ret ?_
  refine y2 _ _ ?_
  refine Ret_1 t4 (fz_int ?_)
  · rw [prE, if_neg (by omega), if_pos (by omega)]
 refine W_seq_regc (fun T H => T 21 = (V.bool (decide (0 ≤ fi (fun j => (fun a => decide (a < 0 ∨ 1048576 < a)) (nth t.no j)) 0 t.no.length))) ∧ H 2 = (⟨1, true, false, 63, 2, [[(V.sl (List.map cI (t.ni))), (V.sl (List.map cI (t.no)))]]⟩ : Blk) ∧ True) ?_ ?_
 ·
  unfold r78_6
  refine R_fld_mp (o' := 1) t2 h2 (by first | rfl | simp [okB, Blk.own]) rfl ?_
  refine R_load_mp (v := (V.sl (List.map cI (t.no)))) (@rfl V (V.mp 2 1 0 1)) h2 (by first | rfl | simp [ldB, ldV, Blk.own, V.one]) ?_
  refine R_call (evcons (@rfl V (V.sl (List.map cI (t.no)))) (evcons (@rfl V (V.fn 107 [] [])) evnil)) (coni_pure (fun a => decide (a < 0 ∨ 1048576 < a)) t.no 107 ([]) (by simp) (by simp) (fun k _ => proper1_pure (nth t.no k))) (fzv_mapcanon _ _ (by simp [-List.map_take, -List.map_drop, -List.map_append, -List.map_reverse])) (by simp [-List.map_take, -List.map_drop, -List.map_append, -List.map_reverse]) (Or.inl (by simp [-List.map_take, -List.map_drop, -List.map_append, -List.map_reverse])) ?_
  refine R_mv (@rfl V (V.bool (decide (0 ≤ fi (fun j => (fun a => decide (a < 0 ∨ 1048576 < a)) (nth t.no j)) 0 t.no.length)))) ?_
  exact R_nil ⟨rfl, h2, trivial⟩
 intro T H ⟨t21, h2, _⟩
 refine W_if (p := 0 ≤ fi (fun j => (fun a => decide (a < 0 ∨ 1048576 < a)) (nth t.no j)) 0 t.no.length) t21 (fun c4 => ?_) (fun c4 => ?_)
 ·
  refine W_seq_regc (fun T H => T 4 = (iV (2 : Int)) ∧ H 2 = (⟨1, true, false, 63, 2, [[(V.sl (List.map cI (t.ni))), (V.sl (List.map cI (t.no)))]]⟩ : Blk) ∧ True) ?_ ?_
  ·
   unfold r78_7
   refine R_mv (@rfl V (iV (2 : Int))) ?_
   exact R_nil ⟨rfl, h2, trivial⟩
  intro T H ⟨t4, h2, _⟩
  refine W_ret ?_
  refine y2 _ _ ?_
  refine Ret_1 t4 (fz_int ?_)
  · have e : (0 ≤ fi (fun j => (fun a => decide (a < 0 ∨ 1048576 < a)) (nth t.no j)) 0 t.no.length ↔ fe (outE t) 0 t.no.length = 2) ∧ (fe (outE t) 0 t.no.length = 0 ∨ fe (outE t) 0 t.no.length = 2) := out_fe t t.no.length 0
    rw [prE, if_neg (by omega), if_neg (by omega)]; omega
 refine W_skip ?_
 refine n2 _ _ ?_
 refine .done ?_
 refine W_seq_regc (fun T H => T 4 = (iV (0 : Int)) ∧ H 2 = (⟨1, true, false, 63, 2, [[(V.sl (List.map cI (t.ni))), (V.sl (List.map cI (t.no)))]]⟩ : Blk) ∧ True) ?_ ?_
 ·
  unfold r78_8
  refine R_mv (@rfl V (iV (0 : Int))) ?_
  exact R_nil ⟨rfl, h2, trivial⟩
 intro T H ⟨t4, h2, _⟩
 refine W_ret ?_
 refine Ret_1 t4 (fz_int ?_)
 · have e : (0 ≤ fi (fun j => (fun a => decide (a < 0 ∨ 1048576 < a)) (nth t.no j)) 0 t.no.length ↔ fe (outE t) 0 t.no.length = 2) ∧ (fe (outE t) 0 t.no.length = 0 ∨ fe (outE t) 0 t.no.length = 2) := out_fe t t.no.length 0
   rw [prE, if_neg (by omega), if_neg (by omega)]; omega

end Go.Proofs.Ytngkckefanbhgaa

namespace Go.Proofs.Ytngkckefanbhgaa
open Go Go.Proofs

def r79_0 : List SO := [
  ⟨none, some 2, .box 63 2 (.t 0)⟩,
  ⟨none, some 3, .box 63 2 (.t 1)⟩,
  ⟨none, some 4, .mv (.c (.int .i64 0))⟩]
def r79_1 : List SO := [
  ⟨none, some 5, .fld 0 (.t 2)⟩,
  ⟨none, some 6, .load false 1 (.t 5)⟩,
  ⟨none, some 7, .fld 0 (.t 3)⟩,
  ⟨none, some 8, .load false 1 (.t 7)⟩,
  ⟨none, some 9, .call false 66 [.t 6, .t 8]⟩,
  ⟨none, some 4, .mv (.t 9)⟩]
def s79 : SF := ⟨10, [.tmp 4], .seq (.reg r79_0) (.seq (.reg r79_1) (.ret))⟩
theorem s79_ok : slimF Try.prog ⟨[94, 102, 103, 108, 109, 116, 119, 121, 125], []⟩ Try.f79 = some s79 := by kernel_rfl

end Go.Proofs.Ytngkckefanbhgaa

namespace Go.Proofs.Ytngkckefanbhgaa
open Go Go.Proofs

def r66_0 : List SO := [
  ⟨none, some 4, .mv (.c (.int .i64 0))⟩]
def r66_1 : List SO := [
  ⟨none, some 5, .mv (.t 0)⟩,
  ⟨none, some 6, .len (.t 5)⟩,
  ⟨none, some 7, .mv (.t 1)⟩,
  ⟨none, some 8, .len (.t 7)⟩,
  ⟨none, some 9, .call false 100 [.t 6, .t 8]⟩,
  ⟨none, some 10, .mv (.t 0)⟩,
  ⟨none, some 11, .mv (.t 1)⟩,
  ⟨none, some 12, .call false 101 [.t 10, .t 11]⟩,
  ⟨none, some 13, .bslice 3 1 false [.int .i64 0] 2 [(0, .t 9), (1, .t 12)]⟩,
  ⟨none, some 14, .call false 99 [.t 13]⟩,
  ⟨none, some 4, .mv (.t 14)⟩]
def s66 : SF := ⟨15, [.tmp 4], .seq (.reg r66_0) (.seq (.reg r66_1) (.ret))⟩
theorem s66_ok : slimF Try.prog ⟨[94, 102, 103, 108, 109, 116, 119, 121, 125], []⟩ Try.f66 = some s66 := by kernel_rfl

end Go.Proofs.Ytngkckefanbhgaa

namespace Go.Proofs.Ytngkckefanbhgaa
open Go Go.Proofs

def r99_0 : List SO := [
  ⟨none, some 2, .mv (.c (.int .i64 0))⟩]
def r99_1 : List SO := [
  ⟨none, some 3, .mv (.c (.int .i64 0))⟩]
def r99_2 : List SO := [
  ⟨none, some 6, .mv (.t 0)⟩,
  ⟨none, some 7, .len (.t 6)⟩,
  ⟨none, some 8, .mv (.c (.int .i64 0))⟩]
def r99_3 : List SO := [
  ⟨none, some 9, .bin .lss (.t 8) (.t 7)⟩]
def r99_4 : List SO := [
  ⟨none, some 10, .idx 1 (.t 6) (.t 8)⟩,
  ⟨none, some 11, .load false 1 (.t 10)⟩,
  ⟨none, some 5, .mv (.t 11)⟩]
def r99_5 : List SO := [
  ⟨none, some 12, .mv (.t 5)⟩,
  ⟨none, some 13, .mv (.t 3)⟩,
  ⟨none, some 14, .bin .neq (.t 12) (.t 13)⟩]
def r99_6 : List SO := [
  ⟨none, some 15, .mv (.t 5)⟩,
  ⟨none, some 2, .mv (.t 15)⟩]
def r99_7 : List SO := [
  ⟨none, some 16, .bin .add (.t 8) (.c (.int .i64 1))⟩,
  ⟨none, some 8, .mv (.t 16)⟩]
def b99_0 : SC := .seq (.reg r99_3) (.seq (.cond (.t 9) (.skip) (.exit 0)) (.seq (.block 1 (.seq (.reg r99_4) (.seq (.reg r99_5) (.cond (.t 14) (.seq (.reg r99_6) (.ret)) (.skip))))) (.reg r99_7)))
def r99_8 : List SO := [
  ⟨none, some 17, .mv (.t 3)⟩,
  ⟨none, some 2, .mv (.t 17)⟩]
def s99 : SF := ⟨18, [.tmp 2], .seq (.reg r99_0) (.seq (.reg r99_1) (.seq (.seq (.reg r99_2) (.block 0 (.loop b99_0))) (.seq (.reg r99_8) (.ret))))⟩
theorem s99_ok : slimF Try.prog ⟨[94, 102, 103, 108, 109, 116, 119, 121, 125], []⟩ Try.f99 = some s99 := by kernel_rfl

end Go.Proofs.Ytngkckefanbhgaa

namespace Go.Proofs.Ytngkckefanbhgaa
open Go Go.Proofs

theorem cmpor_pure (l : List Int) (hl : l.length < 4294967296) : PureC Try.prog 99 [(V.sl (List.map cI (l)))] (iV (orI l)) := by
 refine pure_of_Wb true 6 Try.func99 s99_ok (by kernel_rfl) (by simp [s99]) (by simp) (by simp) fun hB => ?_
 simp only [bnd_map, bnd_int, bnd_bool, bnd_str, bnd_agg, bnd_pp, bnd_nil, bnd_cons, implies_true, and_true, true_and] at hB
 unfold s99
 dsimp only
 refine W_seq_regc (fun T H => T 0 = (V.sl (List.map cI (l))) ∧ True) ?_ ?_
 ·
  unfold r99_0
  refine R_mv (@rfl V (iV (0 : Int))) ?_
  exact R_nil ⟨rfl, trivial⟩
 intro T H ⟨t0, _⟩
 refine W_seq_regc (fun T H => T 0 = (V.sl (List.map cI (l))) ∧ T 3 = (iV (0 : Int)) ∧ True) ?_ ?_
 ·
  unfold r99_1
  refine R_mv (@rfl V (iV (0 : Int))) ?_
  exact R_nil ⟨t0, rfl, trivial⟩
 intro T H ⟨t0, t3, _⟩
 refine W_seq_seq ?_
 refine W_seq_regc (fun T H => T 3 = (iV (0 : Int)) ∧ T 6 = (V.sl (List.map cI (l))) ∧ T 7 = (iV ((l.length : Nat) : Int)) ∧ T 8 = (iV (0 : Int)) ∧ True) ?_ ?_
 ·
  unfold r99_2
  refine R_mv t0 ?_
  refine R_len (@rfl V (V.sl (List.map cI (l)))) ?_
  refine R_mv (@rfl V (iV (0 : Int))) ?_
  exact R_nil ⟨t3, rfl, rfl, rfl, trivial⟩
 intro T H ⟨t3, t6, t7, t8, _⟩
 refine W_seq_blockg fun Q1 n1 x1 y1 z1 => ?_
 refine W_loop (fun mm T H => ∃ (k : Nat), mm = l.length - k ∧ T 3 = (iV (0 : Int)) ∧ T 6 = (V.sl (List.map cI (l))) ∧ T 7 = (iV ((l.length : Nat) : Int)) ∧ T 8 = (iV ((k : Nat) : Int)) ∧ (k ≤ l.length) ∧ (orI l = orI (l.drop k))) ?_ ?_
 ·
  refine ⟨_, 0, rfl, t3, t6, t7, (Eq.trans t8 (by first | rfl | simp)), ?_, ?_⟩
  · omega
  · rfl
 intro mm T H ⟨k, hmm, t3, t6, t7, t8, hk, hc⟩ Q2 p12 p22 p32
 unfold b99_0
 refine W_seq_regc (fun T H => T 3 = (iV (0 : Int)) ∧ T 6 = (V.sl (List.map cI (l))) ∧ T 7 = (iV ((l.length : Nat) : Int)) ∧ T 8 = (iV ((k : Nat) : Int)) ∧ T 9 = (V.bool (decide (((k : Nat) : Int) < ((l.length : Nat) : Int)))) ∧ True) ?_ ?_
 ·
  unfold r99_3
  refine R_lss (x := ((k : Nat) : Int)) (y := ((l.length : Nat) : Int)) t8 t7 ?_
  exact R_nil ⟨t3, t6, t7, t8, rfl, trivial⟩
 intro T H ⟨t3, t6, t7, t8, t9, _⟩
 refine W_seq_if (p := ((k : Nat) : Int) < ((l.length : Nat) : Int)) t9 (fun c3 => ?_) (fun c3 => ?_)
 ·
  refine W_seq_skip ?_
  refine W_seq_blockg fun Q4 n4 x4 y4 z4 => ?_
  refine W_seq_regc (fun T H => T 3 = (iV (0 : Int)) ∧ T 5 = (iV ((nth (l) (k)))) ∧ T 6 = (V.sl (List.map cI (l))) ∧ T 7 = (iV ((l.length : Nat) : Int)) ∧ T 8 = (iV ((k : Nat) : Int)) ∧ True) ?_ ?_
  ·
   unfold r99_4
   refine R_idx (i := k) t6 t8 (by omega) rfl ?_
   refine R_load_pp (v := (iV ((nth (l) (k))))) (@rfl V (V.pp [(iV ((nth (l) (k))))])) (by first | rfl | simp [ldV]) ?_
   refine R_mv (@rfl V (iV ((nth (l) (k))))) ?_
   exact R_nil ⟨t3, rfl, t6, t7, t8, trivial⟩
  intro T H ⟨t3, t5, t6, t7, t8, _⟩
  refine W_seq_regc (fun T H => T 3 = (iV (0 : Int)) ∧ T 5 = (iV ((nth (l) (k)))) ∧ T 6 = (V.sl (List.map cI (l))) ∧ T 7 = (iV ((l.length : Nat) : Int)) ∧ T 8 = (iV ((k : Nat) : Int)) ∧ T 14 = (V.bool (decide (((nth (l) (k))) ≠ (0 : Int)))) ∧ True) ?_ ?_
  ·
   unfold r99_5
   refine R_mv t5 ?_
   refine R_mv t3 ?_
   refine R_neq (x := ((nth (l) (k)))) (y := (0 : Int)) (@rfl V (iV ((nth (l) (k))))) (@rfl V (iV (0 : Int))) ?_
   exact R_nil ⟨t3, t5, t6, t7, t8, rfl, trivial⟩
  intro T H ⟨t3, t5, t6, t7, t8, t14, _⟩
  refine W_if (p := ((nth (l) (k))) ≠ (0 : Int)) t14 (fun c5 => ?_) (fun c5 => ?_)
  ·
   refine W_seq_regc (fun T H => T 2 = (iV ((nth (l) (k)))) ∧ True) ?_ ?_
   ·
    unfold r99_6
    refine R_mv t5 ?_
    refine R_mv (@rfl V (iV ((nth (l) (k))))) ?_
    exact R_nil ⟨rfl, trivial⟩
   intro T H ⟨t2, _⟩
   refine W_ret ?_
   refine y4 _ _ ?_
   refine p22 _ _ ?_
   refine y1 _ _ ?_
   refine Ret_1 t2 (fz_int ?_)
   · rw [hc, orI_drop (by omega), if_neg (by omega)]
  refine W_skip ?_
  refine n4 _ _ ?_
  refine .done ?_
  refine W_regc (fun T H => T 3 = (iV (0 : Int)) ∧ T 6 = (V.sl (List.map cI (l))) ∧ T 7 = (iV ((l.length : Nat) : Int)) ∧ T 8 = (iV ((k + 1 : Nat) : Int)) ∧ True) ?_ ?_
  ·
   unfold r99_7
   refine R_addN (m := k) (n := 1) t8 (@rfl V (iV ((1 : Nat) : Int))) (by omega) ?_
   refine R_mv (@rfl V (iV ((k + 1 : Nat) : Int))) ?_
   exact R_nil ⟨t3, t6, t7, rfl, trivial⟩
  intro T H ⟨t3, t6, t7, t8, _⟩
  refine p12 _ _ _ ?_ ⟨(k + 1), rfl, t3, t6, t7, (Eq.trans t8 (by first | rfl | simp)), ?_, ?_⟩
  · omega
  · omega
  · rw [hc, orI_drop (by omega), if_pos (by omega)]
 refine W_seq_exit ?_
 refine p32 _ _ _ ?_
 refine x1 _ _ ?_
 refine .done ?_
 refine W_seq_regc (fun T H => T 2 = (iV (0 : Int)) ∧ True) ?_ ?_
 ·
  unfold r99_8
  refine R_mv t3 ?_
  refine R_mv (@rfl V (iV (0 : Int))) ?_
  exact R_nil ⟨rfl, trivial⟩
 intro T H ⟨t2, _⟩
 refine W_ret ?_
 refine Ret_1 t2 (fz_int ?_)
 · rw [hc, List.drop_of_length_le (by omega)]; rfl

end Go.Proofs.Ytngkckefanbhgaa

namespace Go.Proofs.Ytngkckefanbhgaa
open Go Go.Proofs

def r100_0 : List SO := [
  ⟨none, some 4, .mv (.c (.int .i64 0))⟩]
def r100_1 : List SO := [
  ⟨none, some 7, .mv (.t 0)⟩,
  ⟨none, some 8, .call false 114 [.t 7]⟩,
  ⟨none, some 5, .mv (.t 8)⟩]
def r100_2 : List SO := [
  ⟨none, some 9, .mv (.t 1)⟩,
  ⟨none, some 10, .call false 114 [.t 9]⟩,
  ⟨none, some 6, .mv (.t 10)⟩]
def r100_3 : List SO := [
  ⟨none, some 11, .mv (.t 5)⟩]
def r100_4 : List SO := [
  ⟨none, some 12, .mv (.t 6)⟩]
def r100_5 : List SO := [
  ⟨none, some 4, .mv (.c (.int .i64 0))⟩]
def r100_6 : List SO := [
  ⟨none, some 4, .mv (.c (.int .i64 (-1)))⟩]
def r100_7 : List SO := [
  ⟨none, some 13, .mv (.t 6)⟩]
def r100_8 : List SO := [
  ⟨none, some 4, .mv (.c (.int .i64 1))⟩]
def r100_9 : List SO := [
  ⟨none, some 14, .mv (.t 0)⟩,
  ⟨none, some 15, .mv (.t 1)⟩,
  ⟨none, some 16, .bin .lss (.t 14) (.t 15)⟩]
def r100_10 : List SO := [
  ⟨none, some 4, .mv (.c (.int .i64 (-1)))⟩]
def r100_11 : List SO := [
  ⟨none, some 17, .mv (.t 0)⟩,
  ⟨none, some 18, .mv (.t 1)⟩,
  ⟨none, some 19, .bin .gtr (.t 17) (.t 18)⟩]
def r100_12 : List SO := [
  ⟨none, some 4, .mv (.c (.int .i64 1))⟩]
def r100_13 : List SO := [
  ⟨none, some 4, .mv (.c (.int .i64 0))⟩]
def s100 : SF := ⟨20, [.tmp 4], .seq (.reg r100_0) (.seq (.reg r100_1) (.seq (.reg r100_2) (.seq (.seq (.reg r100_3) (.cond (.t 11) (.seq (.seq (.reg r100_4) (.cond (.t 12) (.seq (.reg r100_5) (.ret)) (.skip))) (.seq (.reg r100_6) (.ret))) (.skip))) (.seq (.seq (.reg r100_7) (.cond (.t 13) (.seq (.reg r100_8) (.ret)) (.skip))) (.seq (.seq (.reg r100_9) (.cond (.t 16) (.seq (.reg r100_10) (.ret)) (.skip))) (.seq (.seq (.reg r100_11) (.cond (.t 19) (.seq (.reg r100_12) (.ret)) (.skip))) (.seq (.reg r100_13) (.ret))))))))⟩
theorem s100_ok : slimF Try.prog ⟨[94, 102, 103, 108, 109, 116, 119, 121, 125], []⟩ Try.f100 = some s100 := by kernel_rfl

end Go.Proofs.Ytngkckefanbhgaa

namespace Go.Proofs.Ytngkckefanbhgaa
open Go Go.Proofs

def r114_0 : List SO := [
  ⟨none, some 2, .mv (.c (.bool false))⟩]
def r114_1 : List SO := [
  ⟨none, some 3, .mv (.t 0)⟩,
  ⟨none, some 4, .mv (.t 0)⟩,
  ⟨none, some 5, .bin .neq (.t 3) (.t 4)⟩,
  ⟨none, some 2, .mv (.t 5)⟩]
def s114 : SF := ⟨6, [.tmp 2], .seq (.reg r114_0) (.seq (.reg r114_1) (.ret))⟩
theorem s114_ok : slimF Try.prog ⟨[94, 102, 103, 108, 109, 116, 119, 121, 125], []⟩ Try.f114 = some s114 := by kernel_rfl

end Go.Proofs.Ytngkckefanbhgaa

namespace Go.Proofs.Ytngkckefanbhgaa
open Go Go.Proofs

theorem isnan_pure (n : Int) : PureC Try.prog 114 [(iV (n))] (V.bool false) := by
 refine pure_of_Wb true 6 Try.func114 s114_ok (by kernel_rfl) (by simp [s114]) (by simp) (by simp) fun hB => ?_
 simp only [bnd_map, bnd_int, bnd_bool, bnd_str, bnd_agg, bnd_pp, bnd_nil, bnd_cons, implies_true, and_true, true_and] at hB
 unfold s114
 dsimp only
 refine W_seq_regc (fun T H => T 0 = (iV (n)) ∧ True) ?_ ?_
 ·
  unfold r114_0
  refine R_mv (@rfl V (V.bool false)) ?_
  exact R_nil ⟨rfl, trivial⟩
 intro T H ⟨t0, _⟩
 refine W_seq_regc (fun T H => T 2 = (V.bool (decide ((n) ≠ (n)))) ∧ True) ?_ ?_
 ·
  unfold r114_1
  refine R_mv t0 ?_
  refine R_mv t0 ?_
  refine R_neq (x := (n)) (y := (n)) (@rfl V (iV (n))) (@rfl V (iV (n))) ?_
  refine R_mv (@rfl V (V.bool (decide ((n) ≠ (n))))) ?_
  exact R_nil ⟨rfl, trivial⟩
 intro T H ⟨t2, _⟩
 refine W_ret ?_
 refine Ret_1 t2 (fz_bool ?_)
 · simp

end Go.Proofs.Ytngkckefanbhgaa

namespace Go.Proofs.Ytngkckefanbhgaa
open Go Go.Proofs

theorem cmpint_pure (x y : Int) : PureC Try.prog 100 [(iV (x)), (iV (y))] (iV (cmpI x y)) := by
 refine pure_of_Wb true 6 Try.func100 s100_ok (by kernel_rfl) (by simp [s100]) (by simp) (by simp) fun hB => ?_
 simp only [bnd_map, bnd_int, bnd_bool, bnd_str, bnd_agg, bnd_pp, bnd_nil, bnd_cons, implies_true, and_true, true_and] at hB
 unfold s100
 dsimp only
 refine W_seq_regc (fun T H => T 0 = (iV (x)) ∧ T 1 = (iV (y)) ∧ True) ?_ ?_
 ·
  unfold r100_0
  refine R_mv (@rfl V (iV (0 : Int))) ?_
  exact R_nil ⟨rfl, rfl, trivial⟩
 intro T H ⟨t0, t1, _⟩
 refine W_seq_regc (fun T H => T 0 = (iV (x)) ∧ T 1 = (iV (y)) ∧ T 5 = (V.bool false) ∧ True) ?_ ?_
 ·
  unfold r100_1
  refine R_mv t0 ?_
  refine R_call (evcons (@rfl V (iV (x))) evnil) (isnan_pure ((x))) (fzv_mapcanon _ _ (by simp [-List.map_take, -List.map_drop, -List.map_append, -List.map_reverse])) (by simp [-List.map_take, -List.map_drop, -List.map_append, -List.map_reverse]) (Or.inl (by simp [-List.map_take, -List.map_drop, -List.map_append, -List.map_reverse])) ?_
  refine R_mv (@rfl V (V.bool false)) ?_
  exact R_nil ⟨t0, t1, rfl, trivial⟩
 intro T H ⟨t0, t1, t5, _⟩
 refine W_seq_regc (fun T H => T 0 = (iV (x)) ∧ T 1 = (iV (y)) ∧ T 5 = (V.bool false) ∧ T 6 = (V.bool false) ∧ True) ?_ ?_
 ·
  unfold r100_2
  refine R_mv t1 ?_
  refine R_call (evcons (@rfl V (iV (y))) evnil) (isnan_pure ((y))) (fzv_mapcanon _ _ (by simp [-List.map_take, -List.map_drop, -List.map_append, -List.map_reverse])) (by simp [-List.map_take, -List.map_drop, -List.map_append, -List.map_reverse]) (Or.inl (by simp [-List.map_take, -List.map_drop, -List.map_append, -List.map_reverse])) ?_
  refine R_mv (@rfl V (V.bool false)) ?_
  exact R_nil ⟨t0, t1, t5, rfl, trivial⟩
 intro T H ⟨t0, t1, t5, t6, _⟩
 refine W_seq_seq ?_
 refine W_seq_regc (fun T H => T 0 = (iV (x)) ∧ T 1 = (iV (y)) ∧ T 6 = (V.bool false) ∧ T 11 = (V.bool false) ∧ True) ?_ ?_
 ·
  unfold r100_3
  refine R_mv t5 ?_
  exact R_nil ⟨t0, t1, t6, rfl, trivial⟩
 intro T H ⟨t0, t1, t6, t11, _⟩
 refine W_seq_ifb t11 (fun c1 => ?_) (fun c1 => ?_)
 · cases c1
 refine W_seq_skip ?_
 refine W_seq_seq ?_
 refine W_seq_regc (fun T H => T 0 = (iV (x)) ∧ T 1 = (iV (y)) ∧ T 13 = (V.bool false) ∧ True) ?_ ?_
 ·
  unfold r100_7
  refine R_mv t6 ?_
  exact R_nil ⟨t0, t1, rfl, trivial⟩
 intro T H ⟨t0, t1, t13, _⟩
 refine W_seq_ifb t13 (fun c2 => ?_) (fun c2 => ?_)
 · cases c2
 refine W_seq_skip ?_
 refine W_seq_seq ?_
 refine W_seq_regc (fun T H => T 0 = (iV (x)) ∧ T 1 = (iV (y)) ∧ T 16 = (V.bool (decide ((x) < (y)))) ∧ True) ?_ ?_
 ·
  unfold r100_9
  refine R_mv t0 ?_
  refine R_mv t1 ?_
  refine R_lss (x := (x)) (y := (y)) (@rfl V (iV (x))) (@rfl V (iV (y))) ?_
  exact R_nil ⟨t0, t1, rfl, trivial⟩
 intro T H ⟨t0, t1, t16, _⟩
 refine W_seq_if (p := (x) < (y)) t16 (fun c3 => ?_) (fun c3 => ?_)
 ·
  refine W_seq_seq ?_
  refine W_seq_regc (fun T H => T 4 = (iV (-1 : Int)) ∧ True) ?_ ?_
  ·
   unfold r100_10
   refine R_mv (@rfl V (iV (-1 : Int))) ?_
   exact R_nil ⟨rfl, trivial⟩
  intro T H ⟨t4, _⟩
  refine W_seq_ret ?_
  refine Ret_1 t4 (fz_int ?_)
  · unfold cmpI; repeat (split <;> first | rfl | omega | skip)
 refine W_seq_skip ?_
 refine W_seq_seq ?_
 refine W_seq_regc (fun T H => T 19 = (V.bool (decide ((y) < (x)))) ∧ True) ?_ ?_
 ·
  unfold r100_11
  refine R_mv t0 ?_
  refine R_mv t1 ?_
  refine R_gtr (x := (x)) (y := (y)) (@rfl V (iV (x))) (@rfl V (iV (y))) ?_
  exact R_nil ⟨rfl, trivial⟩
 intro T H ⟨t19, _⟩
 refine W_seq_if (p := (y) < (x)) t19 (fun c4 => ?_) (fun c4 => ?_)
 ·
  refine W_seq_seq ?_
  refine W_seq_regc (fun T H => T 4 = (iV (1 : Int)) ∧ True) ?_ ?_
  ·
   unfold r100_12
   refine R_mv (@rfl V (iV (1 : Int))) ?_
   exact R_nil ⟨rfl, trivial⟩
  intro T H ⟨t4, _⟩
  refine W_seq_ret ?_
  refine Ret_1 t4 (fz_int ?_)
  · unfold cmpI; repeat (split <;> first | rfl | omega | skip)
 refine W_seq_skip ?_
 refine W_seq_regc (fun T H => T 4 = (iV (0 : Int)) ∧ True) ?_ ?_
 ·
  unfold r100_13
  refine R_mv (@rfl V (iV (0 : Int))) ?_
  exact R_nil ⟨rfl, trivial⟩
 intro T H ⟨t4, _⟩
 refine W_ret ?_
 refine Ret_1 t4 (fz_int ?_)
 · unfold cmpI; repeat (split <;> first | rfl | omega | skip)

end Go.Proofs.Ytngkckefanbhgaa

namespace Go.Proofs.Ytngkckefanbhgaa
open Go Go.Proofs

def r101_0 : List SO := [
  ⟨none, some 4, .mv (.c (.int .i64 0))⟩]
def r101_1 : List SO := [
  ⟨none, some 9, .mv (.t 0)⟩,
  ⟨none, some 10, .len (.t 9)⟩,
  ⟨none, some 11, .mv (.c (.int .i64 0))⟩]
def r101_2 : List SO := [
  ⟨none, some 12, .bin .lss (.t 11) (.t 10)⟩]
def r101_3 : List SO := [
  ⟨none, some 13, .mv (.t 11)⟩,
  ⟨none, some 14, .idx 1 (.t 9) (.t 11)⟩,
  ⟨none, some 15, .load false 1 (.t 14)⟩,
  ⟨none, some 5, .mv (.t 13)⟩,
  ⟨none, some 6, .mv (.t 15)⟩]
def r101_4 : List SO := [
  ⟨none, some 16, .mv (.t 5)⟩,
  ⟨none, some 17, .mv (.t 1)⟩,
  ⟨none, some 18, .len (.t 17)⟩,
  ⟨none, some 19, .bin .geq (.t 16) (.t 18)⟩]
def r101_5 : List SO := [
  ⟨none, some 4, .mv (.c (.int .i64 1))⟩]
def r101_6 : List SO := [
  ⟨none, some 20, .mv (.t 1)⟩,
  ⟨none, some 21, .mv (.t 5)⟩,
  ⟨none, some 22, .idx 1 (.t 20) (.t 21)⟩,
  ⟨none, some 23, .load false 1 (.t 22)⟩,
  ⟨none, some 7, .mv (.t 23)⟩]
def r101_7 : List SO := [
  ⟨none, some 24, .mv (.t 6)⟩,
  ⟨none, some 25, .mv (.t 7)⟩,
  ⟨none, some 26, .call false 100 [.t 24, .t 25]⟩,
  ⟨none, some 8, .mv (.t 26)⟩]
def r101_8 : List SO := [
  ⟨none, some 27, .mv (.t 8)⟩,
  ⟨none, some 28, .bin .neq (.t 27) (.c (.int .i64 0))⟩]
def r101_9 : List SO := [
  ⟨none, some 29, .mv (.t 8)⟩,
  ⟨none, some 4, .mv (.t 29)⟩]
def r101_10 : List SO := [
  ⟨none, some 30, .bin .add (.t 11) (.c (.int .i64 1))⟩,
  ⟨none, some 11, .mv (.t 30)⟩]
def b101_0 : SC := .seq (.reg r101_2) (.seq (.cond (.t 12) (.skip) (.exit 0)) (.seq (.block 1 (.seq (.reg r101_3) (.seq (.seq (.reg r101_4) (.cond (.t 19) (.seq (.reg r101_5) (.ret)) (.skip))) (.seq (.reg r101_6) (.seq (.reg r101_7) (.seq (.reg r101_8) (.cond (.t 28) (.seq (.reg r101_9) (.ret)) (.skip)))))))) (.reg r101_10)))
def r101_11 : List SO := [
  ⟨none, some 31, .mv (.t 0)⟩,
  ⟨none, some 32, .len (.t 31)⟩,
  ⟨none, some 33, .mv (.t 1)⟩,
  ⟨none, some 34, .len (.t 33)⟩,
  ⟨none, some 35, .bin .lss (.t 32) (.t 34)⟩]
def r101_12 : List SO := [
  ⟨none, some 4, .mv (.c (.int .i64 (-1)))⟩]
def r101_13 : List SO := [
  ⟨none, some 4, .mv (.c (.int .i64 0))⟩]
def s101 : SF := ⟨36, [.tmp 4], .seq (.reg r101_0) (.seq (.seq (.reg r101_1) (.block 0 (.loop b101_0))) (.seq (.seq (.reg r101_11) (.cond (.t 35) (.seq (.reg r101_12) (.ret)) (.skip))) (.seq (.reg r101_13) (.ret))))⟩
theorem s101_ok : slimF Try.prog ⟨[94, 102, 103, 108, 109, 116, 119, 121, 125], []⟩ Try.f101 = some s101 := by kernel_rfl

end Go.Proofs.Ytngkckefanbhgaa

namespace Go.Proofs.Ytngkckefanbhgaa
open Go Go.Proofs

theorem scompare_pure (a b : List Int) : PureC Try.prog 101 [(V.sl (List.map cI (a))), (V.sl (List.map cI (b)))] (iV (lexI a b)) := by
 refine pure_of_Wb true 6 Try.func101 s101_ok (by kernel_rfl) (by simp [s101]) (by simp) (by simp) fun hB => ?_
 simp only [bnd_map, bnd_int, bnd_bool, bnd_str, bnd_agg, bnd_pp, bnd_nil, bnd_cons, implies_true, and_true, true_and] at hB
 unfold s101
 dsimp only
 refine W_seq_regc (fun T H => T 0 = (V.sl (List.map cI (a))) ∧ T 1 = (V.sl (List.map cI (b))) ∧ True) ?_ ?_
 ·
  unfold r101_0
  refine R_mv (@rfl V (iV (0 : Int))) ?_
  exact R_nil ⟨rfl, rfl, trivial⟩
 intro T H ⟨t0, t1, _⟩
 refine W_seq_seq ?_
 refine W_seq_regc (fun T H => T 0 = (V.sl (List.map cI (a))) ∧ T 1 = (V.sl (List.map cI (b))) ∧ T 9 = (V.sl (List.map cI (a))) ∧ T 10 = (iV ((a.length : Nat) : Int)) ∧ T 11 = (iV (0 : Int)) ∧ True) ?_ ?_
 ·
  unfold r101_1
  refine R_mv t0 ?_
  refine R_len (@rfl V (V.sl (List.map cI (a)))) ?_
  refine R_mv (@rfl V (iV (0 : Int))) ?_
  exact R_nil ⟨t0, t1, rfl, rfl, rfl, trivial⟩
 intro T H ⟨t0, t1, t9, t10, t11, _⟩
 refine W_seq_blockg fun Q1 n1 x1 y1 z1 => ?_
 refine W_loop (fun mm T H => ∃ (k : Nat), mm = a.length - k ∧ T 0 = (V.sl (List.map cI (a))) ∧ T 1 = (V.sl (List.map cI (b))) ∧ T 9 = (V.sl (List.map cI (a))) ∧ T 10 = (iV ((a.length : Nat) : Int)) ∧ T 11 = (iV ((k : Nat) : Int)) ∧ (k ≤ a.length) ∧ (k ≤ cmn a b)) ?_ ?_
 ·
  refine ⟨_, 0, rfl, t0, t1, t9, t10, (Eq.trans t11 (by first | rfl | simp)), ?_, ?_⟩
  · omega
  · exact Nat.zero_le _
 intro mm T H ⟨k, hmm, t0, t1, t9, t10, t11, hk, hc⟩ Q2 p12 p22 p32
 unfold b101_0
 refine W_seq_regc (fun T H => T 0 = (V.sl (List.map cI (a))) ∧ T 1 = (V.sl (List.map cI (b))) ∧ T 9 = (V.sl (List.map cI (a))) ∧ T 10 = (iV ((a.length : Nat) : Int)) ∧ T 11 = (iV ((k : Nat) : Int)) ∧ T 12 = (V.bool (decide (((k : Nat) : Int) < ((a.length : Nat) : Int)))) ∧ True) ?_ ?_
 ·
  unfold r101_2
  refine R_lss (x := ((k : Nat) : Int)) (y := ((a.length : Nat) : Int)) t11 t10 ?_
  exact R_nil ⟨t0, t1, t9, t10, t11, rfl, trivial⟩
 intro T H ⟨t0, t1, t9, t10, t11, t12, _⟩
 refine W_seq_if (p := ((k : Nat) : Int) < ((a.length : Nat) : Int)) t12 (fun c3 => ?_) (fun c3 => ?_)
 ·
  refine W_seq_skip ?_
  refine W_seq_blockg fun Q4 n4 x4 y4 z4 => ?_
  refine W_seq_regc (fun T H => T 0 = (V.sl (List.map cI (a))) ∧ T 1 = (V.sl (List.map cI (b))) ∧ T 5 = (iV ((k : Nat) : Int)) ∧ T 6 = (iV ((nth (a) (k)))) ∧ T 9 = (V.sl (List.map cI (a))) ∧ T 10 = (iV ((a.length : Nat) : Int)) ∧ T 11 = (iV ((k : Nat) : Int)) ∧ True) ?_ ?_
  ·
   unfold r101_3
   refine R_mv t11 ?_
   refine R_idx (i := k) t9 t11 (by omega) rfl ?_
   refine R_load_pp (v := (iV ((nth (a) (k))))) (@rfl V (V.pp [(iV ((nth (a) (k))))])) (by first | rfl | simp [ldV]) ?_
   refine R_mv (@rfl V (iV ((k : Nat) : Int))) ?_
   refine R_mv (@rfl V (iV ((nth (a) (k))))) ?_
   exact R_nil ⟨t0, t1, rfl, rfl, t9, t10, t11, trivial⟩
  intro T H ⟨t0, t1, t5, t6, t9, t10, t11, _⟩
  refine W_seq_seq ?_
  refine W_seq_regc (fun T H => T 0 = (V.sl (List.map cI (a))) ∧ T 1 = (V.sl (List.map cI (b))) ∧ T 5 = (iV ((k : Nat) : Int)) ∧ T 6 = (iV ((nth (a) (k)))) ∧ T 9 = (V.sl (List.map cI (a))) ∧ T 10 = (iV ((a.length : Nat) : Int)) ∧ T 11 = (iV ((k : Nat) : Int)) ∧ T 19 = (V.bool (decide (((b.length : Nat) : Int) ≤ ((k : Nat) : Int)))) ∧ True) ?_ ?_
  ·
   unfold r101_4
   refine R_mv t5 ?_
   refine R_mv t1 ?_
   refine R_len (@rfl V (V.sl (List.map cI (b)))) ?_
   refine R_geq (x := ((k : Nat) : Int)) (y := ((b.length : Nat) : Int)) (@rfl V (iV ((k : Nat) : Int))) (@rfl V (iV ((b.length : Nat) : Int))) ?_
   exact R_nil ⟨t0, t1, t5, t6, t9, t10, t11, rfl, trivial⟩
  intro T H ⟨t0, t1, t5, t6, t9, t10, t11, t19, _⟩
  refine W_seq_if (p := ((b.length : Nat) : Int) ≤ ((k : Nat) : Int)) t19 (fun c5 => ?_) (fun c5 => ?_)
  ·
   refine W_seq_seq ?_
   refine W_seq_regc (fun T H => T 4 = (iV (1 : Int)) ∧ True) ?_ ?_
   ·
    unfold r101_5
    refine R_mv (@rfl V (iV (1 : Int))) ?_
    exact R_nil ⟨rfl, trivial⟩
   intro T H ⟨t4, _⟩
   refine W_seq_ret ?_
   refine y4 _ _ ?_
   refine p22 _ _ ?_
   refine y1 _ _ ?_
   refine Ret_1 t4 (fz_int ?_)
   · have g1 := cmn_l a b
     have g2 := cmn_r a b
     have g3 := cmn_at hc (by omega)
     simp only [lexI, cmpI, g3] at *; repeat (split <;> first | rfl | omega | skip)
  refine W_seq_skip ?_
  refine W_seq_regc (fun T H => T 0 = (V.sl (List.map cI (a))) ∧ T 1 = (V.sl (List.map cI (b))) ∧ T 6 = (iV ((nth (a) (k)))) ∧ T 7 = (iV ((nth (b) (k)))) ∧ T 9 = (V.sl (List.map cI (a))) ∧ T 10 = (iV ((a.length : Nat) : Int)) ∧ T 11 = (iV ((k : Nat) : Int)) ∧ True) ?_ ?_
  ·
   unfold r101_6
   refine R_mv t1 ?_
   refine R_mv t5 ?_
   refine R_idx (i := k) (@rfl V (V.sl (List.map cI (b)))) (@rfl V (iV ((k : Nat) : Int))) (by omega) rfl ?_
   refine R_load_pp (v := (iV ((nth (b) (k))))) (@rfl V (V.pp [(iV ((nth (b) (k))))])) (by first | rfl | simp [ldV]) ?_
   refine R_mv (@rfl V (iV ((nth (b) (k))))) ?_
   exact R_nil ⟨t0, t1, t6, rfl, t9, t10, t11, trivial⟩
  intro T H ⟨t0, t1, t6, t7, t9, t10, t11, _⟩
  refine W_seq_regc (fun T H => T 0 = (V.sl (List.map cI (a))) ∧ T 1 = (V.sl (List.map cI (b))) ∧ T 8 = (iV (cmpI (((nth (a) (k)))) (((nth (b) (k)))))) ∧ T 9 = (V.sl (List.map cI (a))) ∧ T 10 = (iV ((a.length : Nat) : Int)) ∧ T 11 = (iV ((k : Nat) : Int)) ∧ True) ?_ ?_
  ·
   unfold r101_7
   refine R_mv t6 ?_
   refine R_mv t7 ?_
   refine R_call (evcons (@rfl V (iV ((nth (a) (k))))) (evcons (@rfl V (iV ((nth (b) (k))))) evnil)) (cmpint_pure (((nth (a) (k)))) (((nth (b) (k))))) (fzv_mapcanon _ _ (by simp [-List.map_take, -List.map_drop, -List.map_append, -List.map_reverse])) (by simp [-List.map_take, -List.map_drop, -List.map_append, -List.map_reverse]) (Or.inl (by simp [-List.map_take, -List.map_drop, -List.map_append, -List.map_reverse])) ?_
   refine R_mv (@rfl V (iV (cmpI (((nth (a) (k)))) (((nth (b) (k))))))) ?_
   exact R_nil ⟨t0, t1, rfl, t9, t10, t11, trivial⟩
  intro T H ⟨t0, t1, t8, t9, t10, t11, _⟩
  refine W_seq_regc (fun T H => T 0 = (V.sl (List.map cI (a))) ∧ T 1 = (V.sl (List.map cI (b))) ∧ T 8 = (iV (cmpI (((nth (a) (k)))) (((nth (b) (k)))))) ∧ T 9 = (V.sl (List.map cI (a))) ∧ T 10 = (iV ((a.length : Nat) : Int)) ∧ T 11 = (iV ((k : Nat) : Int)) ∧ T 28 = (V.bool (decide ((cmpI (((nth (a) (k)))) (((nth (b) (k))))) ≠ (0 : Int)))) ∧ True) ?_ ?_
  ·
   unfold r101_8
   refine R_mv t8 ?_
   refine R_neq (x := (cmpI (((nth (a) (k)))) (((nth (b) (k)))))) (y := (0 : Int)) (@rfl V (iV (cmpI (((nth (a) (k)))) (((nth (b) (k))))))) (@rfl V (iV (0 : Int))) ?_
   exact R_nil ⟨t0, t1, t8, t9, t10, t11, rfl, trivial⟩
  intro T H ⟨t0, t1, t8, t9, t10, t11, t28, _⟩
  refine W_if (p := (cmpI (((nth (a) (k)))) (((nth (b) (k))))) ≠ (0 : Int)) t28 (fun c6 => ?_) (fun c6 => ?_)
  ·
   have c9 : nth a k ≠ nth b k := fun e => c6 (cmpI_zero.2 e)
   refine W_seq_regc (fun T H => T 4 = (iV (cmpI (((nth (a) (k)))) (((nth (b) (k)))))) ∧ True) ?_ ?_
   ·
    unfold r101_9
    refine R_mv t8 ?_
    refine R_mv (@rfl V (iV (cmpI (((nth (a) (k)))) (((nth (b) (k))))))) ?_
    exact R_nil ⟨rfl, trivial⟩
   intro T H ⟨t4, _⟩
   refine W_ret ?_
   refine y4 _ _ ?_
   refine p22 _ _ ?_
   refine y1 _ _ ?_
   refine Ret_1 t4 (fz_int ?_)
   · have g1 := cmn_l a b
     have g2 := cmn_r a b
     have g3 := cmn_at hc (by omega)
     simp only [lexI, cmpI, g3] at *; repeat (split <;> first | rfl | omega | skip)
  refine W_skip ?_
  refine n4 _ _ ?_
  refine .done ?_
  refine W_regc (fun T H => T 0 = (V.sl (List.map cI (a))) ∧ T 1 = (V.sl (List.map cI (b))) ∧ T 9 = (V.sl (List.map cI (a))) ∧ T 10 = (iV ((a.length : Nat) : Int)) ∧ T 11 = (iV ((k + 1 : Nat) : Int)) ∧ True) ?_ ?_
  ·
   unfold r101_10
   refine R_addN (m := k) (n := 1) t11 (@rfl V (iV ((1 : Nat) : Int))) (by omega) ?_
   refine R_mv (@rfl V (iV ((k + 1 : Nat) : Int))) ?_
   exact R_nil ⟨t0, t1, t9, t10, rfl, trivial⟩
  intro T H ⟨t0, t1, t9, t10, t11, _⟩
  refine p12 _ _ _ ?_ ⟨(k + 1), rfl, t0, t1, t9, t10, (Eq.trans t11 (by first | rfl | simp)), ?_, ?_⟩
  · omega
  · omega
  · exact cmn_next hc (by omega) (by omega) (cmpI_zero.1 (by omega))
 refine W_seq_exit ?_
 refine p32 _ _ _ ?_
 refine x1 _ _ ?_
 refine .done ?_
 refine W_seq_seq ?_
 refine W_seq_regc (fun T H => T 35 = (V.bool (decide (((a.length : Nat) : Int) < ((b.length : Nat) : Int)))) ∧ True) ?_ ?_
 ·
  unfold r101_11
  refine R_mv t0 ?_
  refine R_len (@rfl V (V.sl (List.map cI (a)))) ?_
  refine R_mv t1 ?_
  refine R_len (@rfl V (V.sl (List.map cI (b)))) ?_
  refine R_lss (x := ((a.length : Nat) : Int)) (y := ((b.length : Nat) : Int)) (@rfl V (iV ((a.length : Nat) : Int))) (@rfl V (iV ((b.length : Nat) : Int))) ?_
  exact R_nil ⟨rfl, trivial⟩
 intro T H ⟨t35, _⟩
 refine W_seq_if (p := ((a.length : Nat) : Int) < ((b.length : Nat) : Int)) t35 (fun c7 => ?_) (fun c7 => ?_)
 ·
  refine W_seq_seq ?_
  refine W_seq_regc (fun T H => T 4 = (iV (-1 : Int)) ∧ True) ?_ ?_
  ·
   unfold r101_12
   refine R_mv (@rfl V (iV (-1 : Int))) ?_
   exact R_nil ⟨rfl, trivial⟩
  intro T H ⟨t4, _⟩
  refine W_seq_ret ?_
  refine Ret_1 t4 (fz_int ?_)
  · have g1 := cmn_l a b
    have g2 := cmn_r a b
    have g3 := cmn_at hc (by omega)
    simp only [lexI, cmpI, g3] at *; repeat (split <;> first | rfl | omega | skip)
 refine W_seq_skip ?_
 refine W_seq_regc (fun T H => T 4 = (iV (0 : Int)) ∧ True) ?_ ?_
 ·
  unfold r101_13
  refine R_mv (@rfl V (iV (0 : Int))) ?_
  exact R_nil ⟨rfl, trivial⟩
 intro T H ⟨t4, _⟩
 refine W_ret ?_
 refine Ret_1 t4 (fz_int ?_)
 · have g1 := cmn_l a b
   have g2 := cmn_r a b
   have g3 := cmn_at hc (by omega)
   simp only [lexI, cmpI, g3] at *; repeat (split <;> first | rfl | omega | skip)

end Go.Proofs.Ytngkckefanbhgaa

namespace Go.Proofs.Ytngkckefanbhgaa
open Go Go.Proofs

theorem compare_pure (a b : List Int) : PureC Try.prog 66 [(V.sl (List.map cI (a))), (V.sl (List.map cI (b)))] (iV (slx a b)) := by
 refine pure_of_Wb true 6 Try.func66 s66_ok (by kernel_rfl) (by simp [s66]) (by simp) (by simp) fun hB => ?_
 simp only [bnd_map, bnd_int, bnd_bool, bnd_str, bnd_agg, bnd_pp, bnd_nil, bnd_cons, implies_true, and_true, true_and] at hB
 unfold s66
 dsimp only
 refine W_seq_regc (fun T H => T 0 = (V.sl (List.map cI (a))) ∧ T 1 = (V.sl (List.map cI (b))) ∧ True) ?_ ?_
 ·
  unfold r66_0
  refine R_mv (@rfl V (iV (0 : Int))) ?_
  exact R_nil ⟨rfl, rfl, trivial⟩
 intro T H ⟨t0, t1, _⟩
 refine W_seq_regc (fun T H => T 4 = (iV (orI ([(cmpI (((a.length : Nat) : Int)) (((b.length : Nat) : Int))), (lexI a b)]))) ∧ True) ?_ ?_
 ·
  unfold r66_1
  refine R_mv t0 ?_
  refine R_len (@rfl V (V.sl (List.map cI (a)))) ?_
  refine R_mv t1 ?_
  refine R_len (@rfl V (V.sl (List.map cI (b)))) ?_
  refine R_call (evcons (@rfl V (iV ((a.length : Nat) : Int))) (evcons (@rfl V (iV ((b.length : Nat) : Int))) evnil)) (cmpint_pure (((a.length : Nat) : Int)) (((b.length : Nat) : Int))) (fzv_mapcanon _ _ (by simp [-List.map_take, -List.map_drop, -List.map_append, -List.map_reverse])) (by simp [-List.map_take, -List.map_drop, -List.map_append, -List.map_reverse]) (Or.inl (by simp [-List.map_take, -List.map_drop, -List.map_append, -List.map_reverse])) ?_
  refine R_mv t0 ?_
  refine R_mv t1 ?_
  refine R_call (evcons (@rfl V (V.sl (List.map cI (a)))) (evcons (@rfl V (V.sl (List.map cI (b)))) evnil)) (scompare_pure a b) (fzv_mapcanon _ _ (by simp [-List.map_take, -List.map_drop, -List.map_append, -List.map_reverse])) (by simp [-List.map_take, -List.map_drop, -List.map_append, -List.map_reverse]) (Or.inl (by simp [-List.map_take, -List.map_drop, -List.map_append, -List.map_reverse])) ?_
  refine R_bslice (qs := [(0, (iV (cmpI (((a.length : Nat) : Int)) (((b.length : Nat) : Int))))), (1, (iV (lexI a b)))]) (rows := [[(iV (cmpI (((a.length : Nat) : Int)) (((b.length : Nat) : Int))))], [(iV (lexI a b))]]) (mcons (congrArg (fun v => (0, v)) (@rfl V (iV (cmpI (((a.length : Nat) : Int)) (((b.length : Nat) : Int)))))) (mcons (congrArg (fun v => (1, v)) (@rfl V (iV (lexI a b)))) rfl)) rfl ?_
  refine R_call (evcons (@rfl V (V.sl [[(iV (cmpI (((a.length : Nat) : Int)) (((b.length : Nat) : Int))))], [(iV (lexI a b))]])) evnil) (cmpor_pure ([(cmpI (((a.length : Nat) : Int)) (((b.length : Nat) : Int))), (lexI a b)]) (by simp)) (fzv_mapcanon _ _ (by simp [-List.map_take, -List.map_drop, -List.map_append, -List.map_reverse])) (by simp [-List.map_take, -List.map_drop, -List.map_append, -List.map_reverse]) (Or.inl (by simp [-List.map_take, -List.map_drop, -List.map_append, -List.map_reverse])) ?_
  refine R_mv (@rfl V (iV (orI ([(cmpI (((a.length : Nat) : Int)) (((b.length : Nat) : Int))), (lexI a b)])))) ?_
  exact R_nil ⟨rfl, trivial⟩
 intro T H ⟨t4, _⟩
 refine W_ret ?_
 refine Ret_1 t4 (fz_int ?_)
 · simp only [orI, cmpI, slx]; repeat (split <;> first | rfl | omega | skip)

end Go.Proofs.Ytngkckefanbhgaa

namespace Go.Proofs.Ytngkckefanbhgaa
open Go Go.Proofs

theorem order_pure (a b : Tr) : PureC Try.prog 79 [(V.agg [(V.sl (List.map cI (a.ni))), (V.sl (List.map cI (a.no)))]), (V.agg [(V.sl (List.map cI (b.ni))), (V.sl (List.map cI (b.no)))])] (iV (slx a.ni b.ni)) := by
 refine pure_of_Wb true 6 Try.func79 s79_ok (by kernel_rfl) (by simp [s79]) (by simp) (by simp) fun hB => ?_
 simp only [bnd_map, bnd_int, bnd_bool, bnd_str, bnd_agg, bnd_pp, bnd_nil, bnd_cons, implies_true, and_true, true_and] at hB
 unfold s79
 dsimp only
 refine W_seq_regc (fun T H => T 2 = (V.mp 2 1 0 0) ∧ T 3 = (V.mp 3 1 0 0) ∧ H 2 = (⟨1, true, false, 63, 2, [[(V.sl (List.map cI (a.ni))), (V.sl (List.map cI (a.no)))]]⟩ : Blk) ∧ H 3 = (⟨1, true, false, 63, 2, [[(V.sl (List.map cI (b.ni))), (V.sl (List.map cI (b.no)))]]⟩ : Blk) ∧ True) ?_ ?_
 ·
  unfold r79_0
  refine R_box (i := 2) (n := 0) (m := 2) (cs := [(V.sl (List.map cI (a.ni))), (V.sl (List.map cI (a.no)))]) rfl (congrArg Blk.ver rfl) (@rfl V (V.agg [(V.sl (List.map cI (a.ni))), (V.sl (List.map cI (a.no)))])) rfl rfl ?_
  refine R_box (i := 3) (n := 0) (m := 2) (cs := [(V.sl (List.map cI (b.ni))), (V.sl (List.map cI (b.no)))]) rfl (congrArg Blk.ver rfl) (@rfl V (V.agg [(V.sl (List.map cI (b.ni))), (V.sl (List.map cI (b.no)))])) rfl rfl ?_
  refine R_mv (@rfl V (iV (0 : Int))) ?_
  exact R_nil ⟨rfl, rfl, rfl, rfl, trivial⟩
 intro T H ⟨t2, t3, h2, h3, _⟩
 refine W_seq_regc (fun T H => T 4 = (iV (slx a.ni b.ni)) ∧ H 2 = (⟨1, true, false, 63, 2, [[(V.sl (List.map cI (a.ni))), (V.sl (List.map cI (a.no)))]]⟩ : Blk) ∧ H 3 = (⟨1, true, false, 63, 2, [[(V.sl (List.map cI (b.ni))), (V.sl (List.map cI (b.no)))]]⟩ : Blk) ∧ True) ?_ ?_
 ·
  unfold r79_1
  refine R_fld_mp (o' := 0) t2 h2 (by first | rfl | simp [okB, Blk.own]) rfl ?_
  refine R_load_mp (v := (V.sl (List.map cI (a.ni)))) (@rfl V (V.mp 2 1 0 0)) h2 (by first | rfl | simp [ldB, ldV, Blk.own, V.one]) ?_
  refine R_fld_mp (o' := 0) t3 h3 (by first | rfl | simp [okB, Blk.own]) rfl ?_
  refine R_load_mp (v := (V.sl (List.map cI (b.ni)))) (@rfl V (V.mp 3 1 0 0)) h3 (by first | rfl | simp [ldB, ldV, Blk.own, V.one]) ?_
  refine R_call (evcons (@rfl V (V.sl (List.map cI (a.ni)))) (evcons (@rfl V (V.sl (List.map cI (b.ni)))) evnil)) (compare_pure a.ni b.ni) (fzv_mapcanon _ _ (by simp [-List.map_take, -List.map_drop, -List.map_append, -List.map_reverse])) (by simp [-List.map_take, -List.map_drop, -List.map_append, -List.map_reverse]) (Or.inl (by simp [-List.map_take, -List.map_drop, -List.map_append, -List.map_reverse])) ?_
  refine R_mv (@rfl V (iV (slx a.ni b.ni))) ?_
  exact R_nil ⟨rfl, h2, h3, trivial⟩
 intro T H ⟨t4, h2, h3, _⟩
 refine W_ret ?_
 refine Ret_1 t4 (fz_canon (by simp) rfl)

end Go.Proofs.Ytngkckefanbhgaa

namespace Go.Proofs.Ytngkckefanbhgaa
open Go Go.Proofs

def r80_0 : List SO := [
  ⟨none, some 2, .mv (.c (.bool false))⟩]
def r80_1 : List SO := [
  ⟨none, some 4, .mv (.t 0)⟩,
  ⟨none, some 5, .call true 108 [.t 4]⟩,
  ⟨none, some 0, .mv (.t 5)⟩]
def r80_2 : List SO := [
  ⟨none, some 6, .mv (.t 0)⟩,
  ⟨none, some 7, .call true 109 [.t 6, .c (.fn 110 [] [])]⟩]
def r80_3 : List SO := [
  ⟨none, some 3, .mv (.c (.int .i64 1))⟩]
def r80_4 : List SO := [
  ⟨none, some 8, .mv (.t 3)⟩,
  ⟨none, some 9, .mv (.t 0)⟩,
  ⟨none, some 10, .len (.t 9)⟩,
  ⟨none, some 11, .bin .lss (.t 8) (.t 10)⟩]
def r80_6 : List SO := [
  ⟨none, some 14, .mv (.t 0)⟩,
  ⟨none, some 15, .mv (.t 3)⟩,
  ⟨none, some 16, .idx 2 (.t 14) (.t 15)⟩,
  ⟨none, some 17, .fld 0 (.t 16)⟩,
  ⟨none, some 18, .load false 1 (.t 17)⟩,
  ⟨none, some 19, .mv (.t 0)⟩,
  ⟨none, some 20, .mv (.t 3)⟩,
  ⟨none, some 21, .bin .sub (.t 20) (.c (.int .i64 1))⟩,
  ⟨none, some 22, .idx 2 (.t 19) (.t 21)⟩,
  ⟨none, some 23, .fld 0 (.t 22)⟩,
  ⟨none, some 24, .load false 1 (.t 23)⟩,
  ⟨none, some 25, .call false 76 [.t 18, .t 24]⟩,
  ⟨none, some 26, .mv (.t 25)⟩,
  ⟨some (26, false), some 27, .mv (.t 0)⟩,
  ⟨some (26, false), some 28, .mv (.t 3)⟩,
  ⟨some (26, false), some 29, .bin .sub (.t 28) (.c (.int .i64 1))⟩,
  ⟨some (26, false), some 30, .idx 2 (.t 27) (.t 29)⟩,
  ⟨some (26, false), some 31, .load true 2 (.t 30)⟩,
  ⟨some (26, false), some 32, .mv (.t 0)⟩,
  ⟨some (26, false), some 33, .mv (.t 3)⟩,
  ⟨some (26, false), some 34, .idx 2 (.t 32) (.t 33)⟩,
  ⟨some (26, false), some 35, .load true 2 (.t 34)⟩,
  ⟨some (26, false), some 36, .call false 84 [.t 31, .t 35]⟩,
  ⟨some (26, false), some 37, .bin .geq (.t 36) (.c (.int .i64 0))⟩,
  ⟨none, some 38, .pick (.t 26) (.c (.bool true)) (.t 37)⟩]
def r80_7 : List SO := [
  ⟨none, some 2, .mv (.c (.bool false))⟩]
def r80_5 : List SO := [
  ⟨none, some 12, .mv (.t 3)⟩,
  ⟨none, some 13, .bin .add (.t 12) (.c (.int .i64 1))⟩,
  ⟨none, some 3, .mv (.t 13)⟩]
def b80_0 : SC := .seq (.seq (.reg r80_4) (.cond (.t 11) (.skip) (.exit 0))) (.seq (.block 1 (.seq (.reg r80_6) (.cond (.t 38) (.seq (.reg r80_7) (.ret)) (.skip)))) (.reg r80_5))
def r80_8 : List SO := [
  ⟨none, some 2, .mv (.c (.bool true))⟩]
def s80 : SF := ⟨39, [.tmp 2], .seq (.reg r80_0) (.seq (.reg r80_1) (.seq (.reg r80_2) (.seq (.seq (.reg r80_3) (.block 0 (.loop b80_0))) (.seq (.reg r80_8) (.ret)))))⟩
theorem s80_ok : slimF Try.prog ⟨[94, 102, 103, 108, 109, 116, 119, 121, 125], []⟩ Try.f80 = some s80 := by kernel_rfl

end Go.Proofs.Ytngkckefanbhgaa

namespace Go.Proofs.Ytngkckefanbhgaa
open Go Go.Proofs

def r76_0 : List SO := [
  ⟨none, some 4, .mv (.c (.bool false))⟩]
def r76_1 : List SO := [
  ⟨none, some 5, .mv (.t 0)⟩,
  ⟨none, some 6, .mv (.t 1)⟩,
  ⟨none, some 7, .call false 69 [.t 5, .t 6]⟩,
  ⟨none, some 8, .mv (.t 1)⟩,
  ⟨none, some 9, .len (.t 8)⟩,
  ⟨none, some 10, .bin .eql (.t 7) (.t 9)⟩,
  ⟨none, some 4, .mv (.t 10)⟩]
def s76 : SF := ⟨11, [.tmp 4], .seq (.reg r76_0) (.seq (.reg r76_1) (.ret))⟩
theorem s76_ok : slimF Try.prog ⟨[94, 102, 103, 108, 109, 116, 119, 121, 125], []⟩ Try.f76 = some s76 := by kernel_rfl

end Go.Proofs.Ytngkckefanbhgaa

namespace Go.Proofs.Ytngkckefanbhgaa
open Go Go.Proofs

def r69_0 : List SO := [
  ⟨none, some 4, .mv (.c (.int .i64 0))⟩]
def r69_1 : List SO := [
  ⟨none, some 6, .mv (.t 0)⟩,
  ⟨none, some 7, .len (.t 6)⟩,
  ⟨none, some 8, .mv (.t 1)⟩,
  ⟨none, some 9, .len (.t 8)⟩,
  ⟨none, some 10, .mn (.t 7) (.t 9)⟩,
  ⟨none, some 11, .mv (.c (.int .i64 0))⟩]
def r69_2 : List SO := [
  ⟨none, some 12, .bin .lss (.t 11) (.t 10)⟩]
def r69_3 : List SO := [
  ⟨none, some 13, .mv (.t 11)⟩,
  ⟨none, some 5, .mv (.t 13)⟩]
def r69_4 : List SO := [
  ⟨none, some 14, .mv (.t 0)⟩,
  ⟨none, some 15, .mv (.t 5)⟩,
  ⟨none, some 16, .idx 1 (.t 14) (.t 15)⟩,
  ⟨none, some 17, .load false 1 (.t 16)⟩,
  ⟨none, some 18, .mv (.t 1)⟩,
  ⟨none, some 19, .mv (.t 5)⟩,
  ⟨none, some 20, .idx 1 (.t 18) (.t 19)⟩,
  ⟨none, some 21, .load false 1 (.t 20)⟩,
  ⟨none, some 22, .bin .neq (.t 17) (.t 21)⟩]
def r69_5 : List SO := [
  ⟨none, some 23, .mv (.t 5)⟩,
  ⟨none, some 4, .mv (.t 23)⟩]
def r69_6 : List SO := [
  ⟨none, some 24, .bin .add (.t 11) (.c (.int .i64 1))⟩,
  ⟨none, some 11, .mv (.t 24)⟩]
def b69_0 : SC := .seq (.reg r69_2) (.seq (.cond (.t 12) (.skip) (.exit 0)) (.seq (.block 1 (.seq (.reg r69_3) (.seq (.reg r69_4) (.cond (.t 22) (.seq (.reg r69_5) (.ret)) (.skip))))) (.reg r69_6)))
def r69_7 : List SO := [
  ⟨none, some 25, .mv (.t 0)⟩,
  ⟨none, some 26, .len (.t 25)⟩,
  ⟨none, some 27, .mv (.t 1)⟩,
  ⟨none, some 28, .len (.t 27)⟩,
  ⟨none, some 29, .mn (.t 26) (.t 28)⟩,
  ⟨none, some 4, .mv (.t 29)⟩]
def s69 : SF := ⟨30, [.tmp 4], .seq (.reg r69_0) (.seq (.seq (.reg r69_1) (.block 0 (.loop b69_0))) (.seq (.reg r69_7) (.ret)))⟩
theorem s69_ok : slimF Try.prog ⟨[94, 102, 103, 108, 109, 116, 119, 121, 125], []⟩ Try.f69 = some s69 := by kernel_rfl

end Go.Proofs.Ytngkckefanbhgaa

namespace Go.Proofs.Ytngkckefanbhgaa
open Go Go.Proofs

theorem common_pure (a b : List Int) : PureC Try.prog 69 [(V.sl (List.map cI (a))), (V.sl (List.map cI (b)))] (iV ((cmn a b : Nat) : Int)) := by
 refine pure_of_Wb true 6 Try.func69 s69_ok (by kernel_rfl) (by simp [s69]) (by simp) (by simp) fun hB => ?_
 simp only [bnd_map, bnd_int, bnd_bool, bnd_str, bnd_agg, bnd_pp, bnd_nil, bnd_cons, implies_true, and_true, true_and] at hB
 unfold s69
 dsimp only
 refine W_seq_regc (fun T H => T 0 = (V.sl (List.map cI (a))) ∧ T 1 = (V.sl (List.map cI (b))) ∧ True) ?_ ?_
 ·
  unfold r69_0
  refine R_mv (@rfl V (iV (0 : Int))) ?_
  exact R_nil ⟨rfl, rfl, trivial⟩
 intro T H ⟨t0, t1, _⟩
 refine W_seq_seq ?_
 refine W_seq_regc (fun T H => T 0 = (V.sl (List.map cI (a))) ∧ T 1 = (V.sl (List.map cI (b))) ∧ T 10 = (iV ((min a.length b.length : Nat) : Int)) ∧ T 11 = (iV (0 : Int)) ∧ True) ?_ ?_
 ·
  unfold r69_1
  refine R_mv t0 ?_
  refine R_len (@rfl V (V.sl (List.map cI (a)))) ?_
  refine R_mv t1 ?_
  refine R_len (@rfl V (V.sl (List.map cI (b)))) ?_
  refine R_mnN (m := a.length) (n := b.length) (@rfl V (iV ((a.length : Nat) : Int))) (@rfl V (iV ((b.length : Nat) : Int))) ?_
  refine R_mv (@rfl V (iV (0 : Int))) ?_
  exact R_nil ⟨t0, t1, rfl, rfl, trivial⟩
 intro T H ⟨t0, t1, t10, t11, _⟩
 refine W_seq_blockg fun Q1 n1 x1 y1 z1 => ?_
 refine W_loop (fun mm T H => ∃ (k : Nat), mm = (min a.length b.length) - k ∧ T 0 = (V.sl (List.map cI (a))) ∧ T 1 = (V.sl (List.map cI (b))) ∧ T 10 = (iV ((min a.length b.length : Nat) : Int)) ∧ T 11 = (iV ((k : Nat) : Int)) ∧ (k ≤ min a.length b.length) ∧ (k ≤ cmn a b)) ?_ ?_
 ·
  refine ⟨_, 0, rfl, t0, t1, t10, (Eq.trans t11 (by first | rfl | simp)), ?_, ?_⟩
  · omega
  · exact Nat.zero_le _
 intro mm T H ⟨k, hmm, t0, t1, t10, t11, hk, hc⟩ Q2 p12 p22 p32
 unfold b69_0
 refine W_seq_regc (fun T H => T 0 = (V.sl (List.map cI (a))) ∧ T 1 = (V.sl (List.map cI (b))) ∧ T 10 = (iV ((min a.length b.length : Nat) : Int)) ∧ T 11 = (iV ((k : Nat) : Int)) ∧ T 12 = (V.bool (decide (((k : Nat) : Int) < ((min a.length b.length : Nat) : Int)))) ∧ True) ?_ ?_
 ·
  unfold r69_2
  refine R_lss (x := ((k : Nat) : Int)) (y := ((min a.length b.length : Nat) : Int)) t11 t10 ?_
  exact R_nil ⟨t0, t1, t10, t11, rfl, trivial⟩
 intro T H ⟨t0, t1, t10, t11, t12, _⟩
 refine W_seq_if (p := ((k : Nat) : Int) < ((min a.length b.length : Nat) : Int)) t12 (fun c3 => ?_) (fun c3 => ?_)
 ·
  refine W_seq_skip ?_
  refine W_seq_blockg fun Q4 n4 x4 y4 z4 => ?_
  refine W_seq_regc (fun T H => T 0 = (V.sl (List.map cI (a))) ∧ T 1 = (V.sl (List.map cI (b))) ∧ T 5 = (iV ((k : Nat) : Int)) ∧ T 10 = (iV ((min a.length b.length : Nat) : Int)) ∧ T 11 = (iV ((k : Nat) : Int)) ∧ True) ?_ ?_
  ·
   unfold r69_3
   refine R_mv t11 ?_
   refine R_mv (@rfl V (iV ((k : Nat) : Int))) ?_
   exact R_nil ⟨t0, t1, rfl, t10, t11, trivial⟩
  intro T H ⟨t0, t1, t5, t10, t11, _⟩
  refine W_seq_regc (fun T H => T 0 = (V.sl (List.map cI (a))) ∧ T 1 = (V.sl (List.map cI (b))) ∧ T 5 = (iV ((k : Nat) : Int)) ∧ T 10 = (iV ((min a.length b.length : Nat) : Int)) ∧ T 11 = (iV ((k : Nat) : Int)) ∧ T 22 = (V.bool (decide (((nth (a) (k))) ≠ ((nth (b) (k)))))) ∧ True) ?_ ?_
  ·
   unfold r69_4
   refine R_mv t0 ?_
   refine R_mv t5 ?_
   refine R_idx (i := k) (@rfl V (V.sl (List.map cI (a)))) (@rfl V (iV ((k : Nat) : Int))) (by omega) rfl ?_
   refine R_load_pp (v := (iV ((nth (a) (k))))) (@rfl V (V.pp [(iV ((nth (a) (k))))])) (by first | rfl | simp [ldV]) ?_
   refine R_mv t1 ?_
   refine R_mv t5 ?_
   refine R_idx (i := k) (@rfl V (V.sl (List.map cI (b)))) (@rfl V (iV ((k : Nat) : Int))) (by omega) rfl ?_
   refine R_load_pp (v := (iV ((nth (b) (k))))) (@rfl V (V.pp [(iV ((nth (b) (k))))])) (by first | rfl | simp [ldV]) ?_
   refine R_neq (x := ((nth (a) (k)))) (y := ((nth (b) (k)))) (@rfl V (iV ((nth (a) (k))))) (@rfl V (iV ((nth (b) (k))))) ?_
   exact R_nil ⟨t0, t1, t5, t10, t11, rfl, trivial⟩
  intro T H ⟨t0, t1, t5, t10, t11, t22, _⟩
  refine W_if (p := ((nth (a) (k))) ≠ ((nth (b) (k)))) t22 (fun c5 => ?_) (fun c5 => ?_)
  ·
   refine W_seq_regc (fun T H => T 4 = (iV ((k : Nat) : Int)) ∧ True) ?_ ?_
   ·
    unfold r69_5
    refine R_mv t5 ?_
    refine R_mv (@rfl V (iV ((k : Nat) : Int))) ?_
    exact R_nil ⟨rfl, trivial⟩
   intro T H ⟨t4, _⟩
   refine W_ret ?_
   refine y4 _ _ ?_
   refine p22 _ _ ?_
   refine y1 _ _ ?_
   refine Ret_1 t4 (fz_int ?_)
   · rw [cmn_at hc (by omega)]
  refine W_skip ?_
  refine n4 _ _ ?_
  refine .done ?_
  refine W_regc (fun T H => T 0 = (V.sl (List.map cI (a))) ∧ T 1 = (V.sl (List.map cI (b))) ∧ T 10 = (iV ((min a.length b.length : Nat) : Int)) ∧ T 11 = (iV ((k + 1 : Nat) : Int)) ∧ True) ?_ ?_
  ·
   unfold r69_6
   refine R_addN (m := k) (n := 1) t11 (@rfl V (iV ((1 : Nat) : Int))) (by omega) ?_
   refine R_mv (@rfl V (iV ((k + 1 : Nat) : Int))) ?_
   exact R_nil ⟨t0, t1, t10, rfl, trivial⟩
  intro T H ⟨t0, t1, t10, t11, _⟩
  refine p12 _ _ _ ?_ ⟨(k + 1), rfl, t0, t1, t10, (Eq.trans t11 (by first | rfl | simp)), ?_, ?_⟩
  · omega
  · omega
  · exact cmn_next hc (by omega) (by omega) (by omega)
 refine W_seq_exit ?_
 refine p32 _ _ _ ?_
 refine x1 _ _ ?_
 refine .done ?_
 refine W_seq_regc (fun T H => T 4 = (iV ((min a.length b.length : Nat) : Int)) ∧ True) ?_ ?_
 ·
  unfold r69_7
  refine R_mv t0 ?_
  refine R_len (@rfl V (V.sl (List.map cI (a)))) ?_
  refine R_mv t1 ?_
  refine R_len (@rfl V (V.sl (List.map cI (b)))) ?_
  refine R_mnN (m := a.length) (n := b.length) (@rfl V (iV ((a.length : Nat) : Int))) (@rfl V (iV ((b.length : Nat) : Int))) ?_
  refine R_mv (@rfl V (iV ((min a.length b.length : Nat) : Int))) ?_
  exact R_nil ⟨rfl, trivial⟩
 intro T H ⟨t4, _⟩
 refine W_ret ?_
 refine Ret_1 t4 (fz_int ?_)
 · rw [cmn_at hc (by omega)]; omega

end Go.Proofs.Ytngkckefanbhgaa

namespace Go.Proofs.Ytngkckefanbhgaa
open Go Go.Proofs

theorem hp_pure (w p : List Int) : PureC Try.prog 76 [(V.sl (List.map cI (w))), (V.sl (List.map cI (p)))] (V.bool (hp w p)) := by
 refine pure_of_Wb true 6 Try.func76 s76_ok (by kernel_rfl) (by simp [s76]) (by simp) (by simp) fun hB => ?_
 simp only [bnd_map, bnd_int, bnd_bool, bnd_str, bnd_agg, bnd_pp, bnd_nil, bnd_cons, implies_true, and_true, true_and] at hB
 unfold s76
 dsimp only
 refine W_seq_regc (fun T H => T 0 = (V.sl (List.map cI (w))) ∧ T 1 = (V.sl (List.map cI (p))) ∧ True) ?_ ?_
 ·
  unfold r76_0
  refine R_mv (@rfl V (V.bool false)) ?_
  exact R_nil ⟨rfl, rfl, trivial⟩
 intro T H ⟨t0, t1, _⟩
 refine W_seq_regc (fun T H => T 4 = (V.bool (decide (((cmn w p : Nat) : Int) = ((p.length : Nat) : Int)))) ∧ True) ?_ ?_
 ·
  unfold r76_1
  refine R_mv t0 ?_
  refine R_mv t1 ?_
  have q1 := cmn_l w p
  have q2 := cmn_r w p
  refine R_call (evcons (@rfl V (V.sl (List.map cI (w)))) (evcons (@rfl V (V.sl (List.map cI (p)))) evnil)) (common_pure w p) (fzv_mapcanon _ _ (by simp [-List.map_take, -List.map_drop, -List.map_append, -List.map_reverse])) (by simp [-List.map_take, -List.map_drop, -List.map_append, -List.map_reverse]) (Or.inl (by simp [-List.map_take, -List.map_drop, -List.map_append, -List.map_reverse])) ?_
  refine R_mv t1 ?_
  refine R_len (@rfl V (V.sl (List.map cI (p)))) ?_
  refine R_eql (x := ((cmn w p : Nat) : Int)) (y := ((p.length : Nat) : Int)) (@rfl V (iV ((cmn w p : Nat) : Int))) (@rfl V (iV ((p.length : Nat) : Int))) ?_
  refine R_mv (@rfl V (V.bool (decide (((cmn w p : Nat) : Int) = ((p.length : Nat) : Int))))) ?_
  exact R_nil ⟨rfl, trivial⟩
 intro T H ⟨t4, _⟩
 have q3 := cmn_l w p
 have q4 := cmn_r w p
 refine W_ret ?_
 refine Ret_1 t4 (fz_bool ?_)
 · unfold hp; exact decide_eq_decide.2 (by omega)

end Go.Proofs.Ytngkckefanbhgaa

namespace Go.Proofs.Ytngkckefanbhgaa
open Go Go.Proofs

def r84_0 : List SO := [
  ⟨none, some 2, .box 63 2 (.t 0)⟩,
  ⟨none, some 3, .box 63 2 (.t 1)⟩,
  ⟨none, some 4, .mv (.c (.int .i64 0))⟩]
def r84_1 : List SO := [
  ⟨none, some 7, .fld 0 (.t 2)⟩,
  ⟨none, some 8, .load false 1 (.t 7)⟩,
  ⟨none, some 9, .fld 0 (.t 3)⟩,
  ⟨none, some 10, .load false 1 (.t 9)⟩,
  ⟨none, some 11, .call false 69 [.t 8, .t 10]⟩,
  ⟨none, some 12, .fld 1 (.t 2)⟩,
  ⟨none, some 13, .load false 1 (.t 12)⟩,
  ⟨none, some 14, .len (.t 13)⟩,
  ⟨none, some 15, .fld 1 (.t 3)⟩,
  ⟨none, some 16, .load false 1 (.t 15)⟩,
  ⟨none, some 17, .len (.t 16)⟩,
  ⟨none, some 18, .mn3 (.t 11) (.t 14) (.t 17)⟩,
  ⟨none, some 5, .mv (.t 18)⟩]
def r84_2 : List SO := [
  ⟨none, some 19, .fld 1 (.t 2)⟩,
  ⟨none, some 20, .load false 1 (.t 19)⟩,
  ⟨none, some 21, .mv (.t 5)⟩,
  ⟨none, some 22, .slice 1 (.t 20) none (some (.t 21))⟩,
  ⟨none, some 23, .fld 1 (.t 3)⟩,
  ⟨none, some 24, .load false 1 (.t 23)⟩,
  ⟨none, some 25, .mv (.t 5)⟩,
  ⟨none, some 26, .slice 1 (.t 24) none (some (.t 25))⟩,
  ⟨none, some 27, .call false 69 [.t 22, .t 26]⟩,
  ⟨none, some 6, .mv (.t 27)⟩]
def r84_3 : List SO := [
  ⟨none, some 28, .mv (.t 6)⟩,
  ⟨none, some 29, .mv (.t 5)⟩,
  ⟨none, some 30, .bin .lss (.t 28) (.t 29)⟩]
def r84_4 : List SO := [
  ⟨none, some 31, .mv (.t 6)⟩,
  ⟨none, some 4, .mv (.t 31)⟩]
def r84_5 : List SO := [
  ⟨none, some 4, .mv (.c (.int .i64 (-1)))⟩]
def s84 : SF := ⟨32, [.tmp 4], .seq (.reg r84_0) (.seq (.reg r84_1) (.seq (.seq (.reg r84_2) (.seq (.reg r84_3) (.cond (.t 30) (.seq (.reg r84_4) (.ret)) (.skip)))) (.seq (.reg r84_5) (.ret))))⟩
theorem s84_ok : slimF Try.prog ⟨[94, 102, 103, 108, 109, 116, 119, 121, 125], []⟩ Try.f84 = some s84 := by kernel_rfl

end Go.Proofs.Ytngkckefanbhgaa

namespace Go.Proofs.Ytngkckefanbhgaa
open Go Go.Proofs

theorem odiffer_pure (a b : Tr) (ha : a.no.length = a.ni.length) (hb : b.no.length = b.ni.length) : PureC Try.prog 84 [(V.agg [(V.sl (List.map cI (a.ni))), (V.sl (List.map cI (a.no)))]), (V.agg [(V.sl (List.map cI (b.ni))), (V.sl (List.map cI (b.no)))])] (iV (df a b)) := by
 refine pure_of_Wb true 6 Try.func84 s84_ok (by kernel_rfl) (by simp [s84]) (by simp) (by simp) fun hB => ?_
 simp only [bnd_map, bnd_int, bnd_bool, bnd_str, bnd_agg, bnd_pp, bnd_nil, bnd_cons, implies_true, and_true, true_and] at hB
 unfold s84
 dsimp only
 refine W_seq_regc (fun T H => T 2 = (V.mp 2 1 0 0) ∧ T 3 = (V.mp 3 1 0 0) ∧ H 2 = (⟨1, true, false, 63, 2, [[(V.sl (List.map cI (a.ni))), (V.sl (List.map cI (a.no)))]]⟩ : Blk) ∧ H 3 = (⟨1, true, false, 63, 2, [[(V.sl (List.map cI (b.ni))), (V.sl (List.map cI (b.no)))]]⟩ : Blk) ∧ True) ?_ ?_
 ·
  unfold r84_0
  refine R_box (i := 2) (n := 0) (m := 2) (cs := [(V.sl (List.map cI (a.ni))), (V.sl (List.map cI (a.no)))]) rfl (congrArg Blk.ver rfl) (@rfl V (V.agg [(V.sl (List.map cI (a.ni))), (V.sl (List.map cI (a.no)))])) rfl rfl ?_
  refine R_box (i := 3) (n := 0) (m := 2) (cs := [(V.sl (List.map cI (b.ni))), (V.sl (List.map cI (b.no)))]) rfl (congrArg Blk.ver rfl) (@rfl V (V.agg [(V.sl (List.map cI (b.ni))), (V.sl (List.map cI (b.no)))])) rfl rfl ?_
  refine R_mv (@rfl V (iV (0 : Int))) ?_
  exact R_nil ⟨rfl, rfl, rfl, rfl, trivial⟩
 intro T H ⟨t2, t3, h2, h3, _⟩
 refine W_seq_regc (fun T H => T 2 = (V.mp 2 1 0 0) ∧ T 3 = (V.mp 3 1 0 0) ∧ T 5 = (iV ((min (min (cmn a.ni b.ni) a.no.length) b.no.length : Nat) : Int)) ∧ H 2 = (⟨1, true, false, 63, 2, [[(V.sl (List.map cI (a.ni))), (V.sl (List.map cI (a.no)))]]⟩ : Blk) ∧ H 3 = (⟨1, true, false, 63, 2, [[(V.sl (List.map cI (b.ni))), (V.sl (List.map cI (b.no)))]]⟩ : Blk) ∧ True) ?_ ?_
 ·
  unfold r84_1
  refine R_fld_mp (o' := 0) t2 h2 (by first | rfl | simp [okB, Blk.own]) rfl ?_
  refine R_load_mp (v := (V.sl (List.map cI (a.ni)))) (@rfl V (V.mp 2 1 0 0)) h2 (by first | rfl | simp [ldB, ldV, Blk.own, V.one]) ?_
  refine R_fld_mp (o' := 0) t3 h3 (by first | rfl | simp [okB, Blk.own]) rfl ?_
  refine R_load_mp (v := (V.sl (List.map cI (b.ni)))) (@rfl V (V.mp 3 1 0 0)) h3 (by first | rfl | simp [ldB, ldV, Blk.own, V.one]) ?_
  have q1 := cmn_l a.ni b.ni
  have q2 := cmn_r a.ni b.ni
  refine R_call (evcons (@rfl V (V.sl (List.map cI (a.ni)))) (evcons (@rfl V (V.sl (List.map cI (b.ni)))) evnil)) (common_pure a.ni b.ni) (fzv_mapcanon _ _ (by simp [-List.map_take, -List.map_drop, -List.map_append, -List.map_reverse])) (by simp [-List.map_take, -List.map_drop, -List.map_append, -List.map_reverse]) (Or.inl (by simp [-List.map_take, -List.map_drop, -List.map_append, -List.map_reverse])) ?_
  refine R_fld_mp (o' := 1) t2 h2 (by first | rfl | simp [okB, Blk.own]) rfl ?_
  refine R_load_mp (v := (V.sl (List.map cI (a.no)))) (@rfl V (V.mp 2 1 0 1)) h2 (by first | rfl | simp [ldB, ldV, Blk.own, V.one]) ?_
  refine R_len (@rfl V (V.sl (List.map cI (a.no)))) ?_
  refine R_fld_mp (o' := 1) t3 h3 (by first | rfl | simp [okB, Blk.own]) rfl ?_
  refine R_load_mp (v := (V.sl (List.map cI (b.no)))) (@rfl V (V.mp 3 1 0 1)) h3 (by first | rfl | simp [ldB, ldV, Blk.own, V.one]) ?_
  refine R_len (@rfl V (V.sl (List.map cI (b.no)))) ?_
  refine R_mn3N (m := (cmn a.ni b.ni)) (n := a.no.length) (q := b.no.length) (@rfl V (iV ((cmn a.ni b.ni : Nat) : Int))) (@rfl V (iV ((a.no.length : Nat) : Int))) (@rfl V (iV ((b.no.length : Nat) : Int))) ?_
  refine R_mv (@rfl V (iV ((min (min (cmn a.ni b.ni) a.no.length) b.no.length : Nat) : Int))) ?_
  exact R_nil ⟨t2, t3, rfl, h2, h3, trivial⟩
 intro T H ⟨t2, t3, t5, h2, h3, _⟩
 have q3 := cmn_l a.ni b.ni
 have q4 := cmn_r a.ni b.ni
 refine W_seq_seq ?_
 refine W_seq_regc (fun T H => T 5 = (iV ((min (min (cmn a.ni b.ni) a.no.length) b.no.length : Nat) : Int)) ∧ T 6 = (iV ((cmn (List.take (min (min (cmn a.ni b.ni) a.no.length) b.no.length) (a.no)) (List.take (min (min (cmn a.ni b.ni) a.no.length) b.no.length) (b.no)) : Nat) : Int)) ∧ H 2 = (⟨1, true, false, 63, 2, [[(V.sl (List.map cI (a.ni))), (V.sl (List.map cI (a.no)))]]⟩ : Blk) ∧ H 3 = (⟨1, true, false, 63, 2, [[(V.sl (List.map cI (b.ni))), (V.sl (List.map cI (b.no)))]]⟩ : Blk) ∧ True) ?_ ?_
 ·
  unfold r84_2
  refine R_fld_mp (o' := 1) t2 h2 (by first | rfl | simp [okB, Blk.own]) rfl ?_
  refine R_load_mp (v := (V.sl (List.map cI (a.no)))) (@rfl V (V.mp 2 1 0 1)) h2 (by first | rfl | simp [ldB, ldV, Blk.own, V.one]) ?_
  refine R_mv t5 ?_
  refine R_slice_hi (n := (min (min (cmn a.ni b.ni) a.no.length) b.no.length)) (@rfl V (V.sl (List.map cI (a.no)))) (@rfl V (iV ((min (min (cmn a.ni b.ni) a.no.length) b.no.length : Nat) : Int))) (by omega) (fun _ => rfl) ?_
  refine R_fld_mp (o' := 1) t3 h3 (by first | rfl | simp [okB, Blk.own]) rfl ?_
  refine R_load_mp (v := (V.sl (List.map cI (b.no)))) (@rfl V (V.mp 3 1 0 1)) h3 (by first | rfl | simp [ldB, ldV, Blk.own, V.one]) ?_
  refine R_mv t5 ?_
  refine R_slice_hi (n := (min (min (cmn a.ni b.ni) a.no.length) b.no.length)) (@rfl V (V.sl (List.map cI (b.no)))) (@rfl V (iV ((min (min (cmn a.ni b.ni) a.no.length) b.no.length : Nat) : Int))) (by omega) (fun _ => rfl) ?_
  have q5 := cmn_l (List.take (min (min (cmn a.ni b.ni) a.no.length) b.no.length) (a.no)) (List.take (min (min (cmn a.ni b.ni) a.no.length) b.no.length) (b.no))
  have q6 := cmn_r (List.take (min (min (cmn a.ni b.ni) a.no.length) b.no.length) (a.no)) (List.take (min (min (cmn a.ni b.ni) a.no.length) b.no.length) (b.no))
  refine R_call (evcons (@rfl V (V.sl (List.map cI (List.take (min (min (cmn a.ni b.ni) a.no.length) b.no.length) (a.no))))) (evcons (@rfl V (V.sl (List.map cI (List.take (min (min (cmn a.ni b.ni) a.no.length) b.no.length) (b.no))))) evnil)) (common_pure (List.take (min (min (cmn a.ni b.ni) a.no.length) b.no.length) (a.no)) (List.take (min (min (cmn a.ni b.ni) a.no.length) b.no.length) (b.no))) (fzv_mapcanon _ _ (by simp [-List.map_take, -List.map_drop, -List.map_append, -List.map_reverse])) (by simp [-List.map_take, -List.map_drop, -List.map_append, -List.map_reverse]) (Or.inl (by simp [-List.map_take, -List.map_drop, -List.map_append, -List.map_reverse])) ?_
  refine R_mv (@rfl V (iV ((cmn (List.take (min (min (cmn a.ni b.ni) a.no.length) b.no.length) (a.no)) (List.take (min (min (cmn a.ni b.ni) a.no.length) b.no.length) (b.no)) : Nat) : Int))) ?_
  exact R_nil ⟨t5, rfl, h2, h3, trivial⟩
 intro T H ⟨t5, t6, h2, h3, _⟩
 have q7 := cmn_l (List.take (min (min (cmn a.ni b.ni) a.no.length) b.no.length) (a.no)) (List.take (min (min (cmn a.ni b.ni) a.no.length) b.no.length) (b.no))
 have q8 := cmn_r (List.take (min (min (cmn a.ni b.ni) a.no.length) b.no.length) (a.no)) (List.take (min (min (cmn a.ni b.ni) a.no.length) b.no.length) (b.no))
 refine W_seq_seq ?_
 refine W_seq_regc (fun T H => T 6 = (iV ((cmn (List.take (min (min (cmn a.ni b.ni) a.no.length) b.no.length) (a.no)) (List.take (min (min (cmn a.ni b.ni) a.no.length) b.no.length) (b.no)) : Nat) : Int)) ∧ T 30 = (V.bool (decide (((cmn (List.take (min (min (cmn a.ni b.ni) a.no.length) b.no.length) (a.no)) (List.take (min (min (cmn a.ni b.ni) a.no.length) b.no.length) (b.no)) : Nat) : Int) < ((min (min (cmn a.ni b.ni) a.no.length) b.no.length : Nat) : Int)))) ∧ H 2 = (⟨1, true, false, 63, 2, [[(V.sl (List.map cI (a.ni))), (V.sl (List.map cI (a.no)))]]⟩ : Blk) ∧ H 3 = (⟨1, true, false, 63, 2, [[(V.sl (List.map cI (b.ni))), (V.sl (List.map cI (b.no)))]]⟩ : Blk) ∧ True) ?_ ?_
 ·
  unfold r84_3
  refine R_mv t6 ?_
  refine R_mv t5 ?_
  refine R_lss (x := ((cmn (List.take (min (min (cmn a.ni b.ni) a.no.length) b.no.length) (a.no)) (List.take (min (min (cmn a.ni b.ni) a.no.length) b.no.length) (b.no)) : Nat) : Int)) (y := ((min (min (cmn a.ni b.ni) a.no.length) b.no.length : Nat) : Int)) (@rfl V (iV ((cmn (List.take (min (min (cmn a.ni b.ni) a.no.length) b.no.length) (a.no)) (List.take (min (min (cmn a.ni b.ni) a.no.length) b.no.length) (b.no)) : Nat) : Int))) (@rfl V (iV ((min (min (cmn a.ni b.ni) a.no.length) b.no.length : Nat) : Int))) ?_
  exact R_nil ⟨t6, rfl, h2, h3, trivial⟩
 intro T H ⟨t6, t30, h2, h3, _⟩
 refine W_seq_if (p := ((cmn (List.take (min (min (cmn a.ni b.ni) a.no.length) b.no.length) (a.no)) (List.take (min (min (cmn a.ni b.ni) a.no.length) b.no.length) (b.no)) : Nat) : Int) < ((min (min (cmn a.ni b.ni) a.no.length) b.no.length : Nat) : Int)) t30 (fun c9 => ?_) (fun c9 => ?_)
 ·
  have d1 := c9
  refine W_seq_seq ?_
  refine W_seq_regc (fun T H => T 4 = (iV ((cmn (List.take (min (min (cmn a.ni b.ni) a.no.length) b.no.length) (a.no)) (List.take (min (min (cmn a.ni b.ni) a.no.length) b.no.length) (b.no)) : Nat) : Int)) ∧ H 2 = (⟨1, true, false, 63, 2, [[(V.sl (List.map cI (a.ni))), (V.sl (List.map cI (a.no)))]]⟩ : Blk) ∧ H 3 = (⟨1, true, false, 63, 2, [[(V.sl (List.map cI (b.ni))), (V.sl (List.map cI (b.no)))]]⟩ : Blk) ∧ True) ?_ ?_
  ·
   unfold r84_4
   refine R_mv t6 ?_
   refine R_mv (@rfl V (iV ((cmn (List.take (min (min (cmn a.ni b.ni) a.no.length) b.no.length) (a.no)) (List.take (min (min (cmn a.ni b.ni) a.no.length) b.no.length) (b.no)) : Nat) : Int))) ?_
   exact R_nil ⟨rfl, h2, h3, trivial⟩
  intro T H ⟨t4, h2, h3, _⟩
  refine W_seq_ret ?_
  refine Ret_1 t4 (fz_int ?_)
  · have e : min (min (cmn a.ni b.ni) a.no.length) b.no.length = cmn a.ni b.ni := by omega
    rw [e] at d1 ⊢
    rw [← df_prog ha hb, if_pos (by omega)]
 have d1 := c9
 refine W_seq_skip ?_
 refine W_seq_regc (fun T H => T 4 = (iV (-1 : Int)) ∧ H 2 = (⟨1, true, false, 63, 2, [[(V.sl (List.map cI (a.ni))), (V.sl (List.map cI (a.no)))]]⟩ : Blk) ∧ H 3 = (⟨1, true, false, 63, 2, [[(V.sl (List.map cI (b.ni))), (V.sl (List.map cI (b.no)))]]⟩ : Blk) ∧ True) ?_ ?_
 ·
  unfold r84_5
  refine R_mv (@rfl V (iV (-1 : Int))) ?_
  exact R_nil ⟨rfl, h2, h3, trivial⟩
 intro T H ⟨t4, h2, h3, _⟩
 refine W_ret ?_
 refine Ret_1 t4 (fz_int ?_)
 · have e : min (min (cmn a.ni b.ni) a.no.length) b.no.length = cmn a.ni b.ni := by omega
   rw [e] at d1
   rw [← df_prog ha hb, if_neg (by omega)]

end Go.Proofs.Ytngkckefanbhgaa

namespace Go.Proofs.Ytngkckefanbhgaa
open Go Go.Proofs

def r108_0 : List SO := [
  ⟨none, some 2, .mv (.c (.nilsl))⟩]
def r108_1 : List SO := [
  ⟨none, some 3, .mv (.t 0)⟩,
  ⟨none, some 4, .isnil false (.t 3)⟩]
def r108_2 : List SO := [
  ⟨none, some 2, .mv (.c (.nilsl))⟩]
def r108_3 : List SO := [
  ⟨none, some 5, .bslice 63 2 true [.nilsl, .nilsl] 0 []⟩,
  ⟨none, some 6, .mv (.t 0)⟩,
  ⟨none, some 7, .append 63 2 48 (.t 5) (.t 6)⟩,
  ⟨none, some 2, .mv (.t 7)⟩]
def s108 : SF := ⟨8, [.tmp 2], .seq (.reg r108_0) (.seq (.seq (.reg r108_1) (.cond (.t 4) (.seq (.reg r108_2) (.ret)) (.skip))) (.seq (.reg r108_3) (.ret)))⟩
theorem s108_ok : slimF Try.prog ⟨[94, 102, 103, 108, 109, 116, 119, 121, 125], [5]⟩ Try.f108 = some s108 := by kernel_rfl

end Go.Proofs.Ytngkckefanbhgaa

namespace Go.Proofs.Ytngkckefanbhgaa
open Go Go.Proofs

theorem clonetr_E (l : List Tr) (v5 : Nat) (Hi : Heap) (h105 : (Hi 105).ver = v5) (hne : l ≠ []) (hl : l.length ≤ 1000000) : CallOK Try.prog 108 [(V.sl (List.map cT (l)))] Hi (V.ms 105 (v5 + 2) 0 (l.length)) (upd Hi 105 (⟨v5 + 2, true, false, 63, 2, (List.map cT (l))⟩ : Blk)) := by
 refine CallOK_of_Wf (k0 := 100) Try.func108 s108_ok (by kernel_rfl) (by simp [s108]) fun hB => ?_
 simp only [bnd_map, bnd_int, bnd_bool, bnd_str, bnd_agg, bnd_pp, bnd_nil, bnd_cons, implies_true, and_true, true_and] at hB
 unfold s108
 dsimp only
 refine W_seq_regc (fun T H => T 0 = (V.sl (List.map cT (l))) ∧ (∀ j, j ∉ [105] → H j = Hi j) ∧ (H 105).ver = v5 ∧ True) ?_ ?_
 ·
  unfold r108_0
  refine R_mv (@rfl V V.nilsl) ?_
  exact R_nil ⟨rfl, (fun _ _ => rfl), h105, trivial⟩
 intro T H ⟨t0, hF, h105, _⟩
 refine W_seq_seq ?_
 refine W_seq_regc (fun T H => T 0 = (V.sl (List.map cT (l))) ∧ T 4 = (V.bool false) ∧ (∀ j, j ∉ [105] → H j = Hi j) ∧ (H 105).ver = v5 ∧ True) ?_ ?_
 ·
  unfold r108_1
  refine R_mv t0 ?_
  refine R_isnil_sl (@rfl V (V.sl (List.map cT (l)))) (fun e1 => ?_) ?_
  ·
   replace e1 := List.map_eq_nil_iff.1 e1
   exact (hne e1).elim
  ·
   exact R_nil ⟨t0, rfl, hF, h105, trivial⟩
 intro T H ⟨t0, t4, hF, h105, _⟩
 refine W_seq_ifb t4 (fun c2 => ?_) (fun c2 => ?_)
 · cases c2
 refine W_seq_skip ?_
 refine W_seq_regc (fun T H => T 2 = (V.ms 105 (v5 + 2) 0 (0 + (l).length)) ∧ (∀ j, j ∉ [105] → H j = Hi j) ∧ H 105 = (⟨v5 + 2, true, false, 63, 2, (List.map cT ([] ++ l))⟩ : Blk) ∧ True) ?_ ?_
 ·
  unfold r108_3
  refine R_bslice_own (i := 105) (n := v5) (qs := []) (rows := []) rfl h105 rfl rfl ?_
  refine R_mv t0 ?_
  refine R_appendS (l := ([])) (m := l) (f := cT) (@rfl V (V.ms 105 (v5 + 1) 0 (0))) (show _ = (⟨v5 + 1, true, false, 63, 2, (List.map cT ([]))⟩ : Blk) from (@rfl Blk (⟨v5 + 1, true, false, 63, 2, []⟩ : Blk))) (by first | rfl | simp) (@rfl V (V.sl (List.map cT (l)))) (fun _ => rfl) (fun _ => rfl) (by omega) (by omega) ?_
  refine R_mv (@rfl V (V.ms 105 (v5 + 2) 0 (0 + (l).length))) ?_
  exact R_nil ⟨rfl, (upd_out (upd_out hF (by decide)) (by decide)), rfl, trivial⟩
 intro T H ⟨t2, hF, h105, _⟩
 refine W_ret ?_
 have fh := FinX.fin (FinX.put (B := (⟨v5 + 2, true, false, 63, 2, (List.map cT (l))⟩ : Blk)) (FinX.start hF) h105 (FinB.eq (by first | rfl | simp)))
 exact RetF_1 t2 fh (FinV.trans_eq (FinV.same fh _) (by first | rfl | simp))
theorem clonetr_nil  : PureC Try.prog 108 [(V.sl [])] (V.sl []) := by
 refine pure_of_Wb true 6 Try.func108 s108_ok (by kernel_rfl) (by simp [s108]) (by simp) (by simp) fun hB => ?_
 simp only [bnd_map, bnd_int, bnd_bool, bnd_str, bnd_agg, bnd_pp, bnd_nil, bnd_cons, implies_true, and_true, true_and] at hB
 unfold s108
 dsimp only
 refine W_seq_regc (fun T H => T 0 = (V.sl []) ∧ H 5 = (⟨0, false, false, 0, 0, []⟩ : Blk) ∧ True) ?_ ?_
 ·
  unfold r108_0
  refine R_mv (@rfl V V.nilsl) ?_
  exact R_nil ⟨rfl, rfl, trivial⟩
 intro T H ⟨t0, h5, _⟩
 refine W_seq_seq ?_
 refine W_seq_reg fun K hK => ?_
 unfold r108_1
 refine R_mv t0 ?_
 refine R_isnil_sl (@rfl V (V.sl [])) (fun e1 => ?_) ?_
 ·
  refine R_nil (hK _ _ ?_); clear hK K
  refine fork_ (R := fun T H => T 0 = (V.sl []) ∧ T 4 = (V.bool true) ∧ H 5 = (⟨0, false, false, 0, 0, []⟩ : Blk) ∧ True) ⟨t0, rfl, h5, trivial⟩ ?_
  intro T H ⟨t0, t4, h5, _⟩
  refine W_seq_ifb t4 (fun c4 => ?_) (fun c4 => ?_)
  ·
   refine W_seq_seq ?_
   refine W_seq_regc (fun T H => T 2 = V.nilsl ∧ H 5 = (⟨0, false, false, 0, 0, []⟩ : Blk) ∧ True) ?_ ?_
   ·
    unfold r108_2
    refine R_mv (@rfl V V.nilsl) ?_
    exact R_nil ⟨rfl, h5, trivial⟩
   intro T H ⟨t2, h5, _⟩
   refine W_seq_ret ?_
   refine Ret_1 t2 (fz_nil (f := cI) (m := []) rfl)
  · cases c4
 ·
  refine R_nil (hK _ _ ?_); clear hK K
  refine fork_ (R := fun T H => T 0 = (V.sl []) ∧ T 4 = (V.bool false) ∧ H 5 = (⟨0, false, false, 0, 0, []⟩ : Blk) ∧ True) ⟨t0, rfl, h5, trivial⟩ ?_
  intro T H ⟨t0, t4, h5, _⟩
  refine W_seq_ifb t4 (fun c7 => ?_) (fun c7 => ?_)
  · cases c7
  refine W_seq_skip ?_
  refine W_seq_regc (fun T H => T 2 = (V.ms 5 2 0 (0)) ∧ H 5 = (⟨2, true, false, 63, 2, (List.map cT ([]))⟩ : Blk) ∧ True) ?_ ?_
  ·
   unfold r108_3
   refine R_bslice_own (i := 5) (n := 0) (qs := []) (rows := []) rfl (congrArg Blk.ver h5) rfl rfl ?_
   refine R_mv t0 ?_
   refine R_appendS (l := []) (m := []) (f := cT) (@rfl V (V.ms 5 1 0 (0))) (show _ = (⟨1, true, false, 63, 2, (List.map cT ([]))⟩ : Blk) from (@rfl Blk (⟨1, true, false, 63, 2, []⟩ : Blk))) rfl (@rfl V (V.sl [])) (fun _ => rfl) (fun _ => rfl) (by decide) (by decide) ?_
   refine R_mv (@rfl V (V.ms 5 2 0 (0))) ?_
   exact R_nil ⟨rfl, rfl, trivial⟩
  intro T H ⟨t2, h5, _⟩
  refine W_ret ?_
  refine Ret_1 t2 (fz_ms0 h5 (by first | rfl | simp))

end Go.Proofs.Ytngkckefanbhgaa

namespace Go.Proofs.Ytngkckefanbhgaa
open Go Go.Proofs

def r110_0 : List SO := [
  ⟨none, some 2, .box 63 2 (.t 0)⟩,
  ⟨none, some 3, .box 63 2 (.t 1)⟩,
  ⟨none, some 4, .mv (.c (.int .i64 0))⟩]
def r110_1 : List SO := [
  ⟨none, some 5, .fld 0 (.t 2)⟩,
  ⟨none, some 6, .load false 1 (.t 5)⟩,
  ⟨none, some 7, .fld 0 (.t 3)⟩,
  ⟨none, some 8, .load false 1 (.t 7)⟩,
  ⟨none, some 9, .call false 111 [.t 6, .t 8]⟩,
  ⟨none, some 4, .mv (.t 9)⟩]
def s110 : SF := ⟨10, [.tmp 4], .seq (.reg r110_0) (.seq (.reg r110_1) (.ret))⟩
theorem s110_ok : slimF Try.prog ⟨[94, 102, 103, 108, 109, 116, 119, 121, 125], []⟩ Try.f110 = some s110 := by kernel_rfl

end Go.Proofs.Ytngkckefanbhgaa

namespace Go.Proofs.Ytngkckefanbhgaa
open Go Go.Proofs

def r111_0 : List SO := [
  ⟨none, some 4, .mv (.c (.int .i64 0))⟩]
def r111_1 : List SO := [
  ⟨none, some 5, .mv (.t 0)⟩,
  ⟨none, some 6, .mv (.t 1)⟩,
  ⟨none, some 7, .call false 101 [.t 5, .t 6]⟩,
  ⟨none, some 4, .mv (.t 7)⟩]
def s111 : SF := ⟨8, [.tmp 4], .seq (.reg r111_0) (.seq (.reg r111_1) (.ret))⟩
theorem s111_ok : slimF Try.prog ⟨[94, 102, 103, 108, 109, 116, 119, 121, 125], []⟩ Try.f111 = some s111 := by kernel_rfl

end Go.Proofs.Ytngkckefanbhgaa

namespace Go.Proofs.Ytngkckefanbhgaa
open Go Go.Proofs

theorem lex_pure (a b : List Int) : PureC Try.prog 111 [(V.sl (List.map cI (a))), (V.sl (List.map cI (b)))] (iV (lexI a b)) := by
 refine pure_of_Wb true 6 Try.func111 s111_ok (by kernel_rfl) (by simp [s111]) (by simp) (by simp) fun hB => ?_
 simp only [bnd_map, bnd_int, bnd_bool, bnd_str, bnd_agg, bnd_pp, bnd_nil, bnd_cons, implies_true, and_true, true_and] at hB
 unfold s111
 dsimp only
 refine W_seq_regc (fun T H => T 0 = (V.sl (List.map cI (a))) ∧ T 1 = (V.sl (List.map cI (b))) ∧ True) ?_ ?_
 ·
  unfold r111_0
  refine R_mv (@rfl V (iV (0 : Int))) ?_
  exact R_nil ⟨rfl, rfl, trivial⟩
 intro T H ⟨t0, t1, _⟩
 refine W_seq_regc (fun T H => T 4 = (iV (lexI a b)) ∧ True) ?_ ?_
 ·
  unfold r111_1
  refine R_mv t0 ?_
  refine R_mv t1 ?_
  refine R_call (evcons (@rfl V (V.sl (List.map cI (a)))) (evcons (@rfl V (V.sl (List.map cI (b)))) evnil)) (scompare_pure a b) (fzv_mapcanon _ _ (by simp [-List.map_take, -List.map_drop, -List.map_append, -List.map_reverse])) (by simp [-List.map_take, -List.map_drop, -List.map_append, -List.map_reverse]) (Or.inl (by simp [-List.map_take, -List.map_drop, -List.map_append, -List.map_reverse])) ?_
  refine R_mv (@rfl V (iV (lexI a b))) ?_
  exact R_nil ⟨rfl, trivial⟩
 intro T H ⟨t4, _⟩
 refine W_ret ?_
 refine Ret_1 t4 (fz_canon (by simp) rfl)

end Go.Proofs.Ytngkckefanbhgaa

namespace Go.Proofs.Ytngkckefanbhgaa
open Go Go.Proofs

theorem fits1_pure (a b : Tr) : PureC Try.prog 110 [(V.agg [(V.sl (List.map cI (a.ni))), (V.sl (List.map cI (a.no)))]), (V.agg [(V.sl (List.map cI (b.ni))), (V.sl (List.map cI (b.no)))])] (iV (lexI a.ni b.ni)) := by
 refine pure_of_Wb true 6 Try.func110 s110_ok (by kernel_rfl) (by simp [s110]) (by simp) (by simp) fun hB => ?_
 simp only [bnd_map, bnd_int, bnd_bool, bnd_str, bnd_agg, bnd_pp, bnd_nil, bnd_cons, implies_true, and_true, true_and] at hB
 unfold s110
 dsimp only
 refine W_seq_regc (fun T H => T 2 = (V.mp 2 1 0 0) ∧ T 3 = (V.mp 3 1 0 0) ∧ H 2 = (⟨1, true, false, 63, 2, [[(V.sl (List.map cI (a.ni))), (V.sl (List.map cI (a.no)))]]⟩ : Blk) ∧ H 3 = (⟨1, true, false, 63, 2, [[(V.sl (List.map cI (b.ni))), (V.sl (List.map cI (b.no)))]]⟩ : Blk) ∧ True) ?_ ?_
 ·
  unfold r110_0
  refine R_box (i := 2) (n := 0) (m := 2) (cs := [(V.sl (List.map cI (a.ni))), (V.sl (List.map cI (a.no)))]) rfl (congrArg Blk.ver rfl) (@rfl V (V.agg [(V.sl (List.map cI (a.ni))), (V.sl (List.map cI (a.no)))])) rfl rfl ?_
  refine R_box (i := 3) (n := 0) (m := 2) (cs := [(V.sl (List.map cI (b.ni))), (V.sl (List.map cI (b.no)))]) rfl (congrArg Blk.ver rfl) (@rfl V (V.agg [(V.sl (List.map cI (b.ni))), (V.sl (List.map cI (b.no)))])) rfl rfl ?_
  refine R_mv (@rfl V (iV (0 : Int))) ?_
  exact R_nil ⟨rfl, rfl, rfl, rfl, trivial⟩
 intro T H ⟨t2, t3, h2, h3, _⟩
 refine W_seq_regc (fun T H => T 4 = (iV (lexI a.ni b.ni)) ∧ H 2 = (⟨1, true, false, 63, 2, [[(V.sl (List.map cI (a.ni))), (V.sl (List.map cI (a.no)))]]⟩ : Blk) ∧ H 3 = (⟨1, true, false, 63, 2, [[(V.sl (List.map cI (b.ni))), (V.sl (List.map cI (b.no)))]]⟩ : Blk) ∧ True) ?_ ?_
 ·
  unfold r110_1
  refine R_fld_mp (o' := 0) t2 h2 (by first | rfl | simp [okB, Blk.own]) rfl ?_
  refine R_load_mp (v := (V.sl (List.map cI (a.ni)))) (@rfl V (V.mp 2 1 0 0)) h2 (by first | rfl | simp [ldB, ldV, Blk.own, V.one]) ?_
  refine R_fld_mp (o' := 0) t3 h3 (by first | rfl | simp [okB, Blk.own]) rfl ?_
  refine R_load_mp (v := (V.sl (List.map cI (b.ni)))) (@rfl V (V.mp 3 1 0 0)) h3 (by first | rfl | simp [ldB, ldV, Blk.own, V.one]) ?_
  refine R_call (evcons (@rfl V (V.sl (List.map cI (a.ni)))) (evcons (@rfl V (V.sl (List.map cI (b.ni)))) evnil)) (lex_pure a.ni b.ni) (fzv_mapcanon _ _ (by simp [-List.map_take, -List.map_drop, -List.map_append, -List.map_reverse])) (by simp [-List.map_take, -List.map_drop, -List.map_append, -List.map_reverse]) (Or.inl (by simp [-List.map_take, -List.map_drop, -List.map_append, -List.map_reverse])) ?_
  refine R_mv (@rfl V (iV (lexI a.ni b.ni))) ?_
  exact R_nil ⟨rfl, h2, h3, trivial⟩
 intro T H ⟨t4, h2, h3, _⟩
 refine W_ret ?_
 refine Ret_1 t4 (fz_canon (by simp) rfl)

end Go.Proofs.Ytngkckefanbhgaa

/-
  The library's contract of slices.SortFunc, laid at function 109.
-/
namespace Go.Proofs.Ytngkckefanbhgaa
open Go Go.Proofs Go.Shelf Go.Sort

def sortRen109 : Go.Shelf.Ren := ⟨fun | 6 => 109 | 15 => 122 | 14 => 121 | 28 => 133 | 29 => 134 | 20 => 125 | 21 => 126 | 22 => 127 | 23 => 128 | 24 => 129 | 25 => 130 | 26 => 131 | 27 => 132 | 46 => 136 | 47 => 137 | 48 => 138 | 49 => 139 | 50 => 140 | 57 => 142 | n => n, fun | 22 => 32 | 24 => 63 | 25 => 107 | 3 => 3 | 39 => 141 | 0 => 0 | 53 => 151 | 55 => 153 | 4 => 4 | 46 => 145 | 45 => 144 | 50 => 95 | 5 => 5 | 9 => 9 | 66 => 154 | 70 => 158 | 76 => 161 | 77 => 133 | n => n, fun n => n⟩
theorem sortLay109 : SlLaysF0.n6 Try.prog sortRen109 := {
  mixed := (by kernel_rfl),
  f6 := ⟨Try.f109.name, by decide, Try.func109.trans (congrArg some (by kernel_rfl))⟩,
  f14 := ⟨Try.f121.name, by decide, Try.func121.trans (congrArg some (by kernel_rfl))⟩,
  f15 := Try.func122.trans (congrArg some (by kernel_rfl)),
  f20 := ⟨Try.f125.name, by decide, Try.func125.trans (congrArg some (by kernel_rfl))⟩,
  f21 := ⟨Try.f126.name, by decide, Try.func126.trans (congrArg some (by kernel_rfl))⟩,
  f22 := ⟨Try.f127.name, by decide, Try.func127.trans (congrArg some (by kernel_rfl))⟩,
  f23 := ⟨Try.f128.name, by decide, Try.func128.trans (congrArg some (by kernel_rfl))⟩,
  f24 := ⟨Try.f129.name, by decide, Try.func129.trans (congrArg some (by kernel_rfl))⟩,
  f25 := ⟨Try.f130.name, by decide, Try.func130.trans (congrArg some (by kernel_rfl))⟩,
  f26 := ⟨Try.f131.name, by decide, Try.func131.trans (congrArg some (by kernel_rfl))⟩,
  f27 := ⟨Try.f132.name, by decide, Try.func132.trans (congrArg some (by kernel_rfl))⟩,
  f28 := Try.func133.trans (congrArg some (by kernel_rfl)),
  f29 := Try.func134.trans (congrArg some (by kernel_rfl)),
  f46 := ⟨Try.f136.name, by decide, Try.func136.trans (congrArg some (by kernel_rfl))⟩,
  f47 := Try.func137.trans (congrArg some (by kernel_rfl)),
  f48 := Try.func138.trans (congrArg some (by kernel_rfl)),
  f49 := ⟨Try.f139.name, by decide, Try.func139.trans (congrArg some (by kernel_rfl))⟩,
  f50 := ⟨Try.f140.name, by decide, Try.func140.trans (congrArg some (by kernel_rfl))⟩,
  f57 := ⟨Try.f142.name, by decide, Try.func142.trans (congrArg some (by kernel_rfl))⟩,
  t0 := Try.underlying0,
  a0 := Try.isAgg0,
  z0 := Try.sizeOf0,
  v0 := Try.zeroValue0,
  t3 := Try.underlying3,
  a3 := Try.isAgg3,
  z3 := Try.sizeOf3,
  v3 := Try.zeroValue3,
  t4 := Try.underlying4,
  a4 := Try.isAgg4,
  z4 := Try.sizeOf4,
  v4 := Try.zeroValue4,
  t5 := Try.underlying5,
  a5 := Try.isAgg5,
  z5 := Try.sizeOf5,
  v5 := Try.zeroValue5,
  t9 := Try.underlying9,
  a9 := Try.isAgg9,
  z9 := Try.sizeOf9,
  v9 := Try.zeroValue9,
  t22 := Try.underlying32,
  a22 := Try.isAgg32,
  z22 := Try.sizeOf32,
  v22 := Try.zeroValue32,
  t25 := Try.underlying107,
  a25 := Try.isAgg107,
  z25 := Try.sizeOf107,
  v25 := Try.zeroValue107,
  t39 := Try.underlying141,
  a39 := Try.isAgg141,
  z39 := Try.sizeOf141,
  v39 := Try.zeroValue141,
  t45 := Try.underlying144,
  a45 := Try.isAgg144,
  z45 := Try.sizeOf144,
  v45 := Try.zeroValue144,
  t46 := Try.underlying145,
  a46 := Try.isAgg145,
  z46 := Try.sizeOf145,
  v46 := Try.zeroValue145,
  t50 := Try.underlying95,
  a50 := Try.isAgg95,
  z50 := Try.sizeOf95,
  v50 := Try.zeroValue95,
  t53 := Try.underlying151,
  a53 := Try.isAgg151,
  z53 := Try.sizeOf151,
  v53 := Try.zeroValue151,
  t55 := Try.underlying153,
  a55 := Try.isAgg153,
  z55 := Try.sizeOf153,
  v55 := Try.zeroValue153,
  t66 := Try.underlying154,
  a66 := Try.isAgg154,
  z66 := Try.sizeOf154,
  v66 := Try.zeroValue154,
  t70 := Try.underlying158,
  a70 := Try.isAgg158,
  z70 := Try.sizeOf158,
  v70 := Try.zeroValue158,
  t76 := Try.underlying161,
  a76 := Try.isAgg161,
  z76 := Try.sizeOf161,
  v76 := Try.zeroValue161,
  t77 := Try.underlying133,
  a77 := Try.isAgg133,
  z77 := Try.sizeOf133,
  v77 := Try.zeroValue133 }
theorem sortSpec109 : SortSpec Try.prog 109 2 := fun enc hk h1 cf hO g cb blk off cap d w eg hcmp hH hblk hsz =>
  AnyQ.slices_SortFunc sortLay109 2 Try.isAgg63 Try.sizeOf63 enc hk h1 cf hO g cb blk off cap d w eg hcmp hH hblk hsz
theorem sortCall109 : callable Try.prog 109 := ⟨_, Try.func109, by kernel_rfl, by kernel_rfl⟩
theorem sortNone109 : SortNone Try.prog 109 := fun p cap fv w => AnyF.slices_SortFunc_none sortLay109 p cap fv w
end Go.Proofs.Ytngkckefanbhgaa

namespace Go.Proofs.Ytngkckefanbhgaa
open Go Go.Proofs

theorem fits_nil  : PureC Try.prog 80 [(V.sl [])] (V.bool true) := by
 refine pure_of_Wb true 6 Try.func80 s80_ok (by kernel_rfl) (by simp [s80]) (by simp) (by simp) fun hB => ?_
 simp only [bnd_map, bnd_int, bnd_bool, bnd_str, bnd_agg, bnd_pp, bnd_nil, bnd_cons, implies_true, and_true, true_and] at hB
 unfold s80
 dsimp only
 refine W_seq_regc (fun T H => T 0 = (V.sl []) ∧ H 105 = (⟨0, false, false, 0, 0, []⟩ : Blk) ∧ True) ?_ ?_
 ·
  unfold r80_0
  refine R_mv (@rfl V (V.bool false)) ?_
  exact R_nil ⟨rfl, rfl, trivial⟩
 intro T H ⟨t0, h105, _⟩
 refine W_seq_regc (fun T H => T 0 = (V.sl []) ∧ H 105 = (⟨0, false, false, 0, 0, []⟩ : Blk) ∧ True) ?_ ?_
 ·
  unfold r80_1
  refine R_mv t0 ?_
  refine R_callE (evcons (@rfl V (V.sl [])) evnil) (clonetr_nil _) ?_
  refine R_mv (@rfl V (V.sl [])) ?_
  exact R_nil ⟨rfl, h105, trivial⟩
 intro T H ⟨t0, h105, _⟩
 refine W_seq_regc (fun T H => T 0 = (V.sl []) ∧ H 105 = (⟨0, false, false, 0, 0, []⟩ : Blk) ∧ True) ?_ ?_
 ·
  unfold r80_2
  refine R_mv t0 ?_
  refine R_callE (evcons (@rfl V (V.sl [])) (evcons (@rfl V (V.fn 110 [] [])) evnil)) (CallOK_sort_nil sortNone109 sortCall109 _) ?_
  exact R_nil ⟨t0, h105, trivial⟩
 intro T H ⟨t0, h105, _⟩
 refine W_seq_seq ?_
 refine W_seq_regc (fun T H => T 0 = (V.sl []) ∧ T 3 = (iV (1 : Int)) ∧ H 105 = (⟨0, false, false, 0, 0, []⟩ : Blk) ∧ True) ?_ ?_
 ·
  unfold r80_3
  refine R_mv (@rfl V (iV (1 : Int))) ?_
  exact R_nil ⟨t0, rfl, h105, trivial⟩
 intro T H ⟨t0, t3, h105, _⟩
 refine W_seq_blockg fun Q1 n1 x1 y1 z1 => ?_
 refine W_loop (fun mm T H => ∃ (k : Nat), mm = 0 ∧ T 0 = (V.sl []) ∧ T 3 = (iV ((k : Nat) : Int)) ∧ H 105 = (⟨0, false, false, 0, 0, []⟩ : Blk)) ?_ ?_
 ·
  refine ⟨_, 1, rfl, t0, (Eq.trans t3 (by first | rfl | simp)), h105⟩
 intro mm T H ⟨k, hmm, t0, t3, h105⟩ Q2 p12 p22 p32
 unfold b80_0
 refine W_seq_seq ?_
 refine W_seq_regc (fun T H => T 0 = (V.sl []) ∧ T 3 = (iV ((k : Nat) : Int)) ∧ T 11 = (V.bool (decide (((k : Nat) : Int) < ((0 : Nat) : Int)))) ∧ H 105 = (⟨0, false, false, 0, 0, []⟩ : Blk) ∧ True) ?_ ?_
 ·
  unfold r80_4
  refine R_mv t3 ?_
  refine R_mv t0 ?_
  refine R_len_lit (n := 0) (@rfl V (V.sl [])) rfl ?_
  refine R_lss (x := ((k : Nat) : Int)) (y := ((0 : Nat) : Int)) (@rfl V (iV ((k : Nat) : Int))) (@rfl V (iV ((0 : Nat) : Int))) ?_
  exact R_nil ⟨t0, t3, rfl, h105, trivial⟩
 intro T H ⟨t0, t3, t11, h105, _⟩
 refine W_seq_if (p := ((k : Nat) : Int) < ((0 : Nat) : Int)) t11 (fun c3 => ?_) (fun c3 => ?_)
 · exfalso; omega
 refine W_seq_exit ?_
 refine p32 _ _ _ ?_
 refine x1 _ _ ?_
 refine .done ?_
 refine W_seq_regc (fun T H => T 2 = (V.bool true) ∧ H 105 = (⟨0, false, false, 0, 0, []⟩ : Blk) ∧ True) ?_ ?_
 ·
  unfold r80_8
  refine R_mv (@rfl V (V.bool true)) ?_
  exact R_nil ⟨rfl, h105, trivial⟩
 intro T H ⟨t2, h105, _⟩
 refine W_ret ?_
 refine Ret_1 t2 (fz_canon (by simp) rfl)
theorem fits_cons (l : List Tr) (hne : l ≠ []) (hl : l.length ≤ 1000000) (hd : ∀ a ∈ l, ∀ b ∈ l, a.ni = b.ni → a = b) (hpl : ∀ a ∈ l, a.no.length = a.ni.length) : PureC Try.prog 80 [(V.sl (List.map cT (l)))] (V.bool (fitB l)) := by
 refine pure_of_Wb true 6 Try.func80 s80_ok (by kernel_rfl) (by simp [s80]) (by simp) (by simp) fun hB => ?_
 simp only [bnd_map, bnd_int, bnd_bool, bnd_str, bnd_agg, bnd_pp, bnd_nil, bnd_cons, implies_true, and_true, true_and] at hB
 unfold s80
 dsimp only
 have u0 := srt_len lexT l
 have u1 : ∀ k, k < l.length → (nth (srt lexT l) k).no.length = (nth (srt lexT l) k).ni.length := fun k hk => hpl _ ((srt_perm lexT l).mem_iff.1 (nth_mem (by omega)))
 refine W_seq_regc (fun T H => T 0 = (V.sl (List.map cT (l))) ∧ H 105 = (⟨0, false, false, 0, 0, []⟩ : Blk) ∧ True) ?_ ?_
 ·
  unfold r80_0
  refine R_mv (@rfl V (V.bool false)) ?_
  exact R_nil ⟨rfl, rfl, trivial⟩
 intro T H ⟨t0, h105, _⟩
 refine W_seq_regc (fun T H => T 0 = (V.ms 105 2 0 (l.length)) ∧ H 105 = (⟨2, true, false, 63, 2, (List.map cT (l))⟩ : Blk) ∧ True) ?_ ?_
 ·
  unfold r80_1
  refine R_mv t0 ?_
  refine R_callE (evcons (@rfl V (V.sl (List.map cT (l)))) evnil) (clonetr_E l 0 _ (congrArg Blk.ver h105) hne (by omega)) ?_
  refine R_mv (@rfl V (V.ms 105 2 0 (l.length))) ?_
  exact R_nil ⟨rfl, rfl, trivial⟩
 intro T H ⟨t0, h105, _⟩
 refine W_seq_regc (fun T H => T 0 = (V.ms 105 2 0 (l.length)) ∧ H 105 = (⟨2, true, false, 63, 2, (List.map cT (srt lexT l))⟩ : Blk) ∧ True) ?_ ?_
 ·
  unfold r80_2
  refine R_mv t0 ?_
  refine R_callE (evcons (@rfl V (V.ms 105 2 0 (l.length))) (evcons (@rfl V (V.fn 110 [] [])) evnil)) (CallOK_sort (f0 := cT) (l := l) (cmp := lexT) sortSpec109 sortNone109 sortCall109 ⟨_, Try.func110, by kernel_rfl, by kernel_rfl⟩ lexT_swo (fun a ha b hb h1 h2 => hd a ha b hb (lexT_anti h1 h2)) (fun a _ b _ => fits1_pure a b) (fun a _ => by simp) (fun a _ => by simp) (fun _ => rfl) (by omega) h105) ?_
  exact R_nil ⟨t0, rfl, trivial⟩
 intro T H ⟨t0, h105, _⟩
 refine W_seq_seq ?_
 refine W_seq_regc (fun T H => T 0 = (V.ms 105 2 0 (l.length)) ∧ T 3 = (iV (1 : Int)) ∧ H 105 = (⟨2, true, false, 63, 2, (List.map cT (srt lexT l))⟩ : Blk) ∧ True) ?_ ?_
 ·
  unfold r80_3
  refine R_mv (@rfl V (iV (1 : Int))) ?_
  exact R_nil ⟨t0, rfl, h105, trivial⟩
 intro T H ⟨t0, t3, h105, _⟩
 refine W_seq_blockg fun Q1 n1 x1 y1 z1 => ?_
 refine W_loop (fun mm T H => ∃ (k : Nat), mm = l.length - k ∧ T 0 = (V.ms 105 2 0 (l.length)) ∧ T 3 = (iV ((k : Nat) : Int)) ∧ H 105 = (⟨2, true, false, 63, 2, (List.map cT (srt lexT l))⟩ : Blk) ∧ (1 ≤ k) ∧ (k ≤ l.length) ∧ (fe (nbE (srt lexT l)) 1 ((srt lexT l).length - 1) = fe (nbE (srt lexT l)) k ((srt lexT l).length - k))) ?_ ?_
 ·
  refine ⟨_, 1, rfl, t0, (Eq.trans t3 (by first | rfl | simp)), h105, ?_, ?_, ?_⟩
  · omega
  · exact List.length_pos_iff.2 hne
  · rfl
 intro mm T H ⟨k, hmm, t0, t3, h105, h1, hk, hc⟩ Q2 p12 p22 p32
 unfold b80_0
 refine W_seq_seq ?_
 refine W_seq_regc (fun T H => T 0 = (V.ms 105 2 0 (l.length)) ∧ T 3 = (iV ((k : Nat) : Int)) ∧ T 11 = (V.bool (decide (((k : Nat) : Int) < ((l.length : Nat) : Int)))) ∧ H 105 = (⟨2, true, false, 63, 2, (List.map cT (srt lexT l))⟩ : Blk) ∧ True) ?_ ?_
 ·
  unfold r80_4
  refine R_mv t3 ?_
  refine R_mv t0 ?_
  refine R_len_ms (@rfl V (V.ms 105 2 0 (l.length))) h105 (by first | rfl | simp) ?_
  refine R_lss (x := ((k : Nat) : Int)) (y := ((l.length : Nat) : Int)) (@rfl V (iV ((k : Nat) : Int))) (@rfl V (iV ((l.length : Nat) : Int))) ?_
  exact R_nil ⟨t0, t3, rfl, h105, trivial⟩
 intro T H ⟨t0, t3, t11, h105, _⟩
 refine W_seq_if (p := ((k : Nat) : Int) < ((l.length : Nat) : Int)) t11 (fun c3 => ?_) (fun c3 => ?_)
 ·
  refine W_seq_skip ?_
  refine W_seq_blockg fun Q4 n4 x4 y4 z4 => ?_
  refine W_seq_regc (fun T H => T 0 = (V.ms 105 2 0 (l.length)) ∧ T 3 = (iV ((k : Nat) : Int)) ∧ T 38 = (V.bool (((hp ((nth (srt lexT l) (0 + (k))).ni) ((nth (srt lexT l) (0 + ((((k : Nat) : Int) - (1 : Int))).toNat)).ni)) || decide ((0 : Int) ≤ (df ((nth (srt lexT l) (0 + ((((k : Nat) : Int) - (1 : Int))).toNat))) ((nth (srt lexT l) (0 + (k))))))))) ∧ H 105 = (⟨2, true, false, 63, 2, (List.map cT (srt lexT l))⟩ : Blk) ∧ True) ?_ ?_
  ·
   unfold r80_6
   refine R_mv t0 ?_
   refine R_mv t3 ?_
   refine R_idx_ms (i := k) (@rfl V (V.ms 105 2 0 (l.length))) (@rfl V (iV ((k : Nat) : Int))) h105 (okB_map (by omega)) rfl (by omega) ?_
   refine R_fld_mp (o' := 0) (@rfl V (V.mp 105 2 (0 + (k)) 0)) h105 (okB_map (by omega)) rfl ?_
   refine R_load_mp (v := (V.sl (List.map cI ((nth (srt lexT l) (0 + (k))).ni)))) (@rfl V (V.mp 105 2 (0 + (k)) 0)) h105 (ldB_map (by omega) (by first | rfl | simp [ldV, V.one])) ?_
   refine R_mv t0 ?_
   refine R_mv t3 ?_
   refine R_sub (x := ((k : Nat) : Int)) (y := (1 : Int)) (@rfl V (iV ((k : Nat) : Int))) (@rfl V (iV (1 : Int))) (by omega) (by omega) ?_
   refine R_idxI_ms (i := (((k : Nat) : Int) - (1 : Int))) (@rfl V (V.ms 105 2 0 (l.length))) (@rfl V (iV (((k : Nat) : Int) - (1 : Int)))) h105 (okB_map (by omega)) rfl (by omega) (by omega) ?_
   refine R_fld_mp (o' := 0) (@rfl V (V.mp 105 2 (0 + ((((k : Nat) : Int) - (1 : Int))).toNat) 0)) h105 (okB_map (by omega)) rfl ?_
   refine R_load_mp (v := (V.sl (List.map cI ((nth (srt lexT l) (0 + ((((k : Nat) : Int) - (1 : Int))).toNat)).ni)))) (@rfl V (V.mp 105 2 (0 + ((((k : Nat) : Int) - (1 : Int))).toNat) 0)) h105 (ldB_map (by omega) (by first | rfl | simp [ldV, V.one])) ?_
   refine R_call (evcons (@rfl V (V.sl (List.map cI ((nth (srt lexT l) (0 + (k))).ni)))) (evcons (@rfl V (V.sl (List.map cI ((nth (srt lexT l) (0 + ((((k : Nat) : Int) - (1 : Int))).toNat)).ni)))) evnil)) (hp_pure ((nth (srt lexT l) (0 + (k))).ni) ((nth (srt lexT l) (0 + ((((k : Nat) : Int) - (1 : Int))).toNat)).ni)) (fzv_mapcanon _ _ (by simp [-List.map_take, -List.map_drop, -List.map_append, -List.map_reverse])) (by simp [-List.map_take, -List.map_drop, -List.map_append, -List.map_reverse]) (Or.inl (by simp [-List.map_take, -List.map_drop, -List.map_append, -List.map_reverse])) ?_
   refine R_mv (@rfl V (V.bool (hp ((nth (srt lexT l) (0 + (k))).ni) ((nth (srt lexT l) (0 + ((((k : Nat) : Int) - (1 : Int))).toNat)).ni)))) ?_
   refine Ops_seg 12 (fun T H => T 0 = (V.ms 105 2 0 (l.length)) ∧ T 3 = (iV ((k : Nat) : Int)) ∧ T 38 = (V.bool (((hp ((nth (srt lexT l) (0 + (k))).ni) ((nth (srt lexT l) (0 + ((((k : Nat) : Int) - (1 : Int))).toNat)).ni)) || decide ((0 : Int) ≤ (df ((nth (srt lexT l) (0 + ((((k : Nat) : Int) - (1 : Int))).toNat))) ((nth (srt lexT l) (0 + (k))))))))) ∧ H 105 = (⟨2, true, false, 63, 2, (List.map cT (srt lexT l))⟩ : Blk) ∧ True) ?_ ?_
   ·
    by_cases g5 : (hp ((nth (srt lexT l) (0 + (k))).ni) ((nth (srt lexT l) (0 + ((((k : Nat) : Int) - (1 : Int))).toNat)).ni)) = true
    ·
     refine G_no (Eq.trans (@rfl V (V.bool (hp ((nth (srt lexT l) (0 + (k))).ni) ((nth (srt lexT l) (0 + ((((k : Nat) : Int) - (1 : Int))).toNat)).ni)))) (bbT g5)) (by decide) ?_
     refine G_no (Eq.trans (@rfl V (V.bool (hp ((nth (srt lexT l) (0 + (k))).ni) ((nth (srt lexT l) (0 + ((((k : Nat) : Int) - (1 : Int))).toNat)).ni)))) (bbT g5)) (by decide) ?_
     refine G_no (Eq.trans (@rfl V (V.bool (hp ((nth (srt lexT l) (0 + (k))).ni) ((nth (srt lexT l) (0 + ((((k : Nat) : Int) - (1 : Int))).toNat)).ni)))) (bbT g5)) (by decide) ?_
     refine G_no (Eq.trans (@rfl V (V.bool (hp ((nth (srt lexT l) (0 + (k))).ni) ((nth (srt lexT l) (0 + ((((k : Nat) : Int) - (1 : Int))).toNat)).ni)))) (bbT g5)) (by decide) ?_
     refine G_no (Eq.trans (@rfl V (V.bool (hp ((nth (srt lexT l) (0 + (k))).ni) ((nth (srt lexT l) (0 + ((((k : Nat) : Int) - (1 : Int))).toNat)).ni)))) (bbT g5)) (by decide) ?_
     refine G_no (Eq.trans (@rfl V (V.bool (hp ((nth (srt lexT l) (0 + (k))).ni) ((nth (srt lexT l) (0 + ((((k : Nat) : Int) - (1 : Int))).toNat)).ni)))) (bbT g5)) (by decide) ?_
     refine G_no (Eq.trans (@rfl V (V.bool (hp ((nth (srt lexT l) (0 + (k))).ni) ((nth (srt lexT l) (0 + ((((k : Nat) : Int) - (1 : Int))).toNat)).ni)))) (bbT g5)) (by decide) ?_
     refine G_no (Eq.trans (@rfl V (V.bool (hp ((nth (srt lexT l) (0 + (k))).ni) ((nth (srt lexT l) (0 + ((((k : Nat) : Int) - (1 : Int))).toNat)).ni)))) (bbT g5)) (by decide) ?_
     refine G_no (Eq.trans (@rfl V (V.bool (hp ((nth (srt lexT l) (0 + (k))).ni) ((nth (srt lexT l) (0 + ((((k : Nat) : Int) - (1 : Int))).toNat)).ni)))) (bbT g5)) (by decide) ?_
     refine G_no (Eq.trans (@rfl V (V.bool (hp ((nth (srt lexT l) (0 + (k))).ni) ((nth (srt lexT l) (0 + ((((k : Nat) : Int) - (1 : Int))).toNat)).ni)))) (bbT g5)) (by decide) ?_
     refine G_no (Eq.trans (@rfl V (V.bool (hp ((nth (srt lexT l) (0 + (k))).ni) ((nth (srt lexT l) (0 + ((((k : Nat) : Int) - (1 : Int))).toNat)).ni)))) (bbT g5)) (by decide) ?_
     refine R_pickT (Eq.trans (@rfl V (V.bool (hp ((nth (srt lexT l) (0 + (k))).ni) ((nth (srt lexT l) (0 + ((((k : Nat) : Int) - (1 : Int))).toNat)).ni)))) (bbT g5)) (@rfl V (V.bool true)) ?_
     exact ⟨t0, t3, (Eq.trans (@rfl V (V.bool true)) (borT g5)), h105, trivial⟩
    ·
     refine G_yes (Eq.trans (@rfl V (V.bool (hp ((nth (srt lexT l) (0 + (k))).ni) ((nth (srt lexT l) (0 + ((((k : Nat) : Int) - (1 : Int))).toNat)).ni)))) (bbF g5)) ?_
     refine R_mv t0 ?_
     refine G_yes (Eq.trans (@rfl V (V.bool (hp ((nth (srt lexT l) (0 + (k))).ni) ((nth (srt lexT l) (0 + ((((k : Nat) : Int) - (1 : Int))).toNat)).ni)))) (bbF g5)) ?_
     refine R_mv t3 ?_
     refine G_yes (Eq.trans (@rfl V (V.bool (hp ((nth (srt lexT l) (0 + (k))).ni) ((nth (srt lexT l) (0 + ((((k : Nat) : Int) - (1 : Int))).toNat)).ni)))) (bbF g5)) ?_
     refine R_sub (x := ((k : Nat) : Int)) (y := (1 : Int)) (@rfl V (iV ((k : Nat) : Int))) (@rfl V (iV (1 : Int))) (by omega) (by omega) ?_
     refine G_yes (Eq.trans (@rfl V (V.bool (hp ((nth (srt lexT l) (0 + (k))).ni) ((nth (srt lexT l) (0 + ((((k : Nat) : Int) - (1 : Int))).toNat)).ni)))) (bbF g5)) ?_
     refine R_idxI_ms (i := (((k : Nat) : Int) - (1 : Int))) (@rfl V (V.ms 105 2 0 (l.length))) (@rfl V (iV (((k : Nat) : Int) - (1 : Int)))) h105 (okB_map (by omega)) rfl (by omega) (by omega) ?_
     refine G_yes (Eq.trans (@rfl V (V.bool (hp ((nth (srt lexT l) (0 + (k))).ni) ((nth (srt lexT l) (0 + ((((k : Nat) : Int) - (1 : Int))).toNat)).ni)))) (bbF g5)) ?_
     refine R_load_mp (v := (V.agg [(V.sl (List.map cI ((nth (srt lexT l) (0 + ((((k : Nat) : Int) - (1 : Int))).toNat)).ni))), (V.sl (List.map cI ((nth (srt lexT l) (0 + ((((k : Nat) : Int) - (1 : Int))).toNat)).no)))])) (@rfl V (V.mp 105 2 (0 + ((((k : Nat) : Int) - (1 : Int))).toNat) 0)) h105 (ldB_map (by omega) (by first | rfl | simp [ldV, V.one])) ?_
     refine G_yes (Eq.trans (@rfl V (V.bool (hp ((nth (srt lexT l) (0 + (k))).ni) ((nth (srt lexT l) (0 + ((((k : Nat) : Int) - (1 : Int))).toNat)).ni)))) (bbF g5)) ?_
     refine R_mv t0 ?_
     refine G_yes (Eq.trans (@rfl V (V.bool (hp ((nth (srt lexT l) (0 + (k))).ni) ((nth (srt lexT l) (0 + ((((k : Nat) : Int) - (1 : Int))).toNat)).ni)))) (bbF g5)) ?_
     refine R_mv t3 ?_
     refine G_yes (Eq.trans (@rfl V (V.bool (hp ((nth (srt lexT l) (0 + (k))).ni) ((nth (srt lexT l) (0 + ((((k : Nat) : Int) - (1 : Int))).toNat)).ni)))) (bbF g5)) ?_
     refine R_idx_ms (i := k) (@rfl V (V.ms 105 2 0 (l.length))) (@rfl V (iV ((k : Nat) : Int))) h105 (okB_map (by omega)) rfl (by omega) ?_
     refine G_yes (Eq.trans (@rfl V (V.bool (hp ((nth (srt lexT l) (0 + (k))).ni) ((nth (srt lexT l) (0 + ((((k : Nat) : Int) - (1 : Int))).toNat)).ni)))) (bbF g5)) ?_
     refine R_load_mp (v := (V.agg [(V.sl (List.map cI ((nth (srt lexT l) (0 + (k))).ni))), (V.sl (List.map cI ((nth (srt lexT l) (0 + (k))).no)))])) (@rfl V (V.mp 105 2 (0 + (k)) 0)) h105 (ldB_map (by omega) (by first | rfl | simp [ldV, V.one])) ?_
     refine G_yes (Eq.trans (@rfl V (V.bool (hp ((nth (srt lexT l) (0 + (k))).ni) ((nth (srt lexT l) (0 + ((((k : Nat) : Int) - (1 : Int))).toNat)).ni)))) (bbF g5)) ?_
     refine R_call (evcons (@rfl V (V.agg [(V.sl (List.map cI ((nth (srt lexT l) (0 + ((((k : Nat) : Int) - (1 : Int))).toNat)).ni))), (V.sl (List.map cI ((nth (srt lexT l) (0 + ((((k : Nat) : Int) - (1 : Int))).toNat)).no)))])) (evcons (@rfl V (V.agg [(V.sl (List.map cI ((nth (srt lexT l) (0 + (k))).ni))), (V.sl (List.map cI ((nth (srt lexT l) (0 + (k))).no)))])) evnil)) (odiffer_pure ((nth (srt lexT l) (0 + ((((k : Nat) : Int) - (1 : Int))).toNat))) ((nth (srt lexT l) (0 + (k)))) (u1 _ (by omega)) (u1 _ (by omega))) (fzv_mapcanon _ _ (by simp [-List.map_take, -List.map_drop, -List.map_append, -List.map_reverse])) (by simp [-List.map_take, -List.map_drop, -List.map_append, -List.map_reverse]) (Or.inl (by simp [-List.map_take, -List.map_drop, -List.map_append, -List.map_reverse])) ?_
     refine G_yes (Eq.trans (@rfl V (V.bool (hp ((nth (srt lexT l) (0 + (k))).ni) ((nth (srt lexT l) (0 + ((((k : Nat) : Int) - (1 : Int))).toNat)).ni)))) (bbF g5)) ?_
     refine R_geq (x := (df ((nth (srt lexT l) (0 + ((((k : Nat) : Int) - (1 : Int))).toNat))) ((nth (srt lexT l) (0 + (k)))))) (y := (0 : Int)) (@rfl V (iV (df ((nth (srt lexT l) (0 + ((((k : Nat) : Int) - (1 : Int))).toNat))) ((nth (srt lexT l) (0 + (k))))))) (@rfl V (iV (0 : Int))) ?_
     refine R_pickF (Eq.trans (@rfl V (V.bool (hp ((nth (srt lexT l) (0 + (k))).ni) ((nth (srt lexT l) (0 + ((((k : Nat) : Int) - (1 : Int))).toNat)).ni)))) (bbF g5)) (@rfl V (V.bool (decide ((0 : Int) ≤ (df ((nth (srt lexT l) (0 + ((((k : Nat) : Int) - (1 : Int))).toNat))) ((nth (srt lexT l) (0 + (k))))))))) ?_
     exact ⟨t0, t3, (Eq.trans (@rfl V (V.bool (decide ((0 : Int) ≤ (df ((nth (srt lexT l) (0 + ((((k : Nat) : Int) - (1 : Int))).toNat))) ((nth (srt lexT l) (0 + (k))))))))) (borF g5)), h105, trivial⟩
   intro T H ⟨t0, t3, t38, h105, _⟩
   exact R_nil ⟨t0, t3, t38, h105, trivial⟩
  intro T H ⟨t0, t3, t38, h105, _⟩
  refine W_ifb t38 (fun c6 => ?_) (fun c6 => ?_)
  ·
   have d1 : nbB (srt lexT l) k = true := by unfold nbB; rw [show k - 1 = 0 + (((k : Nat) : Int) - (1 : Int)).toNat by omega, show nth (srt lexT l) k = nth (srt lexT l) (0 + k) by rw [Nat.zero_add]]; exact c6
   refine W_seq_regc (fun T H => T 2 = (V.bool false) ∧ H 105 = (⟨2, true, false, 63, 2, (List.map cT (srt lexT l))⟩ : Blk) ∧ True) ?_ ?_
   ·
    unfold r80_7
    refine R_mv (@rfl V (V.bool false)) ?_
    exact R_nil ⟨rfl, h105, trivial⟩
   intro T H ⟨t2, h105, _⟩
   refine W_ret ?_
   refine y4 _ _ ?_
   refine p22 _ _ ?_
   refine y1 _ _ ?_
   refine Ret_1 t2 (fz_bool ?_)
   · unfold fitB; rw [hc, fe_hit (by unfold nbE; rw [if_pos d1]; decide) (by omega)]; unfold nbE; rw [if_pos d1]; rfl
  have d1 : nbB (srt lexT l) k = false := by unfold nbB; rw [show k - 1 = 0 + (((k : Nat) : Int) - (1 : Int)).toNat by omega, show nth (srt lexT l) k = nth (srt lexT l) (0 + k) by rw [Nat.zero_add]]; exact c6
  refine W_skip ?_
  refine n4 _ _ ?_
  refine .done ?_
  refine W_regc (fun T H => T 0 = (V.ms 105 2 0 (l.length)) ∧ T 3 = (iV ((k + 1 : Nat) : Int)) ∧ H 105 = (⟨2, true, false, 63, 2, (List.map cT (srt lexT l))⟩ : Blk) ∧ True) ?_ ?_
  ·
   unfold r80_5
   refine R_mv t3 ?_
   refine R_addN (m := k) (n := 1) (@rfl V (iV ((k : Nat) : Int))) (@rfl V (iV ((1 : Nat) : Int))) (by omega) ?_
   refine R_mv (@rfl V (iV ((k + 1 : Nat) : Int))) ?_
   exact R_nil ⟨t0, rfl, h105, trivial⟩
  intro T H ⟨t0, t3, h105, _⟩
  refine p12 _ _ _ ?_ ⟨(k + 1), rfl, t0, (Eq.trans t3 (by first | rfl | simp)), h105, ?_, ?_, ?_⟩
  · omega
  · omega
  · omega
  · rw [hc, fe_skip (by unfold nbE; rw [if_neg (by simp [d1])]) (by omega)]
 refine W_seq_exit ?_
 refine p32 _ _ _ ?_
 refine x1 _ _ ?_
 refine .done ?_
 refine W_seq_regc (fun T H => T 2 = (V.bool true) ∧ H 105 = (⟨2, true, false, 63, 2, (List.map cT (srt lexT l))⟩ : Blk) ∧ True) ?_ ?_
 ·
  unfold r80_8
  refine R_mv (@rfl V (V.bool true)) ?_
  exact R_nil ⟨rfl, h105, trivial⟩
 intro T H ⟨t2, h105, _⟩
 refine W_ret ?_
 refine Ret_1 t2 (fz_bool ?_)
 · unfold fitB; rw [hc, fe_end (by omega)]; rfl

theorem fits_pure (l : List Tr) (hl : l.length ≤ 1000000) (hd : ∀ a ∈ l, ∀ b ∈ l, a.ni = b.ni → a = b) (hpl : ∀ a ∈ l, a.no.length = a.ni.length) : PureC Try.prog 80 [(V.sl (List.map cT l))] (V.bool (fitB l)) := by
  by_cases h : l = []
  · subst h
    have e : fitB [] = true := by simp [fitB, srt, fe]
    rw [e]; exact fits_nil
  · exact fits_cons l h hl hd hpl

end Go.Proofs.Ytngkckefanbhgaa

namespace Go.Proofs.Ytngkckefanbhgaa
open Go Go.Proofs

def r81_0 : List SO := [
  ⟨none, some 4, .mv (.c (.bool false))⟩]
def r81_1 : List SO := [
  ⟨none, some 5, .mv (.t 0)⟩,
  ⟨none, some 6, .mv (.t 1)⟩,
  ⟨none, some 7, .call false 74 [.t 5, .t 6]⟩,
  ⟨none, some 8, .bin .geq (.t 7) (.c (.int .i64 0))⟩,
  ⟨none, some 4, .mv (.t 8)⟩]
def s81 : SF := ⟨9, [.tmp 4], .seq (.reg r81_0) (.seq (.reg r81_1) (.ret))⟩
theorem s81_ok : slimF Try.prog ⟨[94, 102, 103, 108, 109, 116, 119, 121, 125], []⟩ Try.f81 = some s81 := by kernel_rfl

end Go.Proofs.Ytngkckefanbhgaa

namespace Go.Proofs.Ytngkckefanbhgaa
open Go Go.Proofs

def r74_0 : List SO := [
  ⟨none, some 4, .mv (.c (.int .i64 0))⟩]
def r74_1 : List SO := [
  ⟨none, some 6, .mv (.t 0)⟩,
  ⟨none, some 7, .len (.t 6)⟩,
  ⟨none, some 8, .mv (.c (.int .i64 0))⟩]
def r74_2 : List SO := [
  ⟨none, some 9, .bin .lss (.t 8) (.t 7)⟩]
def r74_3 : List SO := [
  ⟨none, some 10, .mv (.t 8)⟩,
  ⟨none, some 5, .mv (.t 10)⟩]
def r74_4 : List SO := [
  ⟨none, some 11, .mv (.t 1)⟩,
  ⟨none, some 12, .mv (.t 0)⟩,
  ⟨none, some 13, .mv (.t 5)⟩,
  ⟨none, some 14, .idx 2 (.t 12) (.t 13)⟩,
  ⟨none, some 15, .load true 2 (.t 14)⟩,
  ⟨none, some 16, .callv false (.t 11) [.t 15]⟩]
def r74_5 : List SO := [
  ⟨none, some 17, .mv (.t 5)⟩,
  ⟨none, some 4, .mv (.t 17)⟩]
def r74_6 : List SO := [
  ⟨none, some 18, .bin .add (.t 8) (.c (.int .i64 1))⟩,
  ⟨none, some 8, .mv (.t 18)⟩]
def b74_0 : SC := .seq (.reg r74_2) (.seq (.cond (.t 9) (.skip) (.exit 0)) (.seq (.block 1 (.seq (.reg r74_3) (.seq (.reg r74_4) (.cond (.t 16) (.seq (.reg r74_5) (.ret)) (.skip))))) (.reg r74_6)))
def r74_7 : List SO := [
  ⟨none, some 4, .mv (.c (.int .i64 (-1)))⟩]
def s74 : SF := ⟨19, [.tmp 4], .seq (.reg r74_0) (.seq (.seq (.reg r74_1) (.block 0 (.loop b74_0))) (.seq (.reg r74_7) (.ret)))⟩
theorem s74_ok : slimF Try.prog ⟨[94, 102, 103, 108, 109, 116, 119, 121, 125], []⟩ Try.f74 = some s74 := by kernel_rfl

end Go.Proofs.Ytngkckefanbhgaa

namespace Go.Proofs.Ytngkckefanbhgaa
open Go Go.Proofs

theorem idxt_pure (p : Tr → Bool) (w : List Tr) (g : Nat) (caps : List V) (hca : canonL caps = true) (hpu : pureL caps = true) (hq : ∀ k, k < w.length → PureC Try.prog g (tV (nth w k) :: caps) (.bool (p (nth w k)))) : PureC Try.prog 74 [(V.sl (List.map cT (w))), (V.fn g [] caps)] (iV (fi (fun j => p (nth w j)) 0 w.length)) := by
 refine pure_of_Wb true 6 Try.func74 s74_ok (by kernel_rfl) (by simp [s74]) (by simp [hpu]) (by simp) fun hB => ?_
 simp only [bnd_map, bnd_int, bnd_bool, bnd_str, bnd_agg, bnd_pp, bnd_nil, bnd_cons, implies_true, and_true, true_and] at hB
 unfold s74
 dsimp only
 refine W_seq_regc (fun T H => T 0 = (V.sl (List.map cT (w))) ∧ T 1 = (V.fn g [] caps) ∧ True) ?_ ?_
 ·
  unfold r74_0
  refine R_mv (@rfl V (iV (0 : Int))) ?_
  exact R_nil ⟨rfl, rfl, trivial⟩
 intro T H ⟨t0, t1, _⟩
 refine W_seq_seq ?_
 refine W_seq_regc (fun T H => T 0 = (V.sl (List.map cT (w))) ∧ T 1 = (V.fn g [] caps) ∧ T 7 = (iV ((w.length : Nat) : Int)) ∧ T 8 = (iV (0 : Int)) ∧ True) ?_ ?_
 ·
  unfold r74_1
  refine R_mv t0 ?_
  refine R_len (@rfl V (V.sl (List.map cT (w)))) ?_
  refine R_mv (@rfl V (iV (0 : Int))) ?_
  exact R_nil ⟨t0, t1, rfl, rfl, trivial⟩
 intro T H ⟨t0, t1, t7, t8, _⟩
 refine W_seq_blockg fun Q1 n1 x1 y1 z1 => ?_
 refine W_loop (fun mm T H => ∃ (k : Nat), mm = w.length - k ∧ T 0 = (V.sl (List.map cT (w))) ∧ T 1 = (V.fn g [] caps) ∧ T 7 = (iV ((w.length : Nat) : Int)) ∧ T 8 = (iV ((k : Nat) : Int)) ∧ (k ≤ w.length) ∧ (fi (fun j => p (nth w j)) 0 w.length = fi (fun j => p (nth w j)) k (w.length - k))) ?_ ?_
 ·
  refine ⟨_, 0, rfl, t0, t1, t7, (Eq.trans t8 (by first | rfl | simp)), ?_, ?_⟩
  · omega
  · rfl
 intro mm T H ⟨k, hmm, t0, t1, t7, t8, hk, hc⟩ Q2 p12 p22 p32
 unfold b74_0
 refine W_seq_regc (fun T H => T 0 = (V.sl (List.map cT (w))) ∧ T 1 = (V.fn g [] caps) ∧ T 7 = (iV ((w.length : Nat) : Int)) ∧ T 8 = (iV ((k : Nat) : Int)) ∧ T 9 = (V.bool (decide (((k : Nat) : Int) < ((w.length : Nat) : Int)))) ∧ True) ?_ ?_
 ·
  unfold r74_2
  refine R_lss (x := ((k : Nat) : Int)) (y := ((w.length : Nat) : Int)) t8 t7 ?_
  exact R_nil ⟨t0, t1, t7, t8, rfl, trivial⟩
 intro T H ⟨t0, t1, t7, t8, t9, _⟩
 refine W_seq_if (p := ((k : Nat) : Int) < ((w.length : Nat) : Int)) t9 (fun c3 => ?_) (fun c3 => ?_)
 ·
  refine W_seq_skip ?_
  refine W_seq_blockg fun Q4 n4 x4 y4 z4 => ?_
  refine W_seq_regc (fun T H => T 0 = (V.sl (List.map cT (w))) ∧ T 1 = (V.fn g [] caps) ∧ T 5 = (iV ((k : Nat) : Int)) ∧ T 7 = (iV ((w.length : Nat) : Int)) ∧ T 8 = (iV ((k : Nat) : Int)) ∧ True) ?_ ?_
  ·
   unfold r74_3
   refine R_mv t8 ?_
   refine R_mv (@rfl V (iV ((k : Nat) : Int))) ?_
   exact R_nil ⟨t0, t1, rfl, t7, t8, trivial⟩
  intro T H ⟨t0, t1, t5, t7, t8, _⟩
  refine W_seq_regc (fun T H => T 0 = (V.sl (List.map cT (w))) ∧ T 1 = (V.fn g [] caps) ∧ T 5 = (iV ((k : Nat) : Int)) ∧ T 7 = (iV ((w.length : Nat) : Int)) ∧ T 8 = (iV ((k : Nat) : Int)) ∧ T 16 = (V.bool (p (nth w k))) ∧ True) ?_ ?_
  ·
   unfold r74_4
   refine R_mv t1 ?_
   refine R_mv t0 ?_
   refine R_mv t5 ?_
   refine R_idx (i := k) (@rfl V (V.sl (List.map cT (w)))) (@rfl V (iV ((k : Nat) : Int))) (by omega) rfl ?_
   refine R_load_pp (v := (V.agg [(V.sl (List.map cI ((nth (w) (k)).ni))), (V.sl (List.map cI ((nth (w) (k)).no)))])) (@rfl V (V.pp [(V.sl (List.map cI ((nth (w) (k)).ni))), (V.sl (List.map cI ((nth (w) (k)).no)))])) (by first | rfl | simp [ldV]) ?_
   refine R_callv (@rfl V (V.fn g [] caps)) (evcons (@rfl V (V.agg [(V.sl (List.map cI ((nth (w) (k)).ni))), (V.sl (List.map cI ((nth (w) (k)).no)))])) evnil) (hq k (by omega)) (fzv_mapcanon _ _ (by simp [hca])) (by simp [hpu]) (Or.inl (by simp [hpu])) ?_
   exact R_nil ⟨t0, t1, t5, t7, t8, rfl, trivial⟩
  intro T H ⟨t0, t1, t5, t7, t8, t16, _⟩
  refine W_ifb t16 (fun c5 => ?_) (fun c5 => ?_)
  ·
   have d1 := c5
   refine W_seq_regc (fun T H => T 4 = (iV ((k : Nat) : Int)) ∧ True) ?_ ?_
   ·
    unfold r74_5
    refine R_mv t5 ?_
    refine R_mv (@rfl V (iV ((k : Nat) : Int))) ?_
    exact R_nil ⟨rfl, trivial⟩
   intro T H ⟨t4, _⟩
   refine W_ret ?_
   refine y4 _ _ ?_
   refine p22 _ _ ?_
   refine y1 _ _ ?_
   refine Ret_1 t4 (fz_int ?_)
   · rw [hc, fi_hit (by exact d1) (by omega)]
  have d1 := c5
  refine W_skip ?_
  refine n4 _ _ ?_
  refine .done ?_
  refine W_regc (fun T H => T 0 = (V.sl (List.map cT (w))) ∧ T 1 = (V.fn g [] caps) ∧ T 7 = (iV ((w.length : Nat) : Int)) ∧ T 8 = (iV ((k + 1 : Nat) : Int)) ∧ True) ?_ ?_
  ·
   unfold r74_6
   refine R_addN (m := k) (n := 1) t8 (@rfl V (iV ((1 : Nat) : Int))) (by omega) ?_
   refine R_mv (@rfl V (iV ((k + 1 : Nat) : Int))) ?_
   exact R_nil ⟨t0, t1, t7, rfl, trivial⟩
  intro T H ⟨t0, t1, t7, t8, _⟩
  refine p12 _ _ _ ?_ ⟨(k + 1), rfl, t0, t1, t7, (Eq.trans t8 (by first | rfl | simp)), ?_, ?_⟩
  · omega
  · omega
  · rw [hc, fi_skip (by exact d1) (by omega)]
 refine W_seq_exit ?_
 refine p32 _ _ _ ?_
 refine x1 _ _ ?_
 refine .done ?_
 refine W_seq_regc (fun T H => T 4 = (iV (-1 : Int)) ∧ True) ?_ ?_
 ·
  unfold r74_7
  refine R_mv (@rfl V (iV (-1 : Int))) ?_
  exact R_nil ⟨rfl, trivial⟩
 intro T H ⟨t4, _⟩
 refine W_ret ?_
 refine Ret_1 t4 (fz_int ?_)
 · rw [hc, fi_end (by omega)]

end Go.Proofs.Ytngkckefanbhgaa

namespace Go.Proofs.Ytngkckefanbhgaa
open Go Go.Proofs

theorem cont_pure (p : Tr → Bool) (w : List Tr) (g : Nat) (caps : List V) (hca : canonL caps = true) (hpu : pureL caps = true) (hq : ∀ k, k < w.length → PureC Try.prog g (tV (nth w k) :: caps) (.bool (p (nth w k)))) : PureC Try.prog 81 [(V.sl (List.map cT (w))), (V.fn g [] caps)] (V.bool (decide (0 ≤ fi (fun j => p (nth w j)) 0 w.length))) := by
 refine pure_of_Wb true 6 Try.func81 s81_ok (by kernel_rfl) (by simp [s81]) (by simp [hpu]) (by simp) fun hB => ?_
 simp only [bnd_map, bnd_int, bnd_bool, bnd_str, bnd_agg, bnd_pp, bnd_nil, bnd_cons, implies_true, and_true, true_and] at hB
 unfold s81
 dsimp only
 refine W_seq_regc (fun T H => T 0 = (V.sl (List.map cT (w))) ∧ T 1 = (V.fn g [] caps) ∧ True) ?_ ?_
 ·
  unfold r81_0
  refine R_mv (@rfl V (V.bool false)) ?_
  exact R_nil ⟨rfl, rfl, trivial⟩
 intro T H ⟨t0, t1, _⟩
 refine W_seq_regc (fun T H => T 4 = (V.bool (decide ((0 : Int) ≤ (fi (fun j => p (nth w j)) 0 w.length)))) ∧ True) ?_ ?_
 ·
  unfold r81_1
  refine R_mv t0 ?_
  refine R_mv t1 ?_
  refine R_call (evcons (@rfl V (V.sl (List.map cT (w)))) (evcons (@rfl V (V.fn g [] caps)) evnil)) (idxt_pure p w g caps hca hpu hq) (fzv_mapcanon _ _ (by simp [hca, hpu, -List.map_take, -List.map_drop, -List.map_append, -List.map_reverse])) (by simp [hca, hpu, -List.map_take, -List.map_drop, -List.map_append, -List.map_reverse]) (Or.inl (by simp [hca, hpu, -List.map_take, -List.map_drop, -List.map_append, -List.map_reverse])) ?_
  refine R_geq (x := (fi (fun j => p (nth w j)) 0 w.length)) (y := (0 : Int)) (@rfl V (iV (fi (fun j => p (nth w j)) 0 w.length))) (@rfl V (iV (0 : Int))) ?_
  refine R_mv (@rfl V (V.bool (decide ((0 : Int) ≤ (fi (fun j => p (nth w j)) 0 w.length))))) ?_
  exact R_nil ⟨rfl, trivial⟩
 intro T H ⟨t4, _⟩
 refine W_ret ?_
 refine Ret_1 t4 (fz_bool ?_)
 · first | rfl | omega | simp_all

end Go.Proofs.Ytngkckefanbhgaa

namespace Go.Proofs.Ytngkckefanbhgaa
open Go Go.Proofs

def r82_0 : List SO := [
  ⟨none, some 2, .box 63 2 (.t 0)⟩,
  ⟨none, some 3, .mv (.c (.bool false))⟩]
def r82_1 : List SO := [
  ⟨none, some 4, .fld 0 (.t 2)⟩,
  ⟨none, some 5, .load false 1 (.t 4)⟩,
  ⟨none, some 6, .fld 0 (.t 1)⟩,
  ⟨none, some 7, .load false 1 (.t 6)⟩,
  ⟨none, some 8, .call false 76 [.t 5, .t 7]⟩,
  ⟨none, some 3, .mv (.t 8)⟩]
def s82 : SF := ⟨9, [.tmp 3], .seq (.reg r82_0) (.seq (.reg r82_1) (.ret))⟩
theorem s82_ok : slimF Try.prog ⟨[94, 102, 103, 108, 109, 116, 119, 121, 125], []⟩ Try.f82 = some s82 := by kernel_rfl

end Go.Proofs.Ytngkckefanbhgaa

namespace Go.Proofs.Ytngkckefanbhgaa
open Go Go.Proofs

theorem valid1_pure (u t : Tr) : PureC Try.prog 82 [(V.agg [(V.sl (List.map cI (u.ni))), (V.sl (List.map cI (u.no)))]), (V.pp [(V.sl (List.map cI (t.ni))), (V.sl (List.map cI (t.no)))])] (V.bool (hp u.ni t.ni)) := by
 refine pure_of_Wb true 6 Try.func82 s82_ok (by kernel_rfl) (by simp [s82]) (by simp) (by simp) fun hB => ?_
 simp only [bnd_map, bnd_int, bnd_bool, bnd_str, bnd_agg, bnd_pp, bnd_nil, bnd_cons, implies_true, and_true, true_and] at hB
 unfold s82
 dsimp only
 refine W_seq_regc (fun T H => T 1 = (V.pp [(V.sl (List.map cI (t.ni))), (V.sl (List.map cI (t.no)))]) ∧ T 2 = (V.mp 2 1 0 0) ∧ H 2 = (⟨1, true, false, 63, 2, [[(V.sl (List.map cI (u.ni))), (V.sl (List.map cI (u.no)))]]⟩ : Blk) ∧ True) ?_ ?_
 ·
  unfold r82_0
  refine R_box (i := 2) (n := 0) (m := 2) (cs := [(V.sl (List.map cI (u.ni))), (V.sl (List.map cI (u.no)))]) rfl (congrArg Blk.ver rfl) (@rfl V (V.agg [(V.sl (List.map cI (u.ni))), (V.sl (List.map cI (u.no)))])) rfl rfl ?_
  refine R_mv (@rfl V (V.bool false)) ?_
  exact R_nil ⟨rfl, rfl, rfl, trivial⟩
 intro T H ⟨t1, t2, h2, _⟩
 refine W_seq_regc (fun T H => T 3 = (V.bool (hp u.ni t.ni)) ∧ H 2 = (⟨1, true, false, 63, 2, [[(V.sl (List.map cI (u.ni))), (V.sl (List.map cI (u.no)))]]⟩ : Blk) ∧ True) ?_ ?_
 ·
  unfold r82_1
  refine R_fld_mp (o' := 0) t2 h2 (by first | rfl | simp [okB, Blk.own]) rfl ?_
  refine R_load_mp (v := (V.sl (List.map cI (u.ni)))) (@rfl V (V.mp 2 1 0 0)) h2 (by first | rfl | simp [ldB, ldV, Blk.own, V.one]) ?_
  refine R_fld_pp (cs' := [(V.sl (List.map cI (t.ni))), (V.sl (List.map cI (t.no)))]) t1 rfl ?_
  refine R_load_pp (v := (V.sl (List.map cI (t.ni)))) (@rfl V (V.pp [(V.sl (List.map cI (t.ni))), (V.sl (List.map cI (t.no)))])) (by first | rfl | simp [ldV]) ?_
  refine R_call (evcons (@rfl V (V.sl (List.map cI (u.ni)))) (evcons (@rfl V (V.sl (List.map cI (t.ni)))) evnil)) (hp_pure u.ni t.ni) (fzv_mapcanon _ _ (by simp [-List.map_take, -List.map_drop, -List.map_append, -List.map_reverse])) (by simp [-List.map_take, -List.map_drop, -List.map_append, -List.map_reverse]) (Or.inl (by simp [-List.map_take, -List.map_drop, -List.map_append, -List.map_reverse])) ?_
  refine R_mv (@rfl V (V.bool (hp u.ni t.ni))) ?_
  exact R_nil ⟨rfl, h2, trivial⟩
 intro T H ⟨t3, h2, _⟩
 refine W_ret ?_
 refine Ret_1 t3 (fz_canon (by simp) rfl)

end Go.Proofs.Ytngkckefanbhgaa

namespace Go.Proofs.Ytngkckefanbhgaa
open Go Go.Proofs

def r83_0 : List SO := [
  ⟨none, some 2, .box 63 2 (.t 0)⟩,
  ⟨none, some 3, .mv (.c (.bool false))⟩]
def r83_1 : List SO := [
  ⟨none, some 4, .load true 2 (.t 1)⟩,
  ⟨none, some 5, .load true 2 (.t 2)⟩,
  ⟨none, some 6, .call false 84 [.t 4, .t 5]⟩,
  ⟨none, some 7, .bin .geq (.t 6) (.c (.int .i64 0))⟩,
  ⟨none, some 3, .mv (.t 7)⟩]
def s83 : SF := ⟨8, [.tmp 3], .seq (.reg r83_0) (.seq (.reg r83_1) (.ret))⟩
theorem s83_ok : slimF Try.prog ⟨[94, 102, 103, 108, 109, 116, 119, 121, 125], []⟩ Try.f83 = some s83 := by kernel_rfl

end Go.Proofs.Ytngkckefanbhgaa

namespace Go.Proofs.Ytngkckefanbhgaa
open Go Go.Proofs

theorem valid2_pure (u t : Tr) (hu : u.no.length = u.ni.length) (ht : t.no.length = t.ni.length) : PureC Try.prog 83 [(V.agg [(V.sl (List.map cI (u.ni))), (V.sl (List.map cI (u.no)))]), (V.pp [(V.sl (List.map cI (t.ni))), (V.sl (List.map cI (t.no)))])] (V.bool (decide (0 ≤ df t u))) := by
 refine pure_of_Wb true 6 Try.func83 s83_ok (by kernel_rfl) (by simp [s83]) (by simp) (by simp) fun hB => ?_
 simp only [bnd_map, bnd_int, bnd_bool, bnd_str, bnd_agg, bnd_pp, bnd_nil, bnd_cons, implies_true, and_true, true_and] at hB
 unfold s83
 dsimp only
 refine W_seq_regc (fun T H => T 1 = (V.pp [(V.sl (List.map cI (t.ni))), (V.sl (List.map cI (t.no)))]) ∧ T 2 = (V.mp 2 1 0 0) ∧ H 2 = (⟨1, true, false, 63, 2, [[(V.sl (List.map cI (u.ni))), (V.sl (List.map cI (u.no)))]]⟩ : Blk) ∧ True) ?_ ?_
 ·
  unfold r83_0
  refine R_box (i := 2) (n := 0) (m := 2) (cs := [(V.sl (List.map cI (u.ni))), (V.sl (List.map cI (u.no)))]) rfl (congrArg Blk.ver rfl) (@rfl V (V.agg [(V.sl (List.map cI (u.ni))), (V.sl (List.map cI (u.no)))])) rfl rfl ?_
  refine R_mv (@rfl V (V.bool false)) ?_
  exact R_nil ⟨rfl, rfl, rfl, trivial⟩
 intro T H ⟨t1, t2, h2, _⟩
 refine W_seq_regc (fun T H => T 3 = (V.bool (decide ((0 : Int) ≤ (df t u)))) ∧ H 2 = (⟨1, true, false, 63, 2, [[(V.sl (List.map cI (u.ni))), (V.sl (List.map cI (u.no)))]]⟩ : Blk) ∧ True) ?_ ?_
 ·
  unfold r83_1
  refine R_load_pp (v := (V.agg [(V.sl (List.map cI (t.ni))), (V.sl (List.map cI (t.no)))])) t1 (by first | rfl | simp [ldV]) ?_
  refine R_load_mp (v := (V.agg [(V.sl (List.map cI (u.ni))), (V.sl (List.map cI (u.no)))])) t2 h2 (by first | rfl | simp [ldB, ldV, Blk.own, V.one]) ?_
  refine R_call (evcons (@rfl V (V.agg [(V.sl (List.map cI (t.ni))), (V.sl (List.map cI (t.no)))])) (evcons (@rfl V (V.agg [(V.sl (List.map cI (u.ni))), (V.sl (List.map cI (u.no)))])) evnil)) (odiffer_pure t u ht hu) (fzv_mapcanon _ _ (by simp [-List.map_take, -List.map_drop, -List.map_append, -List.map_reverse])) (by simp [-List.map_take, -List.map_drop, -List.map_append, -List.map_reverse]) (Or.inl (by simp [-List.map_take, -List.map_drop, -List.map_append, -List.map_reverse])) ?_
  refine R_geq (x := (df t u)) (y := (0 : Int)) (@rfl V (iV (df t u))) (@rfl V (iV (0 : Int))) ?_
  refine R_mv (@rfl V (V.bool (decide ((0 : Int) ≤ (df t u))))) ?_
  exact R_nil ⟨rfl, h2, trivial⟩
 intro T H ⟨t3, h2, _⟩
 refine W_ret ?_
 refine Ret_1 t3 (fz_bool ?_)
 · rfl

end Go.Proofs.Ytngkckefanbhgaa

namespace Go.Proofs.Ytngkckefanbhgaa
open Go Go.Proofs

theorem oval_pure (o : Ob) : PureC Try.prog 36 [(V.agg [(iV (o.i)), (V.sl (List.map cT (o.tr)))])] (iV (oval o)) := by
 refine pure_of_Wb true 6 Try.func36 s36_ok (by kernel_rfl) (by simp [s36]) (by simp) (by simp) fun hB => ?_
 simp only [bnd_map, bnd_int, bnd_bool, bnd_str, bnd_agg, bnd_pp, bnd_nil, bnd_cons, implies_true, and_true, true_and] at hB
 unfold s36
 dsimp only
 refine W_seq_regc (fun T H => T 1 = (V.mp 1 1 0 0) ∧ H 1 = (⟨1, true, false, 34, 2, [[(iV (o.i)), (V.sl (List.map cT (o.tr)))]]⟩ : Blk) ∧ H 4 = (⟨0, false, false, 0, 0, []⟩ : Blk) ∧ H 8 = (⟨0, false, false, 0, 0, []⟩ : Blk) ∧ True) ?_ ?_
 ·
  unfold r36_0
  refine R_box (i := 1) (n := 0) (m := 2) (cs := [(iV (o.i)), (V.sl (List.map cT (o.tr)))]) rfl (congrArg Blk.ver rfl) (@rfl V (V.agg [(iV (o.i)), (V.sl (List.map cT (o.tr)))])) rfl rfl ?_
  refine R_mv (@rfl V (iV (0 : Int))) ?_
  exact R_nil ⟨rfl, rfl, rfl, rfl, trivial⟩
 intro T H ⟨t1, h1, h4, h8, _⟩
 refine W_seq_seq ?_
 refine W_seq_regc (fun T H => T 1 = (V.mp 1 1 0 0) ∧ T 17 = (V.bool (decide (((o.i) < (1 : Int)) ∨ ((64 : Int) < (o.i))))) ∧ H 1 = (⟨1, true, false, 34, 2, [[(iV (o.i)), (V.sl (List.map cT (o.tr)))]]⟩ : Blk) ∧ H 4 = (⟨0, false, false, 0, 0, []⟩ : Blk) ∧ H 8 = (⟨0, false, false, 0, 0, []⟩ : Blk) ∧ True) ?_ ?_
 ·
  unfold r36_1
  refine R_fld_mp (o' := 0) t1 h1 (by first | rfl | simp [okB, Blk.own]) rfl ?_
  refine R_load_mp (v := (iV (o.i))) (@rfl V (V.mp 1 1 0 0)) h1 (by first | rfl | simp [ldB, ldV, Blk.own, V.one]) ?_
  refine R_lss (x := (o.i)) (y := (1 : Int)) (@rfl V (iV (o.i))) (@rfl V (iV (1 : Int))) ?_
  refine R_mv (@rfl V (V.bool (decide ((o.i) < (1 : Int))))) ?_
  refine Ops_seg 4 (fun T H => T 1 = (V.mp 1 1 0 0) ∧ T 17 = (V.bool (decide (((o.i) < (1 : Int)) ∨ ((64 : Int) < (o.i))))) ∧ H 1 = (⟨1, true, false, 34, 2, [[(iV (o.i)), (V.sl (List.map cT (o.tr)))]]⟩ : Blk) ∧ H 4 = (⟨0, false, false, 0, 0, []⟩ : Blk) ∧ H 8 = (⟨0, false, false, 0, 0, []⟩ : Blk) ∧ True) ?_ ?_
  ·
   by_cases g1 : (o.i) < (1 : Int)
   ·
    refine G_no (Eq.trans (@rfl V (V.bool (decide ((o.i) < (1 : Int))))) (bdT g1)) (by decide) ?_
    refine G_no (Eq.trans (@rfl V (V.bool (decide ((o.i) < (1 : Int))))) (bdT g1)) (by decide) ?_
    refine G_no (Eq.trans (@rfl V (V.bool (decide ((o.i) < (1 : Int))))) (bdT g1)) (by decide) ?_
    refine R_pickT (Eq.trans (@rfl V (V.bool (decide ((o.i) < (1 : Int))))) (bdT g1)) (@rfl V (V.bool true)) ?_
    exact ⟨t1, (Eq.trans (@rfl V (V.bool true)) (dec_orT g1)), h1, h4, h8, trivial⟩
   ·
    refine G_yes (Eq.trans (@rfl V (V.bool (decide ((o.i) < (1 : Int))))) (bdF g1)) ?_
    refine R_fld_mp (o' := 0) t1 h1 (by first | rfl | simp [okB, Blk.own]) rfl ?_
    refine G_yes (Eq.trans (@rfl V (V.bool (decide ((o.i) < (1 : Int))))) (bdF g1)) ?_
    refine R_load_mp (v := (iV (o.i))) (@rfl V (V.mp 1 1 0 0)) h1 (by first | rfl | simp [ldB, ldV, Blk.own, V.one]) ?_
    refine G_yes (Eq.trans (@rfl V (V.bool (decide ((o.i) < (1 : Int))))) (bdF g1)) ?_
    refine R_gtr (x := (o.i)) (y := (64 : Int)) (@rfl V (iV (o.i))) (@rfl V (iV (64 : Int))) ?_
    refine R_pickF (Eq.trans (@rfl V (V.bool (decide ((o.i) < (1 : Int))))) (bdF g1)) (@rfl V (V.bool (decide ((64 : Int) < (o.i))))) ?_
    exact ⟨t1, (Eq.trans (@rfl V (V.bool (decide ((64 : Int) < (o.i))))) (dec_orF g1)), h1, h4, h8, trivial⟩
  intro T H ⟨t1, t17, h1, h4, h8, _⟩
  exact R_nil ⟨t1, t17, h1, h4, h8, trivial⟩
 intro T H ⟨t1, t17, h1, h4, h8, _⟩
 refine W_seq_if (p := ((o.i) < (1 : Int)) ∨ ((64 : Int) < (o.i))) t17 (fun c2 => ?_) (fun c2 => ?_)
 ·
  refine W_seq_seq ?_
  refine W_seq_regc (fun T H => T 2 = (iV (2 : Int)) ∧ H 1 = (⟨1, true, false, 34, 2, [[(iV (o.i)), (V.sl (List.map cT (o.tr)))]]⟩ : Blk) ∧ H 4 = (⟨0, false, false, 0, 0, []⟩ : Blk) ∧ H 8 = (⟨0, false, false, 0, 0, []⟩ : Blk) ∧ True) ?_ ?_
  ·
   unfold r36_2
   refine R_mv (@rfl V (iV (2 : Int))) ?_
   exact R_nil ⟨rfl, h1, h4, h8, trivial⟩
  intro T H ⟨t2, h1, h4, h8, _⟩
  refine W_seq_ret ?_
  refine Ret_1 t2 (fz_int ?_)
  · rw [oval, if_pos (by omega)]
 refine W_seq_skip ?_
 refine W_seq_seq ?_
 refine W_seq_regc (fun T H => T 1 = (V.mp 1 1 0 0) ∧ T 21 = (V.bool (decide ((10000 : Int) < ((o.tr.length : Nat) : Int)))) ∧ H 1 = (⟨1, true, false, 34, 2, [[(iV (o.i)), (V.sl (List.map cT (o.tr)))]]⟩ : Blk) ∧ H 4 = (⟨0, false, false, 0, 0, []⟩ : Blk) ∧ H 8 = (⟨0, false, false, 0, 0, []⟩ : Blk) ∧ True) ?_ ?_
 ·
  unfold r36_3
  refine R_fld_mp (o' := 1) t1 h1 (by first | rfl | simp [okB, Blk.own]) rfl ?_
  refine R_load_mp (v := (V.sl (List.map cT (o.tr)))) (@rfl V (V.mp 1 1 0 1)) h1 (by first | rfl | simp [ldB, ldV, Blk.own, V.one]) ?_
  refine R_len (@rfl V (V.sl (List.map cT (o.tr)))) ?_
  refine R_gtr (x := ((o.tr.length : Nat) : Int)) (y := (10000 : Int)) (@rfl V (iV ((o.tr.length : Nat) : Int))) (@rfl V (iV (10000 : Int))) ?_
  exact R_nil ⟨t1, rfl, h1, h4, h8, trivial⟩
 intro T H ⟨t1, t21, h1, h4, h8, _⟩
 refine W_seq_if (p := (10000 : Int) < ((o.tr.length : Nat) : Int)) t21 (fun c3 => ?_) (fun c3 => ?_)
 ·
  refine W_seq_seq ?_
  refine W_seq_regc (fun T H => T 2 = (iV (11 : Int)) ∧ H 1 = (⟨1, true, false, 34, 2, [[(iV (o.i)), (V.sl (List.map cT (o.tr)))]]⟩ : Blk) ∧ H 4 = (⟨0, false, false, 0, 0, []⟩ : Blk) ∧ H 8 = (⟨0, false, false, 0, 0, []⟩ : Blk) ∧ True) ?_ ?_
  ·
   unfold r36_4
   refine R_mv (@rfl V (iV (11 : Int))) ?_
   exact R_nil ⟨rfl, h1, h4, h8, trivial⟩
  intro T H ⟨t2, h1, h4, h8, _⟩
  refine W_seq_ret ?_
  refine Ret_1 t2 (fz_int ?_)
  · rw [oval, if_neg (by omega), if_pos (by omega)]
 refine W_seq_skip ?_
 refine W_seq_seq ?_
 refine W_seq_regc (fun T H => T 1 = (V.mp 1 1 0 0) ∧ T 23 = (V.sl (List.map cT (o.tr))) ∧ T 24 = (iV ((o.tr.length : Nat) : Int)) ∧ T 25 = (iV (0 : Int)) ∧ H 1 = (⟨1, true, false, 34, 2, [[(iV (o.i)), (V.sl (List.map cT (o.tr)))]]⟩ : Blk) ∧ H 4 = (⟨0, false, false, 0, 0, []⟩ : Blk) ∧ H 8 = (⟨0, false, false, 0, 0, []⟩ : Blk) ∧ True) ?_ ?_
 ·
  unfold r36_5
  refine R_fld_mp (o' := 1) t1 h1 (by first | rfl | simp [okB, Blk.own]) rfl ?_
  refine R_load_mp (v := (V.sl (List.map cT (o.tr)))) (@rfl V (V.mp 1 1 0 1)) h1 (by first | rfl | simp [ldB, ldV, Blk.own, V.one]) ?_
  refine R_len (@rfl V (V.sl (List.map cT (o.tr)))) ?_
  refine R_mv (@rfl V (iV (0 : Int))) ?_
  exact R_nil ⟨t1, rfl, rfl, rfl, h1, h4, h8, trivial⟩
 intro T H ⟨t1, t23, t24, t25, h1, h4, h8, _⟩
 refine W_seq_blockg fun Q4 n4 x4 y4 z4 => ?_
 refine W_loop (fun mm T H => ∃ (k : Nat) (v4 : Nat), mm = o.tr.length - k ∧ T 1 = (V.mp 1 1 0 0) ∧ T 23 = (V.sl (List.map cT (o.tr))) ∧ T 24 = (iV ((o.tr.length : Nat) : Int)) ∧ T 25 = (iV ((k : Nat) : Int)) ∧ H 1 = (⟨1, true, false, 34, 2, [[(iV (o.i)), (V.sl (List.map cT (o.tr)))]]⟩ : Blk) ∧ (H 4).ver = v4 ∧ H 8 = (⟨0, false, false, 0, 0, []⟩ : Blk) ∧ (k ≤ o.tr.length) ∧ (1 ≤ o.i ∧ o.i ≤ 64 ∧ o.tr.length ≤ 10000) ∧ (fe (trE o) 0 o.tr.length = fe (trE o) k (o.tr.length - k)) ∧ (∀ j, j < k → (nth o.tr j).no.length = (nth o.tr j).ni.length) ∧ (∀ j, j + 1 < k → slx (nth o.tr j).ni (nth o.tr (j + 1)).ni < 0)) ?_ ?_
 ·
  refine ⟨_, 0, 0, rfl, t1, t23, t24, (Eq.trans t25 (by first | rfl | simp)), h1, (congrArg Blk.ver h4), h8, ?_, ?_, ?_, ?_, ?_⟩
  · omega
  · omega
  · rfl
  · intro j hj; omega
  · intro j hj; omega
 intro mm T H ⟨k, v4, hmm, t1, t23, t24, t25, h1, h4, h8, hk, hh, hc, hpl, hlt⟩ Q5 p15 p25 p35
 unfold b36_0
 refine W_seq_regc (fun T H => T 1 = (V.mp 1 1 0 0) ∧ T 23 = (V.sl (List.map cT (o.tr))) ∧ T 24 = (iV ((o.tr.length : Nat) : Int)) ∧ T 25 = (iV ((k : Nat) : Int)) ∧ T 26 = (V.bool (decide (((k : Nat) : Int) < ((o.tr.length : Nat) : Int)))) ∧ H 1 = (⟨1, true, false, 34, 2, [[(iV (o.i)), (V.sl (List.map cT (o.tr)))]]⟩ : Blk) ∧ (H 4).ver = v4 ∧ H 8 = (⟨0, false, false, 0, 0, []⟩ : Blk) ∧ True) ?_ ?_
 ·
  unfold r36_6
  refine R_lss (x := ((k : Nat) : Int)) (y := ((o.tr.length : Nat) : Int)) t25 t24 ?_
  exact R_nil ⟨t1, t23, t24, t25, rfl, h1, h4, h8, trivial⟩
 intro T H ⟨t1, t23, t24, t25, t26, h1, h4, h8, _⟩
 refine W_seq_if (p := ((k : Nat) : Int) < ((o.tr.length : Nat) : Int)) t26 (fun c6 => ?_) (fun c6 => ?_)
 ·
  refine W_seq_skip ?_
  refine W_seq_blockg fun Q7 n7 x7 y7 z7 => ?_
  refine W_seq_regc (fun T H => T 1 = (V.mp 1 1 0 0) ∧ T 3 = (iV ((k : Nat) : Int)) ∧ T 4 = (V.mp 4 (v4 + 1) 0 0) ∧ T 23 = (V.sl (List.map cT (o.tr))) ∧ T 24 = (iV ((o.tr.length : Nat) : Int)) ∧ T 25 = (iV ((k : Nat) : Int)) ∧ H 1 = (⟨1, true, false, 34, 2, [[(iV (o.i)), (V.sl (List.map cT (o.tr)))]]⟩ : Blk) ∧ H 4 = (⟨v4 + 1, true, false, 63, 2, [[(V.sl (List.map cI ((nth (o.tr) (k)).ni))), (V.sl (List.map cI ((nth (o.tr) (k)).no)))]]⟩ : Blk) ∧ H 8 = (⟨0, false, false, 0, 0, []⟩ : Blk) ∧ True) ?_ ?_
  ·
   unfold r36_7
   refine R_mv t25 ?_
   refine R_idx (i := k) t23 t25 (by omega) rfl ?_
   refine R_load_pp (v := (V.agg [(V.sl (List.map cI ((nth (o.tr) (k)).ni))), (V.sl (List.map cI ((nth (o.tr) (k)).no)))])) (@rfl V (V.pp [(V.sl (List.map cI ((nth (o.tr) (k)).ni))), (V.sl (List.map cI ((nth (o.tr) (k)).no)))])) (by first | rfl | simp [ldV]) ?_
   refine R_alloc (i := 4) (n := v4) (m := 2) rfl h4 rfl ?_
   refine R_mv (@rfl V (iV ((k : Nat) : Int))) ?_
   refine R_store (vs := [(V.sl (List.map cI ((nth (o.tr) (k)).ni))), (V.sl (List.map cI ((nth (o.tr) (k)).no)))]) (B' := (⟨v4 + 1, true, false, 63, 2, [[(V.sl (List.map cI ((nth (o.tr) (k)).ni))), (V.sl (List.map cI ((nth (o.tr) (k)).no)))]]⟩ : Blk)) (@rfl V (V.mp 4 (v4 + 1) 0 0)) (@rfl V (V.agg [(V.sl (List.map cI ((nth (o.tr) (k)).ni))), (V.sl (List.map cI ((nth (o.tr) (k)).no)))])) rfl (@rfl Blk (⟨v4 + 1, true, false, 63, 2, [[V.nilsl, V.nilsl]]⟩ : Blk)) (by first | rfl | simp [stB, okB, Blk.own, putAt, V.one]) ?_
   exact R_nil ⟨t1, rfl, rfl, t23, t24, t25, h1, rfl, h8, trivial⟩
  intro T H ⟨t1, t3, t4, t23, t24, t25, h1, h4, h8, _⟩
  refine W_seq_seq ?_
  refine W_seq_regc (fun T H => T 1 = (V.mp 1 1 0 0) ∧ T 3 = (iV ((k : Nat) : Int)) ∧ T 4 = (V.mp 4 (v4 + 1) 0 0) ∧ T 5 = (iV (wchk ((nth (o.tr) (k)).ni) ((o.i)))) ∧ T 23 = (V.sl (List.map cT (o.tr))) ∧ T 24 = (iV ((o.tr.length : Nat) : Int)) ∧ T 25 = (iV ((k : Nat) : Int)) ∧ H 1 = (⟨1, true, false, 34, 2, [[(iV (o.i)), (V.sl (List.map cT (o.tr)))]]⟩ : Blk) ∧ H 4 = (⟨v4 + 1, true, false, 63, 2, [[(V.sl (List.map cI ((nth (o.tr) (k)).ni))), (V.sl (List.map cI ((nth (o.tr) (k)).no)))]]⟩ : Blk) ∧ H 8 = (⟨0, false, false, 0, 0, []⟩ : Blk) ∧ True) ?_ ?_
  ·
   unfold r36_8
   refine R_fld_mp (o' := 0) t4 h4 (by first | rfl | simp [okB, Blk.own]) rfl ?_
   refine R_load_mp (v := (V.sl (List.map cI ((nth (o.tr) (k)).ni)))) (@rfl V (V.mp 4 (v4 + 1) 0 0)) h4 (by first | rfl | simp [ldB, ldV, Blk.own, V.one]) ?_
   refine R_fld_mp (o' := 0) t1 h1 (by first | rfl | simp [okB, Blk.own]) rfl ?_
   refine R_load_mp (v := (iV (o.i))) (@rfl V (V.mp 1 1 0 0)) h1 (by first | rfl | simp [ldB, ldV, Blk.own, V.one]) ?_
   refine R_call (evcons (@rfl V (V.sl (List.map cI ((nth (o.tr) (k)).ni)))) (evcons (@rfl V (iV (o.i))) evnil)) (check_pure ((nth (o.tr) (k)).ni) ((o.i))) (fzv_mapcanon _ _ (by simp [-List.map_take, -List.map_drop, -List.map_append, -List.map_reverse])) (by simp [-List.map_take, -List.map_drop, -List.map_append, -List.map_reverse]) (Or.inl (by simp [-List.map_take, -List.map_drop, -List.map_append, -List.map_reverse])) ?_
   refine R_mv (@rfl V (iV (wchk ((nth (o.tr) (k)).ni) ((o.i))))) ?_
   exact R_nil ⟨t1, t3, t4, rfl, t23, t24, t25, h1, h4, h8, trivial⟩
  intro T H ⟨t1, t3, t4, t5, t23, t24, t25, h1, h4, h8, _⟩
  refine W_seq_seq ?_
  refine W_seq_regc (fun T H => T 1 = (V.mp 1 1 0 0) ∧ T 3 = (iV ((k : Nat) : Int)) ∧ T 4 = (V.mp 4 (v4 + 1) 0 0) ∧ T 5 = (iV (wchk ((nth (o.tr) (k)).ni) ((o.i)))) ∧ T 23 = (V.sl (List.map cT (o.tr))) ∧ T 24 = (iV ((o.tr.length : Nat) : Int)) ∧ T 25 = (iV ((k : Nat) : Int)) ∧ T 36 = (V.bool (decide ((wchk ((nth (o.tr) (k)).ni) ((o.i))) ≠ (0 : Int)))) ∧ H 1 = (⟨1, true, false, 34, 2, [[(iV (o.i)), (V.sl (List.map cT (o.tr)))]]⟩ : Blk) ∧ H 4 = (⟨v4 + 1, true, false, 63, 2, [[(V.sl (List.map cI ((nth (o.tr) (k)).ni))), (V.sl (List.map cI ((nth (o.tr) (k)).no)))]]⟩ : Blk) ∧ H 8 = (⟨0, false, false, 0, 0, []⟩ : Blk) ∧ True) ?_ ?_
  ·
   unfold r36_9
   refine R_mv t5 ?_
   refine R_neq (x := (wchk ((nth (o.tr) (k)).ni) ((o.i)))) (y := (0 : Int)) (@rfl V (iV (wchk ((nth (o.tr) (k)).ni) ((o.i))))) (@rfl V (iV (0 : Int))) ?_
   exact R_nil ⟨t1, t3, t4, t5, t23, t24, t25, rfl, h1, h4, h8, trivial⟩
  intro T H ⟨t1, t3, t4, t5, t23, t24, t25, t36, h1, h4, h8, _⟩
  refine W_seq_if (p := (wchk ((nth (o.tr) (k)).ni) ((o.i))) ≠ (0 : Int)) t36 (fun c8 => ?_) (fun c8 => ?_)
  ·
   refine W_seq_seq ?_
   refine W_seq_regc (fun T H => T 2 = (iV (wchk ((nth (o.tr) (k)).ni) ((o.i)))) ∧ H 1 = (⟨1, true, false, 34, 2, [[(iV (o.i)), (V.sl (List.map cT (o.tr)))]]⟩ : Blk) ∧ H 4 = (⟨v4 + 1, true, false, 63, 2, [[(V.sl (List.map cI ((nth (o.tr) (k)).ni))), (V.sl (List.map cI ((nth (o.tr) (k)).no)))]]⟩ : Blk) ∧ H 8 = (⟨0, false, false, 0, 0, []⟩ : Blk) ∧ True) ?_ ?_
   ·
    unfold r36_10
    refine R_mv t5 ?_
    refine R_mv (@rfl V (iV (wchk ((nth (o.tr) (k)).ni) ((o.i))))) ?_
    exact R_nil ⟨rfl, h1, h4, h8, trivial⟩
   intro T H ⟨t2, h1, h4, h8, _⟩
   refine W_seq_ret ?_
   refine y7 _ _ ?_
   refine p25 _ _ ?_
   refine y4 _ _ ?_
   refine Ret_1 t2 (fz_int ?_)
   · have e : trE o k = wchk (nth o.tr k).ni o.i := by rw [trE, if_pos (by omega)]
     have e2 : fe (trE o) 0 o.tr.length = trE o k := by rw [hc]; exact fe_hit (by omega) (by omega)
     rw [oval, if_neg (by omega), if_neg (by omega), if_pos (by omega)]; omega
  refine W_seq_skip ?_
  refine W_seq_seq ?_
  refine W_seq_regc (fun T H => T 1 = (V.mp 1 1 0 0) ∧ T 3 = (iV ((k : Nat) : Int)) ∧ T 4 = (V.mp 4 (v4 + 1) 0 0) ∧ T 23 = (V.sl (List.map cT (o.tr))) ∧ T 24 = (iV ((o.tr.length : Nat) : Int)) ∧ T 25 = (iV ((k : Nat) : Int)) ∧ T 41 = (V.bool (decide (((((nth (o.tr) (k)).ni).length : Nat) : Int) = (0 : Int)))) ∧ H 1 = (⟨1, true, false, 34, 2, [[(iV (o.i)), (V.sl (List.map cT (o.tr)))]]⟩ : Blk) ∧ H 4 = (⟨v4 + 1, true, false, 63, 2, [[(V.sl (List.map cI ((nth (o.tr) (k)).ni))), (V.sl (List.map cI ((nth (o.tr) (k)).no)))]]⟩ : Blk) ∧ H 8 = (⟨0, false, false, 0, 0, []⟩ : Blk) ∧ True) ?_ ?_
  ·
   unfold r36_11
   refine R_fld_mp (o' := 0) t4 h4 (by first | rfl | simp [okB, Blk.own]) rfl ?_
   refine R_load_mp (v := (V.sl (List.map cI ((nth (o.tr) (k)).ni)))) (@rfl V (V.mp 4 (v4 + 1) 0 0)) h4 (by first | rfl | simp [ldB, ldV, Blk.own, V.one]) ?_
   refine R_len (@rfl V (V.sl (List.map cI ((nth (o.tr) (k)).ni)))) ?_
   refine R_eql (x := ((((nth (o.tr) (k)).ni).length : Nat) : Int)) (y := (0 : Int)) (@rfl V (iV ((((nth (o.tr) (k)).ni).length : Nat) : Int))) (@rfl V (iV (0 : Int))) ?_
   exact R_nil ⟨t1, t3, t4, t23, t24, t25, rfl, h1, h4, h8, trivial⟩
  intro T H ⟨t1, t3, t4, t23, t24, t25, t41, h1, h4, h8, _⟩
  refine W_seq_if (p := ((((nth (o.tr) (k)).ni).length : Nat) : Int) = (0 : Int)) t41 (fun c9 => ?_) (fun c9 => ?_)
  ·
   refine W_seq_seq ?_
   refine W_seq_regc (fun T H => T 2 = (iV (19 : Int)) ∧ H 1 = (⟨1, true, false, 34, 2, [[(iV (o.i)), (V.sl (List.map cT (o.tr)))]]⟩ : Blk) ∧ H 4 = (⟨v4 + 1, true, false, 63, 2, [[(V.sl (List.map cI ((nth (o.tr) (k)).ni))), (V.sl (List.map cI ((nth (o.tr) (k)).no)))]]⟩ : Blk) ∧ H 8 = (⟨0, false, false, 0, 0, []⟩ : Blk) ∧ True) ?_ ?_
   ·
    unfold r36_12
    refine R_mv (@rfl V (iV (19 : Int))) ?_
    exact R_nil ⟨rfl, h1, h4, h8, trivial⟩
   intro T H ⟨t2, h1, h4, h8, _⟩
   refine W_seq_ret ?_
   refine y7 _ _ ?_
   refine p25 _ _ ?_
   refine y4 _ _ ?_
   refine Ret_1 t2 (fz_int ?_)
   · have e : trE o k = 19 := by rw [trE, if_neg (by omega), if_pos (by omega)]
     have e2 : fe (trE o) 0 o.tr.length = trE o k := by rw [hc]; exact fe_hit (by omega) (by omega)
     rw [oval, if_neg (by omega), if_neg (by omega), if_pos (by omega)]; omega
  refine W_seq_skip ?_
  refine W_seq_seq ?_
  refine W_seq_regc (fun T H => T 1 = (V.mp 1 1 0 0) ∧ T 3 = (iV ((k : Nat) : Int)) ∧ T 4 = (V.mp 4 (v4 + 1) 0 0) ∧ T 6 = (iV (prE ((nth (o.tr) (k))) ((o.i)))) ∧ T 23 = (V.sl (List.map cT (o.tr))) ∧ T 24 = (iV ((o.tr.length : Nat) : Int)) ∧ T 25 = (iV ((k : Nat) : Int)) ∧ H 1 = (⟨1, true, false, 34, 2, [[(iV (o.i)), (V.sl (List.map cT (o.tr)))]]⟩ : Blk) ∧ H 4 = (⟨v4 + 1, true, false, 63, 2, [[(V.sl (List.map cI ((nth (o.tr) (k)).ni))), (V.sl (List.map cI ((nth (o.tr) (k)).no)))]]⟩ : Blk) ∧ H 8 = (⟨0, false, false, 0, 0, []⟩ : Blk) ∧ True) ?_ ?_
  ·
   unfold r36_13
   refine R_load_mp (v := (V.agg [(V.sl (List.map cI ((nth (o.tr) (k)).ni))), (V.sl (List.map cI ((nth (o.tr) (k)).no)))])) t4 h4 (by first | rfl | simp [ldB, ldV, Blk.own, V.one]) ?_
   refine R_fld_mp (o' := 0) t1 h1 (by first | rfl | simp [okB, Blk.own]) rfl ?_
   refine R_load_mp (v := (iV (o.i))) (@rfl V (V.mp 1 1 0 0)) h1 (by first | rfl | simp [ldB, ldV, Blk.own, V.one]) ?_
   refine R_call (evcons (@rfl V (V.agg [(V.sl (List.map cI ((nth (o.tr) (k)).ni))), (V.sl (List.map cI ((nth (o.tr) (k)).no)))])) (evcons (@rfl V (iV (o.i))) evnil)) (proper_pure ((nth (o.tr) (k))) ((o.i))) (fzv_mapcanon _ _ (by simp [-List.map_take, -List.map_drop, -List.map_append, -List.map_reverse])) (by simp [-List.map_take, -List.map_drop, -List.map_append, -List.map_reverse]) (Or.inl (by simp [-List.map_take, -List.map_drop, -List.map_append, -List.map_reverse])) ?_
   refine R_mv (@rfl V (iV (prE ((nth (o.tr) (k))) ((o.i))))) ?_
   exact R_nil ⟨t1, t3, t4, rfl, t23, t24, t25, h1, h4, h8, trivial⟩
  intro T H ⟨t1, t3, t4, t6, t23, t24, t25, h1, h4, h8, _⟩
  refine W_seq_seq ?_
  refine W_seq_regc (fun T H => T 1 = (V.mp 1 1 0 0) ∧ T 3 = (iV ((k : Nat) : Int)) ∧ T 4 = (V.mp 4 (v4 + 1) 0 0) ∧ T 6 = (iV (prE ((nth (o.tr) (k))) ((o.i)))) ∧ T 23 = (V.sl (List.map cT (o.tr))) ∧ T 24 = (iV ((o.tr.length : Nat) : Int)) ∧ T 25 = (iV ((k : Nat) : Int)) ∧ T 47 = (V.bool (decide ((prE ((nth (o.tr) (k))) ((o.i))) ≠ (0 : Int)))) ∧ H 1 = (⟨1, true, false, 34, 2, [[(iV (o.i)), (V.sl (List.map cT (o.tr)))]]⟩ : Blk) ∧ H 4 = (⟨v4 + 1, true, false, 63, 2, [[(V.sl (List.map cI ((nth (o.tr) (k)).ni))), (V.sl (List.map cI ((nth (o.tr) (k)).no)))]]⟩ : Blk) ∧ H 8 = (⟨0, false, false, 0, 0, []⟩ : Blk) ∧ True) ?_ ?_
  ·
   unfold r36_14
   refine R_mv t6 ?_
   refine R_neq (x := (prE ((nth (o.tr) (k))) ((o.i)))) (y := (0 : Int)) (@rfl V (iV (prE ((nth (o.tr) (k))) ((o.i))))) (@rfl V (iV (0 : Int))) ?_
   exact R_nil ⟨t1, t3, t4, t6, t23, t24, t25, rfl, h1, h4, h8, trivial⟩
  intro T H ⟨t1, t3, t4, t6, t23, t24, t25, t47, h1, h4, h8, _⟩
  refine W_seq_if (p := (prE ((nth (o.tr) (k))) ((o.i))) ≠ (0 : Int)) t47 (fun c10 => ?_) (fun c10 => ?_)
  ·
   refine W_seq_seq ?_
   refine W_seq_regc (fun T H => T 2 = (iV (prE ((nth (o.tr) (k))) ((o.i)))) ∧ H 1 = (⟨1, true, false, 34, 2, [[(iV (o.i)), (V.sl (List.map cT (o.tr)))]]⟩ : Blk) ∧ H 4 = (⟨v4 + 1, true, false, 63, 2, [[(V.sl (List.map cI ((nth (o.tr) (k)).ni))), (V.sl (List.map cI ((nth (o.tr) (k)).no)))]]⟩ : Blk) ∧ H 8 = (⟨0, false, false, 0, 0, []⟩ : Blk) ∧ True) ?_ ?_
   ·
    unfold r36_15
    refine R_mv t6 ?_
    refine R_mv (@rfl V (iV (prE ((nth (o.tr) (k))) ((o.i))))) ?_
    exact R_nil ⟨rfl, h1, h4, h8, trivial⟩
   intro T H ⟨t2, h1, h4, h8, _⟩
   refine W_seq_ret ?_
   refine y7 _ _ ?_
   refine p25 _ _ ?_
   refine y4 _ _ ?_
   refine Ret_1 t2 (fz_int ?_)
   · have e : trE o k = prE (nth o.tr k) o.i := by rw [trE, if_neg (by omega), if_neg (by omega), if_pos (by omega)]
     have e2 : fe (trE o) 0 o.tr.length = trE o k := by rw [hc]; exact fe_hit (by omega) (by omega)
     rw [oval, if_neg (by omega), if_neg (by omega), if_pos (by omega)]; rw [e2, e]
  refine W_seq_skip ?_
  refine W_seq_regc (fun T H => T 1 = (V.mp 1 1 0 0) ∧ T 23 = (V.sl (List.map cT (o.tr))) ∧ T 24 = (iV ((o.tr.length : Nat) : Int)) ∧ T 25 = (iV ((k : Nat) : Int)) ∧ T 61 = (V.bool (decide (((0 : Int) < ((k : Nat) : Int)) ∧ ((0 : Int) ≤ (slx ((nth (o.tr) (((k : Nat) : Int) - (1 : Int)).toNat)).ni ((nth (o.tr) (k))).ni))))) ∧ H 1 = (⟨1, true, false, 34, 2, [[(iV (o.i)), (V.sl (List.map cT (o.tr)))]]⟩ : Blk) ∧ H 4 = (⟨v4 + 1, true, false, 63, 2, [[(V.sl (List.map cI ((nth (o.tr) (k)).ni))), (V.sl (List.map cI ((nth (o.tr) (k)).no)))]]⟩ : Blk) ∧ H 8 = (⟨0, false, false, 0, 0, []⟩ : Blk) ∧ True) ?_ ?_
  ·
   unfold r36_16
   refine R_mv t3 ?_
   refine R_gtr (x := ((k : Nat) : Int)) (y := (0 : Int)) (@rfl V (iV ((k : Nat) : Int))) (@rfl V (iV (0 : Int))) ?_
   refine R_mv (@rfl V (V.bool (decide ((0 : Int) < ((k : Nat) : Int))))) ?_
   refine Ops_seg 10 (fun T H => T 1 = (V.mp 1 1 0 0) ∧ T 23 = (V.sl (List.map cT (o.tr))) ∧ T 24 = (iV ((o.tr.length : Nat) : Int)) ∧ T 25 = (iV ((k : Nat) : Int)) ∧ T 61 = (V.bool (decide (((0 : Int) < ((k : Nat) : Int)) ∧ ((0 : Int) ≤ (slx ((nth (o.tr) (((k : Nat) : Int) - (1 : Int)).toNat)).ni ((nth (o.tr) (k))).ni))))) ∧ H 1 = (⟨1, true, false, 34, 2, [[(iV (o.i)), (V.sl (List.map cT (o.tr)))]]⟩ : Blk) ∧ H 4 = (⟨v4 + 1, true, false, 63, 2, [[(V.sl (List.map cI ((nth (o.tr) (k)).ni))), (V.sl (List.map cI ((nth (o.tr) (k)).no)))]]⟩ : Blk) ∧ H 8 = (⟨0, false, false, 0, 0, []⟩ : Blk) ∧ True) ?_ ?_
   ·
    by_cases g11 : (0 : Int) < ((k : Nat) : Int)
    ·
     refine G_yes (Eq.trans (@rfl V (V.bool (decide ((0 : Int) < ((k : Nat) : Int))))) (bdT g11)) ?_
     refine R_fld_mp (o' := 1) t1 h1 (by first | rfl | simp [okB, Blk.own]) rfl ?_
     refine G_yes (Eq.trans (@rfl V (V.bool (decide ((0 : Int) < ((k : Nat) : Int))))) (bdT g11)) ?_
     refine R_load_mp (v := (V.sl (List.map cT (o.tr)))) (@rfl V (V.mp 1 1 0 1)) h1 (by first | rfl | simp [ldB, ldV, Blk.own, V.one]) ?_
     refine G_yes (Eq.trans (@rfl V (V.bool (decide ((0 : Int) < ((k : Nat) : Int))))) (bdT g11)) ?_
     refine R_mv t3 ?_
     refine G_yes (Eq.trans (@rfl V (V.bool (decide ((0 : Int) < ((k : Nat) : Int))))) (bdT g11)) ?_
     refine R_sub (x := ((k : Nat) : Int)) (y := (1 : Int)) (@rfl V (iV ((k : Nat) : Int))) (@rfl V (iV (1 : Int))) (by omega) (by omega) ?_
     refine G_yes (Eq.trans (@rfl V (V.bool (decide ((0 : Int) < ((k : Nat) : Int))))) (bdT g11)) ?_
     refine R_idxI (i := (((k : Nat) : Int) - (1 : Int))) (@rfl V (V.sl (List.map cT (o.tr)))) (@rfl V (iV (((k : Nat) : Int) - (1 : Int)))) (by omega) (by omega) rfl ?_
     refine G_yes (Eq.trans (@rfl V (V.bool (decide ((0 : Int) < ((k : Nat) : Int))))) (bdT g11)) ?_
     refine R_load_pp (v := (V.agg [(V.sl (List.map cI ((nth (o.tr) (((k : Nat) : Int) - (1 : Int)).toNat).ni))), (V.sl (List.map cI ((nth (o.tr) (((k : Nat) : Int) - (1 : Int)).toNat).no)))])) (@rfl V (V.pp [(V.sl (List.map cI ((nth (o.tr) (((k : Nat) : Int) - (1 : Int)).toNat).ni))), (V.sl (List.map cI ((nth (o.tr) (((k : Nat) : Int) - (1 : Int)).toNat).no)))])) (by first | rfl | simp [ldV]) ?_
     refine G_yes (Eq.trans (@rfl V (V.bool (decide ((0 : Int) < ((k : Nat) : Int))))) (bdT g11)) ?_
     refine R_load_mp (v := (V.agg [(V.sl (List.map cI ((nth (o.tr) (k)).ni))), (V.sl (List.map cI ((nth (o.tr) (k)).no)))])) t4 h4 (by first | rfl | simp [ldB, ldV, Blk.own, V.one]) ?_
     refine G_yes (Eq.trans (@rfl V (V.bool (decide ((0 : Int) < ((k : Nat) : Int))))) (bdT g11)) ?_
     refine R_call (evcons (@rfl V (V.agg [(V.sl (List.map cI ((nth (o.tr) (((k : Nat) : Int) - (1 : Int)).toNat).ni))), (V.sl (List.map cI ((nth (o.tr) (((k : Nat) : Int) - (1 : Int)).toNat).no)))])) (evcons (@rfl V (V.agg [(V.sl (List.map cI ((nth (o.tr) (k)).ni))), (V.sl (List.map cI ((nth (o.tr) (k)).no)))])) evnil)) (order_pure ((nth (o.tr) (((k : Nat) : Int) - (1 : Int)).toNat)) ((nth (o.tr) (k)))) (fzv_mapcanon _ _ (by simp [-List.map_take, -List.map_drop, -List.map_append, -List.map_reverse])) (by simp [-List.map_take, -List.map_drop, -List.map_append, -List.map_reverse]) (Or.inl (by simp [-List.map_take, -List.map_drop, -List.map_append, -List.map_reverse])) ?_
     refine G_yes (Eq.trans (@rfl V (V.bool (decide ((0 : Int) < ((k : Nat) : Int))))) (bdT g11)) ?_
     refine R_geq (x := (slx ((nth (o.tr) (((k : Nat) : Int) - (1 : Int)).toNat)).ni ((nth (o.tr) (k))).ni)) (y := (0 : Int)) (@rfl V (iV (slx ((nth (o.tr) (((k : Nat) : Int) - (1 : Int)).toNat)).ni ((nth (o.tr) (k))).ni))) (@rfl V (iV (0 : Int))) ?_
     refine R_pickT (Eq.trans (@rfl V (V.bool (decide ((0 : Int) < ((k : Nat) : Int))))) (bdT g11)) (@rfl V (V.bool (decide ((0 : Int) ≤ (slx ((nth (o.tr) (((k : Nat) : Int) - (1 : Int)).toNat)).ni ((nth (o.tr) (k))).ni))))) ?_
     exact ⟨t1, t23, t24, t25, (Eq.trans (@rfl V (V.bool (decide ((0 : Int) ≤ (slx ((nth (o.tr) (((k : Nat) : Int) - (1 : Int)).toNat)).ni ((nth (o.tr) (k))).ni))))) (dec_andT g11)), h1, h4, h8, trivial⟩
    ·
     refine G_no (Eq.trans (@rfl V (V.bool (decide ((0 : Int) < ((k : Nat) : Int))))) (bdF g11)) (by decide) ?_
     refine G_no (Eq.trans (@rfl V (V.bool (decide ((0 : Int) < ((k : Nat) : Int))))) (bdF g11)) (by decide) ?_
     refine G_no (Eq.trans (@rfl V (V.bool (decide ((0 : Int) < ((k : Nat) : Int))))) (bdF g11)) (by decide) ?_
     refine G_no (Eq.trans (@rfl V (V.bool (decide ((0 : Int) < ((k : Nat) : Int))))) (bdF g11)) (by decide) ?_
     refine G_no (Eq.trans (@rfl V (V.bool (decide ((0 : Int) < ((k : Nat) : Int))))) (bdF g11)) (by decide) ?_
     refine G_no (Eq.trans (@rfl V (V.bool (decide ((0 : Int) < ((k : Nat) : Int))))) (bdF g11)) (by decide) ?_
     refine G_no (Eq.trans (@rfl V (V.bool (decide ((0 : Int) < ((k : Nat) : Int))))) (bdF g11)) (by decide) ?_
     refine G_no (Eq.trans (@rfl V (V.bool (decide ((0 : Int) < ((k : Nat) : Int))))) (bdF g11)) (by decide) ?_
     refine G_no (Eq.trans (@rfl V (V.bool (decide ((0 : Int) < ((k : Nat) : Int))))) (bdF g11)) (by decide) ?_
     refine R_pickF (Eq.trans (@rfl V (V.bool (decide ((0 : Int) < ((k : Nat) : Int))))) (bdF g11)) (@rfl V (V.bool false)) ?_
     exact ⟨t1, t23, t24, t25, (Eq.trans (@rfl V (V.bool false)) (dec_andF g11)), h1, h4, h8, trivial⟩
   intro T H ⟨t1, t23, t24, t25, t61, h1, h4, h8, _⟩
   exact R_nil ⟨t1, t23, t24, t25, t61, h1, h4, h8, trivial⟩
  intro T H ⟨t1, t23, t24, t25, t61, h1, h4, h8, _⟩
  refine W_if (p := ((0 : Int) < ((k : Nat) : Int)) ∧ ((0 : Int) ≤ (slx ((nth (o.tr) (((k : Nat) : Int) - (1 : Int)).toNat)).ni ((nth (o.tr) (k))).ni))) t61 (fun c12 => ?_) (fun c12 => ?_)
  ·
   rw [show (((k : Nat) : Int) - (1)).toNat = k - 1 by omega] at c12
   refine W_seq_regc (fun T H => T 2 = (iV (10 : Int)) ∧ H 1 = (⟨1, true, false, 34, 2, [[(iV (o.i)), (V.sl (List.map cT (o.tr)))]]⟩ : Blk) ∧ H 4 = (⟨v4 + 1, true, false, 63, 2, [[(V.sl (List.map cI ((nth (o.tr) (k)).ni))), (V.sl (List.map cI ((nth (o.tr) (k)).no)))]]⟩ : Blk) ∧ H 8 = (⟨0, false, false, 0, 0, []⟩ : Blk) ∧ True) ?_ ?_
   ·
    unfold r36_17
    refine R_mv (@rfl V (iV (10 : Int))) ?_
    exact R_nil ⟨rfl, h1, h4, h8, trivial⟩
   intro T H ⟨t2, h1, h4, h8, _⟩
   refine W_ret ?_
   refine y7 _ _ ?_
   refine p25 _ _ ?_
   refine y4 _ _ ?_
   refine Ret_1 t2 (fz_int ?_)
   · have e : trE o k = 10 := by rw [trE, if_neg (by omega), if_neg (by omega), if_neg (by omega), if_pos (by omega)]
     have e2 : fe (trE o) 0 o.tr.length = trE o k := by rw [hc]; exact fe_hit (by omega) (by omega)
     rw [oval, if_neg (by omega), if_neg (by omega), if_pos (by omega)]; omega
  rw [show (((k : Nat) : Int) - (1)).toNat = k - 1 by omega] at c12
  have d4 := c12
  refine W_skip ?_
  refine n7 _ _ ?_
  refine .done ?_
  refine W_regc (fun T H => T 1 = (V.mp 1 1 0 0) ∧ T 23 = (V.sl (List.map cT (o.tr))) ∧ T 24 = (iV ((o.tr.length : Nat) : Int)) ∧ T 25 = (iV ((k + 1 : Nat) : Int)) ∧ H 1 = (⟨1, true, false, 34, 2, [[(iV (o.i)), (V.sl (List.map cT (o.tr)))]]⟩ : Blk) ∧ H 4 = (⟨v4 + 1, true, false, 63, 2, [[(V.sl (List.map cI ((nth (o.tr) (k)).ni))), (V.sl (List.map cI ((nth (o.tr) (k)).no)))]]⟩ : Blk) ∧ H 8 = (⟨0, false, false, 0, 0, []⟩ : Blk) ∧ True) ?_ ?_
  ·
   unfold r36_18
   refine R_addN (m := k) (n := 1) t25 (@rfl V (iV ((1 : Nat) : Int))) (by omega) ?_
   refine R_mv (@rfl V (iV ((k + 1 : Nat) : Int))) ?_
   exact R_nil ⟨t1, t23, t24, rfl, h1, h4, h8, trivial⟩
  intro T H ⟨t1, t23, t24, t25, h1, h4, h8, _⟩
  refine p15 _ _ _ ?_ ⟨(k + 1), (v4 + 1), rfl, t1, t23, t24, (Eq.trans t25 (by first | rfl | simp)), h1, (congrArg Blk.ver h4), h8, ?_, ?_, ?_, ?_, ?_⟩
  · omega
  · omega
  · omega
  · have e : trE o k = 0 := by rw [trE, if_neg (by omega), if_neg (by omega), if_neg (by omega), if_neg (by omega)]
    rw [hc]; exact fe_skip e (by omega)
  · intro j hj
    by_cases e : j = k
    · subst e; exact (prE_ok (n := o.i) (by omega)).len
    · exact hpl j (by omega)
  · intro j hj
    by_cases e : j + 1 < k
    · exact hlt j e
    · have e2 : j = k - 1 := by omega
      subst e2; rw [show k - 1 + 1 = k by omega]; omega
 have f0 : fe (trE o) 0 o.tr.length = 0 := by rw [hc, fe_end (by omega)]
 have f1 : ∀ a ∈ o.tr, a.no.length = a.ni.length := fun a ha => by obtain ⟨j, hj, rfl⟩ := mem_nth ha; exact hpl j (by omega)
 have f2 : ∀ j, j + 1 < o.tr.length → slx (nth o.tr j).ni (nth o.tr (j + 1)).ni < 0 := fun j hj => hlt j (by omega)
 have f3 := tr_inj f2
 clear hc hpl hlt hk
 refine W_seq_exit ?_
 refine p35 _ _ _ ?_
 refine x4 _ _ ?_
 refine .done ?_
 refine W_seq_seq ?_
 refine W_seq_regc (fun T H => T 1 = (V.mp 1 1 0 0) ∧ T 65 = (V.bool (fitB o.tr)) ∧ H 1 = (⟨1, true, false, 34, 2, [[(iV (o.i)), (V.sl (List.map cT (o.tr)))]]⟩ : Blk) ∧ (H 4).ver = v4 ∧ H 8 = (⟨0, false, false, 0, 0, []⟩ : Blk) ∧ True) ?_ ?_
 ·
  unfold r36_19
  refine R_fld_mp (o' := 1) t1 h1 (by first | rfl | simp [okB, Blk.own]) rfl ?_
  refine R_load_mp (v := (V.sl (List.map cT (o.tr)))) (@rfl V (V.mp 1 1 0 1)) h1 (by first | rfl | simp [ldB, ldV, Blk.own, V.one]) ?_
  refine R_call (evcons (@rfl V (V.sl (List.map cT (o.tr)))) evnil) (fits_pure o.tr (by omega) f3 f1) (fzv_mapcanon _ _ (by simp [-List.map_take, -List.map_drop, -List.map_append, -List.map_reverse])) (by simp [-List.map_take, -List.map_drop, -List.map_append, -List.map_reverse]) (Or.inl (by simp [-List.map_take, -List.map_drop, -List.map_append, -List.map_reverse])) ?_
  exact R_nil ⟨t1, rfl, h1, h4, h8, trivial⟩
 intro T H ⟨t1, t65, h1, h4, h8, _⟩
 refine W_seq_ifb t65 (fun c13 => ?_) (fun c13 => ?_)
 ·
  have d3 := c13
  refine W_seq_seq ?_
  refine W_seq_regc (fun T H => T 2 = (iV (0 : Int)) ∧ H 1 = (⟨1, true, false, 34, 2, [[(iV (o.i)), (V.sl (List.map cT (o.tr)))]]⟩ : Blk) ∧ (H 4).ver = v4 ∧ H 8 = (⟨0, false, false, 0, 0, []⟩ : Blk) ∧ True) ?_ ?_
  ·
   unfold r36_20
   refine R_mv (@rfl V (iV (0 : Int))) ?_
   exact R_nil ⟨rfl, h1, h4, h8, trivial⟩
  intro T H ⟨t2, h1, h4, h8, _⟩
  refine W_seq_ret ?_
  refine Ret_1 t2 (fz_int ?_)
  · rw [oval, if_neg (by omega), if_neg (by omega), if_neg (by omega), fit_ap f2 d3]
 refine W_seq_skip ?_
 refine W_seq_seq ?_
 refine W_seq_regc (fun T H => T 1 = (V.mp 1 1 0 0) ∧ T 67 = (V.sl (List.map cT (o.tr))) ∧ T 68 = (iV ((o.tr.length : Nat) : Int)) ∧ T 69 = (iV (0 : Int)) ∧ H 1 = (⟨1, true, false, 34, 2, [[(iV (o.i)), (V.sl (List.map cT (o.tr)))]]⟩ : Blk) ∧ (H 4).ver = v4 ∧ H 8 = (⟨0, false, false, 0, 0, []⟩ : Blk) ∧ True) ?_ ?_
 ·
  unfold r36_21
  refine R_fld_mp (o' := 1) t1 h1 (by first | rfl | simp [okB, Blk.own]) rfl ?_
  refine R_load_mp (v := (V.sl (List.map cT (o.tr)))) (@rfl V (V.mp 1 1 0 1)) h1 (by first | rfl | simp [ldB, ldV, Blk.own, V.one]) ?_
  refine R_len (@rfl V (V.sl (List.map cT (o.tr)))) ?_
  refine R_mv (@rfl V (iV (0 : Int))) ?_
  exact R_nil ⟨t1, rfl, rfl, rfl, h1, h4, h8, trivial⟩
 intro T H ⟨t1, t67, t68, t69, h1, h4, h8, _⟩
 refine W_seq_blockg fun Q14 n14 x14 y14 z14 => ?_
 refine W_loop (fun mm T H => ∃ (k : Nat) (v8 : Nat), mm = o.tr.length - k ∧ T 1 = (V.mp 1 1 0 0) ∧ T 67 = (V.sl (List.map cT (o.tr))) ∧ T 68 = (iV ((o.tr.length : Nat) : Int)) ∧ T 69 = (iV ((k : Nat) : Int)) ∧ H 1 = (⟨1, true, false, 34, 2, [[(iV (o.i)), (V.sl (List.map cT (o.tr)))]]⟩ : Blk) ∧ (H 4).ver = v4 ∧ (H 8).ver = v8 ∧ (k ≤ o.tr.length) ∧ (fe (apE o) 0 o.tr.length = fe (apE o) k (o.tr.length - k))) ?_ ?_
 ·
  refine ⟨_, 0, 0, rfl, t1, t67, t68, (Eq.trans t69 (by first | rfl | simp)), h1, h4, (congrArg Blk.ver h8), ?_, ?_⟩
  · omega
  · rfl
 intro mm T H ⟨k, v8, hmm, t1, t67, t68, t69, h1, h4, h8, hk, hd⟩ Q15 p115 p215 p315
 unfold b36_1
 refine W_seq_regc (fun T H => T 1 = (V.mp 1 1 0 0) ∧ T 67 = (V.sl (List.map cT (o.tr))) ∧ T 68 = (iV ((o.tr.length : Nat) : Int)) ∧ T 69 = (iV ((k : Nat) : Int)) ∧ T 70 = (V.bool (decide (((k : Nat) : Int) < ((o.tr.length : Nat) : Int)))) ∧ H 1 = (⟨1, true, false, 34, 2, [[(iV (o.i)), (V.sl (List.map cT (o.tr)))]]⟩ : Blk) ∧ (H 4).ver = v4 ∧ (H 8).ver = v8 ∧ True) ?_ ?_
 ·
  unfold r36_22
  refine R_lss (x := ((k : Nat) : Int)) (y := ((o.tr.length : Nat) : Int)) t69 t68 ?_
  exact R_nil ⟨t1, t67, t68, t69, rfl, h1, h4, h8, trivial⟩
 intro T H ⟨t1, t67, t68, t69, t70, h1, h4, h8, _⟩
 refine W_seq_if (p := ((k : Nat) : Int) < ((o.tr.length : Nat) : Int)) t70 (fun c16 => ?_) (fun c16 => ?_)
 ·
  have g1 : exB (preB o k) (k + 1) (o.tr.length - (k + 1)) = true ↔ _ := (fi_exB (p := fun u => hp u.ni (nth o.tr k).ni) (l := o.tr) (m := k + 1)).symm
  have g2 : exB (claB o k) (k + 1) (o.tr.length - (k + 1)) = true ↔ _ := (fi_exB (p := fun u => decide (0 ≤ df (nth o.tr k) u)) (l := o.tr) (m := k + 1)).symm
  refine W_seq_skip ?_
  refine W_seq_blockg fun Q17 n17 x17 y17 z17 => ?_
  refine W_seq_regc (fun T H => T 1 = (V.mp 1 1 0 0) ∧ T 7 = (iV ((k : Nat) : Int)) ∧ T 8 = (V.mp 8 (v8 + 1) 0 0) ∧ T 67 = (V.sl (List.map cT (o.tr))) ∧ T 68 = (iV ((o.tr.length : Nat) : Int)) ∧ T 69 = (iV ((k : Nat) : Int)) ∧ H 1 = (⟨1, true, false, 34, 2, [[(iV (o.i)), (V.sl (List.map cT (o.tr)))]]⟩ : Blk) ∧ (H 4).ver = v4 ∧ H 8 = (⟨v8 + 1, true, false, 63, 2, [[(V.sl (List.map cI ((nth (o.tr) (k)).ni))), (V.sl (List.map cI ((nth (o.tr) (k)).no)))]]⟩ : Blk) ∧ True) ?_ ?_
  ·
   unfold r36_23
   refine R_mv t69 ?_
   refine R_idx (i := k) t67 t69 (by omega) rfl ?_
   refine R_load_pp (v := (V.agg [(V.sl (List.map cI ((nth (o.tr) (k)).ni))), (V.sl (List.map cI ((nth (o.tr) (k)).no)))])) (@rfl V (V.pp [(V.sl (List.map cI ((nth (o.tr) (k)).ni))), (V.sl (List.map cI ((nth (o.tr) (k)).no)))])) (by first | rfl | simp [ldV]) ?_
   refine R_alloc (i := 8) (n := v8) (m := 2) rfl h8 rfl ?_
   refine R_mv (@rfl V (iV ((k : Nat) : Int))) ?_
   refine R_store (vs := [(V.sl (List.map cI ((nth (o.tr) (k)).ni))), (V.sl (List.map cI ((nth (o.tr) (k)).no)))]) (B' := (⟨v8 + 1, true, false, 63, 2, [[(V.sl (List.map cI ((nth (o.tr) (k)).ni))), (V.sl (List.map cI ((nth (o.tr) (k)).no)))]]⟩ : Blk)) (@rfl V (V.mp 8 (v8 + 1) 0 0)) (@rfl V (V.agg [(V.sl (List.map cI ((nth (o.tr) (k)).ni))), (V.sl (List.map cI ((nth (o.tr) (k)).no)))])) rfl (@rfl Blk (⟨v8 + 1, true, false, 63, 2, [[V.nilsl, V.nilsl]]⟩ : Blk)) (by first | rfl | simp [stB, okB, Blk.own, putAt, V.one]) ?_
   exact R_nil ⟨t1, rfl, rfl, t67, t68, t69, h1, h4, rfl, trivial⟩
  intro T H ⟨t1, t7, t8, t67, t68, t69, h1, h4, h8, _⟩
  refine W_seq_regc (fun T H => T 1 = (V.mp 1 1 0 0) ∧ T 8 = (V.mp 8 (v8 + 1) 0 0) ∧ T 9 = (V.sl (List.map cT (List.drop (k + 1) (o.tr)))) ∧ T 67 = (V.sl (List.map cT (o.tr))) ∧ T 68 = (iV ((o.tr.length : Nat) : Int)) ∧ T 69 = (iV ((k : Nat) : Int)) ∧ H 1 = (⟨1, true, false, 34, 2, [[(iV (o.i)), (V.sl (List.map cT (o.tr)))]]⟩ : Blk) ∧ (H 4).ver = v4 ∧ H 8 = (⟨v8 + 1, true, false, 63, 2, [[(V.sl (List.map cI ((nth (o.tr) (k)).ni))), (V.sl (List.map cI ((nth (o.tr) (k)).no)))]]⟩ : Blk) ∧ True) ?_ ?_
  ·
   unfold r36_24
   refine R_fld_mp (o' := 1) t1 h1 (by first | rfl | simp [okB, Blk.own]) rfl ?_
   refine R_load_mp (v := (V.sl (List.map cT (o.tr)))) (@rfl V (V.mp 1 1 0 1)) h1 (by first | rfl | simp [ldB, ldV, Blk.own, V.one]) ?_
   refine R_mv t7 ?_
   refine R_addN (m := k) (n := 1) (@rfl V (iV ((k : Nat) : Int))) (@rfl V (iV ((1 : Nat) : Int))) (by omega) ?_
   refine R_slice_lo (n := (k + 1)) (@rfl V (V.sl (List.map cT (o.tr)))) (@rfl V (iV ((k + 1 : Nat) : Int))) (by omega) (fun _ => rfl) ?_
   refine R_mv (@rfl V (V.sl (List.map cT (List.drop (k + 1) (o.tr))))) ?_
   exact R_nil ⟨t1, t8, rfl, t67, t68, t69, h1, h4, h8, trivial⟩
  intro T H ⟨t1, t8, t9, t67, t68, t69, h1, h4, h8, _⟩
  refine W_seq_seq ?_
  refine W_seq_regc (fun T H => T 1 = (V.mp 1 1 0 0) ∧ T 8 = (V.mp 8 (v8 + 1) 0 0) ∧ T 9 = (V.sl (List.map cT (List.drop (k + 1) (o.tr)))) ∧ T 67 = (V.sl (List.map cT (o.tr))) ∧ T 68 = (iV ((o.tr.length : Nat) : Int)) ∧ T 69 = (iV ((k : Nat) : Int)) ∧ T 81 = (V.bool (decide (0 ≤ fi (fun j => (fun u => hp u.ni (nth o.tr k).ni) (nth (List.drop (k + 1) (o.tr)) j)) 0 (List.drop (k + 1) (o.tr)).length))) ∧ H 1 = (⟨1, true, false, 34, 2, [[(iV (o.i)), (V.sl (List.map cT (o.tr)))]]⟩ : Blk) ∧ (H 4).ver = v4 ∧ H 8 = (⟨v8 + 1, true, false, 63, 2, [[(V.sl (List.map cI ((nth (o.tr) (k)).ni))), (V.sl (List.map cI ((nth (o.tr) (k)).no)))]]⟩ : Blk) ∧ True) ?_ ?_
  ·
   unfold r36_25
   refine R_mv t9 ?_
   refine R_mkf (evcons t8 evnil) ?_
   refine R_call (evcons (@rfl V (V.sl (List.map cT (List.drop (k + 1) (o.tr))))) (evcons (@rfl V (V.fn 82 [] [(V.mp 8 (v8 + 1) 0 0)])) evnil)) (cont_pure (fun u => hp u.ni (nth o.tr k).ni) (List.drop (k + 1) (o.tr)) 82 ([(V.pp [(V.sl (List.map cI ((nth (o.tr) (k)).ni))), (V.sl (List.map cI ((nth (o.tr) (k)).no)))])]) (by simp) (by simp) (fun j _ => valid1_pure (nth (List.drop (k + 1) o.tr) j) (nth o.tr k))) (mcons (fzv_canon 6 _ (by simp [-List.map_take, -List.map_drop, -List.map_append, -List.map_reverse])) (mcons (by simp [fzv, Blk.own, h1, h8]) rfl)) (by simp [-List.map_take, -List.map_drop, -List.map_append, -List.map_reverse]) (Or.inr rfl) ?_
   exact R_nil ⟨t1, t8, t9, t67, t68, t69, rfl, h1, h4, h8, trivial⟩
  intro T H ⟨t1, t8, t9, t67, t68, t69, t81, h1, h4, h8, _⟩
  refine W_seq_if (p := 0 ≤ fi (fun j => (fun u => hp u.ni (nth o.tr k).ni) (nth (List.drop (k + 1) (o.tr)) j)) 0 (List.drop (k + 1) (o.tr)).length) t81 (fun c18 => ?_) (fun c18 => ?_)
  ·
   have d1 := c18
   refine W_seq_seq ?_
   refine W_seq_regc (fun T H => T 2 = (iV (7 : Int)) ∧ H 1 = (⟨1, true, false, 34, 2, [[(iV (o.i)), (V.sl (List.map cT (o.tr)))]]⟩ : Blk) ∧ (H 4).ver = v4 ∧ H 8 = (⟨v8 + 1, true, false, 63, 2, [[(V.sl (List.map cI ((nth (o.tr) (k)).ni))), (V.sl (List.map cI ((nth (o.tr) (k)).no)))]]⟩ : Blk) ∧ True) ?_ ?_
   ·
    unfold r36_26
    refine R_mv (@rfl V (iV (7 : Int))) ?_
    exact R_nil ⟨rfl, h1, h4, h8, trivial⟩
   intro T H ⟨t2, h1, h4, h8, _⟩
   refine W_seq_ret ?_
   refine y17 _ _ ?_
   refine p215 _ _ ?_
   refine y14 _ _ ?_
   refine Ret_1 t2 (fz_int ?_)
   · rw [oval, if_neg (by omega), if_neg (by omega), if_neg (by omega), hd, fe_hit (by rw [apE, if_pos (g1.2 d1)]; decide) (by omega), apE, if_pos (g1.2 d1)]
  have d1 := c18
  refine W_seq_skip ?_
  refine W_seq_regc (fun T H => T 1 = (V.mp 1 1 0 0) ∧ T 67 = (V.sl (List.map cT (o.tr))) ∧ T 68 = (iV ((o.tr.length : Nat) : Int)) ∧ T 69 = (iV ((k : Nat) : Int)) ∧ T 84 = (V.bool (decide (0 ≤ fi (fun j => (fun u => decide (0 ≤ df (nth o.tr k) u)) (nth (List.drop (k + 1) (o.tr)) j)) 0 (List.drop (k + 1) (o.tr)).length))) ∧ H 1 = (⟨1, true, false, 34, 2, [[(iV (o.i)), (V.sl (List.map cT (o.tr)))]]⟩ : Blk) ∧ (H 4).ver = v4 ∧ H 8 = (⟨v8 + 1, true, false, 63, 2, [[(V.sl (List.map cI ((nth (o.tr) (k)).ni))), (V.sl (List.map cI ((nth (o.tr) (k)).no)))]]⟩ : Blk) ∧ True) ?_ ?_
  ·
   unfold r36_27
   refine R_mv t9 ?_
   refine R_mkf (evcons t8 evnil) ?_
   refine R_call (evcons (@rfl V (V.sl (List.map cT (List.drop (k + 1) (o.tr))))) (evcons (@rfl V (V.fn 83 [] [(V.mp 8 (v8 + 1) 0 0)])) evnil)) (cont_pure (fun u => decide (0 ≤ df (nth o.tr k) u)) (List.drop (k + 1) (o.tr)) 83 ([(V.pp [(V.sl (List.map cI ((nth (o.tr) (k)).ni))), (V.sl (List.map cI ((nth (o.tr) (k)).no)))])]) (by simp) (by simp) (fun j hj => valid2_pure (nth (List.drop (k + 1) o.tr) j) (nth o.tr k) (f1 _ (List.mem_of_mem_drop (nth_mem hj))) (f1 _ (nth_mem (by omega))))) (mcons (fzv_canon 6 _ (by simp [-List.map_take, -List.map_drop, -List.map_append, -List.map_reverse])) (mcons (by simp [fzv, Blk.own, h1, h8]) rfl)) (by simp [-List.map_take, -List.map_drop, -List.map_append, -List.map_reverse]) (Or.inr rfl) ?_
   exact R_nil ⟨t1, t67, t68, t69, rfl, h1, h4, h8, trivial⟩
  intro T H ⟨t1, t67, t68, t69, t84, h1, h4, h8, _⟩
  refine W_if (p := 0 ≤ fi (fun j => (fun u => decide (0 ≤ df (nth o.tr k) u)) (nth (List.drop (k + 1) (o.tr)) j)) 0 (List.drop (k + 1) (o.tr)).length) t84 (fun c19 => ?_) (fun c19 => ?_)
  ·
   have d2 := c19
   refine W_seq_regc (fun T H => T 2 = (iV (13 : Int)) ∧ H 1 = (⟨1, true, false, 34, 2, [[(iV (o.i)), (V.sl (List.map cT (o.tr)))]]⟩ : Blk) ∧ (H 4).ver = v4 ∧ H 8 = (⟨v8 + 1, true, false, 63, 2, [[(V.sl (List.map cI ((nth (o.tr) (k)).ni))), (V.sl (List.map cI ((nth (o.tr) (k)).no)))]]⟩ : Blk) ∧ True) ?_ ?_
   ·
    unfold r36_28
    refine R_mv (@rfl V (iV (13 : Int))) ?_
    exact R_nil ⟨rfl, h1, h4, h8, trivial⟩
   intro T H ⟨t2, h1, h4, h8, _⟩
   refine W_ret ?_
   refine y17 _ _ ?_
   refine p215 _ _ ?_
   refine y14 _ _ ?_
   refine Ret_1 t2 (fz_int ?_)
   · rw [oval, if_neg (by omega), if_neg (by omega), if_neg (by omega), hd, fe_hit (by rw [apE, if_neg (fun e => d1 (g1.1 e)), if_pos (g2.2 d2)]; decide) (by omega), apE, if_neg (fun e => d1 (g1.1 e)), if_pos (g2.2 d2)]
  have d2 := c19
  refine W_skip ?_
  refine n17 _ _ ?_
  refine .done ?_
  refine W_regc (fun T H => T 1 = (V.mp 1 1 0 0) ∧ T 67 = (V.sl (List.map cT (o.tr))) ∧ T 68 = (iV ((o.tr.length : Nat) : Int)) ∧ T 69 = (iV ((k + 1 : Nat) : Int)) ∧ H 1 = (⟨1, true, false, 34, 2, [[(iV (o.i)), (V.sl (List.map cT (o.tr)))]]⟩ : Blk) ∧ (H 4).ver = v4 ∧ H 8 = (⟨v8 + 1, true, false, 63, 2, [[(V.sl (List.map cI ((nth (o.tr) (k)).ni))), (V.sl (List.map cI ((nth (o.tr) (k)).no)))]]⟩ : Blk) ∧ True) ?_ ?_
  ·
   unfold r36_29
   refine R_addN (m := k) (n := 1) t69 (@rfl V (iV ((1 : Nat) : Int))) (by omega) ?_
   refine R_mv (@rfl V (iV ((k + 1 : Nat) : Int))) ?_
   exact R_nil ⟨t1, t67, t68, rfl, h1, h4, h8, trivial⟩
  intro T H ⟨t1, t67, t68, t69, h1, h4, h8, _⟩
  refine p115 _ _ _ ?_ ⟨(k + 1), (v8 + 1), rfl, t1, t67, t68, (Eq.trans t69 (by first | rfl | simp)), h1, h4, (congrArg Blk.ver h8), ?_, ?_⟩
  · omega
  · omega
  · rw [hd, fe_skip (by rw [apE, if_neg (fun e => d1 (g1.1 e)), if_neg (fun e => d2 (g2.1 e))]) (by omega)]
 refine W_seq_exit ?_
 refine p315 _ _ _ ?_
 refine x14 _ _ ?_
 refine .done ?_
 refine W_seq_regc (fun T H => T 2 = (iV (0 : Int)) ∧ H 1 = (⟨1, true, false, 34, 2, [[(iV (o.i)), (V.sl (List.map cT (o.tr)))]]⟩ : Blk) ∧ (H 4).ver = v4 ∧ (H 8).ver = v8 ∧ True) ?_ ?_
 ·
  unfold r36_30
  refine R_mv (@rfl V (iV (0 : Int))) ?_
  exact R_nil ⟨rfl, h1, h4, h8, trivial⟩
 intro T H ⟨t2, h1, h4, h8, _⟩
 refine W_ret ?_
 refine Ret_1 t2 (fz_int ?_)
 · rw [oval, if_neg (by omega), if_neg (by omega), if_neg (by omega), hd, fe_end (by omega)]

end Go.Proofs.Ytngkckefanbhgaa

namespace Go.Proofs.Ytngkckefanbhgaa
open Go Go.Proofs

def r25_0 : List SO := [
  ⟨none, some 4, .mv (.c (.bool false))⟩]
def r25_1 : List SO := [
  ⟨none, some 6, .mv (.t 0)⟩,
  ⟨none, some 7, .len (.t 6)⟩,
  ⟨none, some 8, .mv (.t 1)⟩,
  ⟨none, some 9, .len (.t 8)⟩,
  ⟨none, some 10, .bin .neq (.t 7) (.t 9)⟩]
def r25_2 : List SO := [
  ⟨none, some 4, .mv (.c (.bool false))⟩]
def r25_3 : List SO := [
  ⟨none, some 5, .mv (.c (.int .i64 0))⟩]
def r25_4 : List SO := [
  ⟨none, some 11, .mv (.t 5)⟩,
  ⟨none, some 12, .mv (.t 0)⟩,
  ⟨none, some 13, .len (.t 12)⟩,
  ⟨none, some 14, .bin .lss (.t 11) (.t 13)⟩]
def r25_6 : List SO := [
  ⟨none, some 17, .mv (.t 0)⟩,
  ⟨none, some 18, .mv (.t 5)⟩,
  ⟨none, some 19, .idx 1 (.t 17) (.t 18)⟩,
  ⟨none, some 20, .load false 1 (.t 19)⟩,
  ⟨none, some 21, .mv (.t 1)⟩,
  ⟨none, some 22, .mv (.t 5)⟩,
  ⟨none, some 23, .idx 1 (.t 21) (.t 22)⟩,
  ⟨none, some 24, .load false 1 (.t 23)⟩,
  ⟨none, some 25, .bin .neq (.t 20) (.t 24)⟩]
def r25_7 : List SO := [
  ⟨none, some 4, .mv (.c (.bool false))⟩]
def r25_5 : List SO := [
  ⟨none, some 15, .mv (.t 5)⟩,
  ⟨none, some 16, .bin .add (.t 15) (.c (.int .i64 1))⟩,
  ⟨none, some 5, .mv (.t 16)⟩]
def b25_0 : SC := .seq (.seq (.reg r25_4) (.cond (.t 14) (.skip) (.exit 0))) (.seq (.block 1 (.seq (.reg r25_6) (.cond (.t 25) (.seq (.reg r25_7) (.ret)) (.skip)))) (.reg r25_5))
def r25_8 : List SO := [
  ⟨none, some 4, .mv (.c (.bool true))⟩]
def s25 : SF := ⟨26, [.tmp 4], .seq (.reg r25_0) (.seq (.seq (.reg r25_1) (.cond (.t 10) (.seq (.reg r25_2) (.ret)) (.skip))) (.seq (.seq (.reg r25_3) (.block 0 (.loop b25_0))) (.seq (.reg r25_8) (.ret))))⟩
theorem s25_ok : slimF Try.prog ⟨[94, 102, 103, 108, 109, 116, 119, 121, 125], []⟩ Try.f25 = some s25 := by kernel_rfl

end Go.Proofs.Ytngkckefanbhgaa

namespace Go.Proofs.Ytngkckefanbhgaa
open Go Go.Proofs

def r34_0 : List SO := [
  ⟨none, some 2, .box 34 2 (.t 0)⟩,
  ⟨none, some 3, .box 35 1 (.t 1)⟩,
  ⟨none, some 4, .mv (.c (.nilsl))⟩,
  ⟨none, some 5, .mv (.c (.bool false))⟩]
def r34_1 : List SO := [
  ⟨none, some 8, .load false 1 (.t 3)⟩,
  ⟨none, some 9, .len (.t 8)⟩,
  ⟨none, some 10, .bin .eql (.t 9) (.c (.int .i64 0))⟩]
def r34_2 : List SO := [
  ⟨none, some 4, .mv (.c (.nilsl))⟩,
  ⟨none, some 5, .mv (.c (.bool true))⟩]
def r34_3 : List SO := [
  ⟨none, some 11, .fld 1 (.t 2)⟩,
  ⟨none, some 12, .load false 1 (.t 11)⟩,
  ⟨none, some 13, .mkf 75 [.t 3]⟩,
  ⟨none, some 14, .call false 74 [.t 12, .t 13]⟩,
  ⟨none, some 6, .mv (.t 14)⟩]
def r34_4 : List SO := [
  ⟨none, some 15, .mv (.t 6)⟩,
  ⟨none, some 16, .bin .lss (.t 15) (.c (.int .i64 0))⟩]
def r34_5 : List SO := [
  ⟨none, some 4, .mv (.c (.nilsl))⟩,
  ⟨none, some 5, .mv (.c (.bool false))⟩]
def r34_6 : List SO := [
  ⟨none, some 17, .fld 1 (.t 2)⟩,
  ⟨none, some 18, .load false 1 (.t 17)⟩,
  ⟨none, some 19, .mv (.t 6)⟩,
  ⟨none, some 20, .idx 2 (.t 18) (.t 19)⟩,
  ⟨none, some 21, .fld 1 (.t 20)⟩,
  ⟨none, some 22, .load false 1 (.t 21)⟩,
  ⟨none, some 7, .mv (.t 22)⟩]
def r34_7 : List SO := [
  ⟨none, some 23, .mv (.t 7)⟩,
  ⟨none, some 24, .load false 1 (.t 3)⟩,
  ⟨none, some 25, .len (.t 24)⟩,
  ⟨none, some 26, .mv (.t 7)⟩,
  ⟨none, some 27, .len (.t 26)⟩,
  ⟨none, some 28, .mn (.t 25) (.t 27)⟩,
  ⟨none, some 29, .slice 1 (.t 23) none (some (.t 28))⟩,
  ⟨none, some 30, .call false 63 [.t 29]⟩,
  ⟨none, some 4, .mv (.t 30)⟩,
  ⟨none, some 5, .mv (.c (.bool true))⟩]
def s34 : SF := ⟨31, [.tmp 4, .tmp 5], .seq (.reg r34_0) (.seq (.seq (.reg r34_1) (.cond (.t 10) (.seq (.reg r34_2) (.ret)) (.skip))) (.seq (.reg r34_3) (.seq (.seq (.reg r34_4) (.cond (.t 16) (.seq (.reg r34_5) (.ret)) (.skip))) (.seq (.reg r34_6) (.seq (.reg r34_7) (.ret))))))⟩
theorem s34_ok : slimF Try.prog ⟨[94, 102, 103, 108, 109, 116, 119, 121, 125], []⟩ Try.f34 = some s34 := by kernel_rfl

end Go.Proofs.Ytngkckefanbhgaa

namespace Go.Proofs.Ytngkckefanbhgaa
open Go Go.Proofs

def r39_0 : List SO := [
  ⟨none, some 0, .mv (.c (.bool false))⟩]
def r39_1 : List SO := [
  ⟨none, some 13, .call false 50 [.c (.int .i64 2)]⟩,
  ⟨none, some 12, .mv (.t 13)⟩,
  ⟨none, some 14, .ext (.t 12) 0⟩,
  ⟨none, some 15, .ext (.t 12) 1⟩,
  ⟨none, some 1, .alloc 34 [.int .i64 0, .nilsl]⟩,
  ⟨none, none, .store 2 (.t 1) (.t 14)⟩,
  ⟨none, some 2, .mv (.t 15)⟩]
def r39_2 : List SO := [
  ⟨none, some 17, .load true 2 (.t 1)⟩,
  ⟨none, some 18, .bslice 3 1 false [.int .i64 0] 2 [(0, .c (.int .i64 0)), (1, .c (.int .i64 1))]⟩,
  ⟨none, some 19, .bslice 3 1 false [.int .i64 0] 2 [(0, .c (.int .i64 1)), (1, .c (.int .i64 2))]⟩,
  ⟨none, some 20, .build [.nilsl, .nilsl] [(0, 1, .t 18), (1, 1, .t 19)]⟩,
  ⟨none, some 21, .call false 45 [.t 17, .t 20]⟩,
  ⟨none, some 16, .mv (.t 21)⟩,
  ⟨none, some 22, .ext (.t 16) 0⟩,
  ⟨none, some 23, .ext (.t 16) 1⟩,
  ⟨none, none, .store 2 (.t 1) (.t 22)⟩,
  ⟨none, some 3, .mv (.t 23)⟩]
def r39_3 : List SO := [
  ⟨none, some 25, .load true 2 (.t 1)⟩,
  ⟨none, some 26, .bslice 3 1 false [.int .i64 0] 1 [(0, .c (.int .i64 0))]⟩,
  ⟨none, some 27, .bslice 3 1 false [.int .i64 0] 1 [(0, .c (.int .i64 1))]⟩,
  ⟨none, some 28, .build [.nilsl, .nilsl] [(0, 1, .t 26), (1, 1, .t 27)]⟩,
  ⟨none, some 29, .call false 45 [.t 25, .t 28]⟩,
  ⟨none, some 24, .mv (.t 29)⟩,
  ⟨none, some 30, .ext (.t 24) 0⟩,
  ⟨none, some 31, .ext (.t 24) 1⟩,
  ⟨none, none, .store 2 (.t 1) (.t 30)⟩,
  ⟨none, some 4, .mv (.t 31)⟩]
def r39_4 : List SO := [
  ⟨none, some 33, .load true 2 (.t 1)⟩,
  ⟨none, some 34, .bslice 3 1 false [.int .i64 0] 2 [(0, .c (.int .i64 0)), (1, .c (.int .i64 1))]⟩,
  ⟨none, some 35, .bslice 3 1 false [.int .i64 0] 2 [(0, .c (.int .i64 1)), (1, .c (.int .i64 0))]⟩,
  ⟨none, some 36, .build [.nilsl, .nilsl] [(0, 1, .t 34), (1, 1, .t 35)]⟩,
  ⟨none, some 37, .call false 45 [.t 33, .t 36]⟩,
  ⟨none, some 32, .mv (.t 37)⟩,
  ⟨none, some 38, .ext (.t 32) 0⟩,
  ⟨none, some 39, .ext (.t 32) 1⟩,
  ⟨none, some 5, .alloc 34 [.int .i64 0, .nilsl]⟩,
  ⟨none, none, .store 2 (.t 5) (.t 38)⟩,
  ⟨none, some 6, .mv (.t 39)⟩]
def r39_5 : List SO := [
  ⟨none, some 41, .load true 2 (.t 1)⟩,
  ⟨none, some 42, .bslice 3 1 false [.int .i64 0] 2 [(0, .c (.int .i64 0)), (1, .c (.int .i64 1))]⟩,
  ⟨none, some 43, .bslice 3 1 false [.int .i64 0] 2 [(0, .c (.int .i64 1)), (1, .c (.int .i64 0))]⟩,
  ⟨none, some 44, .build [.nilsl, .nilsl] [(0, 1, .t 42), (1, 1, .t 43)]⟩,
  ⟨none, some 45, .call false 41 [.t 41, .t 44]⟩,
  ⟨none, some 40, .mv (.t 45)⟩,
  ⟨none, some 46, .ext (.t 40) 0⟩,
  ⟨none, some 47, .ext (.t 40) 1⟩,
  ⟨none, some 7, .alloc 67 [.nilsl, .int .i64 0, .int .i64 0]⟩,
  ⟨none, none, .store 3 (.t 7) (.t 46)⟩,
  ⟨none, some 8, .mv (.t 47)⟩]
def r39_6 : List SO := [
  ⟨none, some 48, .load true 2 (.t 1)⟩,
  ⟨none, some 49, .bslice 3 1 false [.int .i64 0] 2 [(0, .c (.int .i64 0)), (1, .c (.int .i64 0))]⟩,
  ⟨none, some 50, .call false 43 [.t 48, .t 49]⟩,
  ⟨none, some 9, .mv (.t 50)⟩]
def r39_7 : List SO := [
  ⟨none, some 51, .mv (.t 2)⟩,
  ⟨none, some 52, .bin .neq (.t 51) (.c (.int .i64 0))⟩,
  ⟨none, some 53, .mv (.t 52)⟩,
  ⟨some (53, false), some 54, .mv (.t 3)⟩,
  ⟨some (53, false), some 55, .bin .neq (.t 54) (.c (.int .i64 0))⟩,
  ⟨none, some 56, .pick (.t 53) (.c (.bool true)) (.t 55)⟩,
  ⟨none, some 57, .mv (.t 56)⟩,
  ⟨some (57, false), some 58, .mv (.t 4)⟩,
  ⟨some (57, false), some 59, .bin .neq (.t 58) (.c (.int .i64 0))⟩,
  ⟨none, some 60, .pick (.t 57) (.c (.bool true)) (.t 59)⟩,
  ⟨none, some 61, .mv (.t 60)⟩,
  ⟨some (61, false), some 62, .mv (.t 6)⟩,
  ⟨some (61, false), some 63, .bin .neq (.t 62) (.c (.int .i64 13))⟩,
  ⟨none, some 64, .pick (.t 61) (.c (.bool true)) (.t 63)⟩,
  ⟨none, some 65, .mv (.t 64)⟩,
  ⟨some (65, false), some 66, .mv (.t 8)⟩,
  ⟨some (65, false), some 67, .un .not (.t 66)⟩,
  ⟨none, some 68, .pick (.t 65) (.c (.bool true)) (.t 67)⟩,
  ⟨none, some 69, .mv (.t 68)⟩,
  ⟨some (69, false), some 70, .fld 1 (.t 7)⟩,
  ⟨some (69, false), some 71, .load false 1 (.t 70)⟩,
  ⟨some (69, false), some 72, .bin .neq (.t 71) (.c (.int .i64 2))⟩,
  ⟨none, some 73, .pick (.t 69) (.c (.bool true)) (.t 72)⟩,
  ⟨none, some 74, .mv (.t 73)⟩,
  ⟨some (74, false), some 75, .fld 2 (.t 7)⟩,
  ⟨some (74, false), some 76, .load false 1 (.t 75)⟩,
  ⟨some (74, false), some 77, .bin .neq (.t 76) (.c (.int .i64 0))⟩,
  ⟨none, some 78, .pick (.t 74) (.c (.bool true)) (.t 77)⟩,
  ⟨none, some 79, .mv (.t 78)⟩,
  ⟨some (79, false), some 80, .fld 0 (.t 7)⟩,
  ⟨some (79, false), some 81, .load false 1 (.t 80)⟩,
  ⟨some (79, false), some 82, .len (.t 81)⟩,
  ⟨some (79, false), some 83, .bin .neq (.t 82) (.c (.int .i64 2))⟩,
  ⟨none, some 84, .pick (.t 79) (.c (.bool true)) (.t 83)⟩,
  ⟨none, some 85, .mv (.t 84)⟩,
  ⟨some (85, false), some 86, .fld 1 (.t 1)⟩,
  ⟨some (85, false), some 87, .load false 1 (.t 86)⟩,
  ⟨some (85, false), some 88, .len (.t 87)⟩,
  ⟨some (85, false), some 89, .bin .neq (.t 88) (.c (.int .i64 1))⟩,
  ⟨none, some 90, .pick (.t 85) (.c (.bool true)) (.t 89)⟩,
  ⟨none, some 91, .mv (.t 90)⟩,
  ⟨some (91, false), some 92, .mv (.t 9)⟩,
  ⟨some (91, false), some 93, .bin .neq (.t 92) (.c (.int .i64 1))⟩,
  ⟨none, some 94, .pick (.t 91) (.c (.bool true)) (.t 93)⟩]
def r39_8 : List SO := [
  ⟨none, some 0, .mv (.c (.bool false))⟩]
def r39_9 : List SO := [
  ⟨none, some 96, .load true 2 (.t 1)⟩,
  ⟨none, some 97, .bslice 3 1 false [.int .i64 0] 1 [(0, .c (.int .i64 1))]⟩,
  ⟨none, some 98, .bslice 3 1 false [.int .i64 0] 1 [(0, .c (.int .i64 0))]⟩,
  ⟨none, some 99, .build [.nilsl, .nilsl] [(0, 1, .t 97), (1, 1, .t 98)]⟩,
  ⟨none, some 100, .call false 45 [.t 96, .t 99]⟩,
  ⟨none, some 95, .mv (.t 100)⟩,
  ⟨none, some 101, .ext (.t 95) 0⟩,
  ⟨none, some 102, .ext (.t 95) 1⟩,
  ⟨none, none, .store 2 (.t 1) (.t 101)⟩,
  ⟨none, some 3, .mv (.t 102)⟩]
def r39_10 : List SO := [
  ⟨none, some 104, .load true 2 (.t 1)⟩,
  ⟨none, some 105, .bslice 3 1 false [.int .i64 0] 2 [(0, .c (.int .i64 0)), (1, .c (.int .i64 1))]⟩,
  ⟨none, some 106, .call false 34 [.t 104, .t 105]⟩,
  ⟨none, some 103, .mv (.t 106)⟩,
  ⟨none, some 107, .ext (.t 103) 0⟩,
  ⟨none, some 108, .ext (.t 103) 1⟩,
  ⟨none, some 10, .mv (.t 107)⟩,
  ⟨none, some 11, .mv (.t 108)⟩]
def r39_11 : List SO := [
  ⟨none, some 109, .mv (.t 3)⟩,
  ⟨none, some 110, .bin .eql (.t 109) (.c (.int .i64 0))⟩,
  ⟨none, some 111, .mv (.t 110)⟩,
  ⟨some (111, true), some 112, .fld 1 (.t 1)⟩,
  ⟨some (111, true), some 113, .load false 1 (.t 112)⟩,
  ⟨some (111, true), some 114, .len (.t 113)⟩,
  ⟨some (111, true), some 115, .bin .eql (.t 114) (.c (.int .i64 2))⟩,
  ⟨none, some 116, .pick (.t 111) (.t 115) (.c (.bool false))⟩,
  ⟨none, some 117, .mv (.t 116)⟩,
  ⟨some (117, true), some 118, .fld 1 (.t 1)⟩,
  ⟨some (117, true), some 119, .load false 1 (.t 118)⟩,
  ⟨some (117, true), some 120, .idx 2 (.t 119) (.c (.int .i64 0))⟩,
  ⟨some (117, true), some 121, .fld 0 (.t 120)⟩,
  ⟨some (117, true), some 122, .load false 1 (.t 121)⟩,
  ⟨some (117, true), some 123, .len (.t 122)⟩,
  ⟨some (117, true), some 124, .bin .eql (.t 123) (.c (.int .i64 1))⟩,
  ⟨none, some 125, .pick (.t 117) (.t 124) (.c (.bool false))⟩,
  ⟨none, some 126, .mv (.t 125)⟩,
  ⟨some (126, true), some 127, .mv (.t 11)⟩,
  ⟨none, some 128, .pick (.t 126) (.t 127) (.c (.bool false))⟩,
  ⟨none, some 129, .mv (.t 128)⟩,
  ⟨some (129, true), some 130, .mv (.t 10)⟩,
  ⟨some (129, true), some 131, .bslice 3 1 false [.int .i64 0] 2 [(0, .c (.int .i64 1)), (1, .c (.int .i64 2))]⟩,
  ⟨some (129, true), some 132, .call false 25 [.t 130, .t 131]⟩,
  ⟨none, some 133, .pick (.t 129) (.t 132) (.c (.bool false))⟩,
  ⟨none, some 134, .mv (.t 133)⟩,
  ⟨some (134, true), some 135, .load true 2 (.t 1)⟩,
  ⟨some (134, true), some 136, .call false 36 [.t 135]⟩,
  ⟨some (134, true), some 137, .bin .eql (.t 136) (.c (.int .i64 0))⟩,
  ⟨none, some 138, .pick (.t 134) (.t 137) (.c (.bool false))⟩,
  ⟨none, some 0, .mv (.t 138)⟩]
def s39 : SF := ⟨139, [.tmp 0], .seq (.reg r39_0) (.seq (.reg r39_1) (.seq (.reg r39_2) (.seq (.reg r39_3) (.seq (.reg r39_4) (.seq (.reg r39_5) (.seq (.reg r39_6) (.seq (.seq (.reg r39_7) (.cond (.t 94) (.seq (.reg r39_8) (.ret)) (.skip))) (.seq (.reg r39_9) (.seq (.reg r39_10) (.seq (.reg r39_11) (.ret)))))))))))⟩
theorem s39_ok : slimF Try.prog ⟨[94, 102, 103, 108, 109, 116, 119, 121, 125], []⟩ Try.f39 = some s39 := by kernel_rfl

end Go.Proofs.Ytngkckefanbhgaa

namespace Go.Proofs.Ytngkckefanbhgaa
open Go Go.Proofs

def r41_0 : List SO := [
  ⟨none, some 2, .box 34 2 (.t 0)⟩,
  ⟨none, some 3, .box 63 2 (.t 1)⟩,
  ⟨none, some 4, .alloc 67 [.nilsl, .int .i64 0, .int .i64 0]⟩,
  ⟨none, some 5, .mv (.c (.bool false))⟩]
def r41_1 : List SO := [
  ⟨none, some 11, .load true 2 (.t 3)⟩,
  ⟨none, some 12, .fld 0 (.t 2)⟩,
  ⟨none, some 13, .load false 1 (.t 12)⟩,
  ⟨none, some 14, .call false 78 [.t 11, .t 13]⟩,
  ⟨none, some 15, .bin .neq (.t 14) (.c (.int .i64 0))⟩]
def r41_2 : List SO := [
  ⟨none, some 16, .build [.nilsl, .int .i64 0, .int .i64 0] []⟩,
  ⟨none, none, .store 3 (.t 4) (.t 16)⟩,
  ⟨none, some 5, .mv (.c (.bool false))⟩]
def r41_3 : List SO := [
  ⟨none, some 17, .fld 0 (.t 3)⟩,
  ⟨none, some 18, .load false 1 (.t 17)⟩,
  ⟨none, some 19, .len (.t 18)⟩,
  ⟨none, some 6, .mv (.t 19)⟩,
  ⟨none, some 7, .mv (.c (.int .i64 0))⟩]
def r41_4 : List SO := [
  ⟨none, some 20, .fld 1 (.t 2)⟩,
  ⟨none, some 21, .load false 1 (.t 20)⟩,
  ⟨none, some 22, .len (.t 21)⟩,
  ⟨none, some 23, .mv (.c (.int .i64 0))⟩]
def r41_5 : List SO := [
  ⟨none, some 24, .bin .lss (.t 23) (.t 22)⟩]
def r41_6 : List SO := [
  ⟨none, some 25, .idx 2 (.t 21) (.t 23)⟩,
  ⟨none, some 26, .load true 2 (.t 25)⟩,
  ⟨none, some 9, .alloc 63 [.nilsl, .nilsl]⟩,
  ⟨none, none, .store 2 (.t 9) (.t 26)⟩]
def r41_7 : List SO := [
  ⟨none, some 27, .load true 2 (.t 9)⟩,
  ⟨none, some 28, .load true 2 (.t 3)⟩,
  ⟨none, some 29, .call false 84 [.t 27, .t 28]⟩,
  ⟨none, some 10, .mv (.t 29)⟩]
def r41_8 : List SO := [
  ⟨none, some 30, .mv (.t 10)⟩,
  ⟨none, some 31, .bin .geq (.t 30) (.c (.int .i64 0))⟩,
  ⟨none, some 32, .mv (.t 31)⟩,
  ⟨some (32, true), some 33, .mv (.t 10)⟩,
  ⟨some (32, true), some 34, .mv (.t 6)⟩,
  ⟨some (32, true), some 35, .bin .lss (.t 33) (.t 34)⟩,
  ⟨none, some 36, .pick (.t 32) (.t 35) (.c (.bool false))⟩]
def r41_9 : List SO := [
  ⟨none, some 37, .mv (.t 10)⟩,
  ⟨none, some 38, .fld 1 (.t 9)⟩,
  ⟨none, some 39, .load false 1 (.t 38)⟩,
  ⟨none, some 40, .mv (.t 10)⟩,
  ⟨none, some 41, .idx 1 (.t 39) (.t 40)⟩,
  ⟨none, some 42, .load false 1 (.t 41)⟩,
  ⟨none, some 6, .mv (.t 37)⟩,
  ⟨none, some 7, .mv (.t 42)⟩]
def r41_10 : List SO := [
  ⟨none, some 43, .bin .add (.t 23) (.c (.int .i64 1))⟩,
  ⟨none, some 23, .mv (.t 43)⟩]
def b41_0 : SC := .seq (.reg r41_5) (.seq (.cond (.t 24) (.skip) (.exit 0)) (.seq (.block 1 (.seq (.reg r41_6) (.seq (.reg r41_7) (.seq (.reg r41_8) (.cond (.t 36) (.reg r41_9) (.skip)))))) (.reg r41_10)))
def r41_11 : List SO := [
  ⟨none, some 44, .mv (.t 6)⟩,
  ⟨none, some 45, .fld 0 (.t 3)⟩,
  ⟨none, some 46, .load false 1 (.t 45)⟩,
  ⟨none, some 47, .len (.t 46)⟩,
  ⟨none, some 48, .bin .eql (.t 44) (.t 47)⟩]
def r41_12 : List SO := [
  ⟨none, some 49, .build [.nilsl, .int .i64 0, .int .i64 0] []⟩,
  ⟨none, none, .store 3 (.t 4) (.t 49)⟩,
  ⟨none, some 5, .mv (.c (.bool false))⟩]
def r41_13 : List SO := [
  ⟨none, some 50, .fld 0 (.t 3)⟩,
  ⟨none, some 51, .load false 1 (.t 50)⟩,
  ⟨none, some 52, .mv (.t 6)⟩,
  ⟨none, some 53, .bin .add (.t 52) (.c (.int .i64 1))⟩,
  ⟨none, some 54, .slice 1 (.t 51) none (some (.t 53))⟩,
  ⟨none, some 55, .call false 63 [.t 54]⟩,
  ⟨none, some 56, .mv (.t 7)⟩,
  ⟨none, some 57, .fld 1 (.t 3)⟩,
  ⟨none, some 58, .load false 1 (.t 57)⟩,
  ⟨none, some 59, .mv (.t 6)⟩,
  ⟨none, some 60, .idx 1 (.t 58) (.t 59)⟩,
  ⟨none, some 61, .load false 1 (.t 60)⟩,
  ⟨none, some 62, .build [.nilsl, .int .i64 0, .int .i64 0] [(0, 1, .t 55), (1, 1, .t 56), (2, 1, .t 61)]⟩,
  ⟨none, none, .store 3 (.t 4) (.t 62)⟩,
  ⟨none, some 5, .mv (.c (.bool true))⟩]
def s41 : SF := ⟨63, [.cell 4 true 3, .tmp 5], .seq (.reg r41_0) (.seq (.seq (.reg r41_1) (.cond (.t 15) (.seq (.reg r41_2) (.ret)) (.skip))) (.seq (.reg r41_3) (.seq (.seq (.reg r41_4) (.block 0 (.loop b41_0))) (.seq (.seq (.reg r41_11) (.cond (.t 48) (.seq (.reg r41_12) (.ret)) (.skip))) (.seq (.reg r41_13) (.ret))))))⟩
theorem s41_ok : slimF Try.prog ⟨[94, 102, 103, 108, 109, 116, 119, 121, 125], []⟩ Try.f41 = some s41 := by kernel_rfl

end Go.Proofs.Ytngkckefanbhgaa

namespace Go.Proofs.Ytngkckefanbhgaa
open Go Go.Proofs

def r43_0 : List SO := [
  ⟨none, some 2, .box 34 2 (.t 0)⟩,
  ⟨none, some 4, .mv (.c (.int .i64 0))⟩]
def r43_1 : List SO := [
  ⟨none, some 5, .mv (.c (.int .i64 0))⟩]
def r43_2 : List SO := [
  ⟨none, some 8, .fld 1 (.t 2)⟩,
  ⟨none, some 9, .load false 1 (.t 8)⟩,
  ⟨none, some 10, .len (.t 9)⟩,
  ⟨none, some 11, .mv (.c (.int .i64 0))⟩]
def r43_3 : List SO := [
  ⟨none, some 12, .bin .lss (.t 11) (.t 10)⟩]
def r43_4 : List SO := [
  ⟨none, some 13, .idx 2 (.t 9) (.t 11)⟩,
  ⟨none, some 14, .load true 2 (.t 13)⟩,
  ⟨none, some 7, .alloc 63 [.nilsl, .nilsl]⟩,
  ⟨none, none, .store 2 (.t 7) (.t 14)⟩]
def r43_5 : List SO := [
  ⟨none, some 15, .mv (.t 5)⟩,
  ⟨none, some 16, .fld 0 (.t 7)⟩,
  ⟨none, some 17, .load false 1 (.t 16)⟩,
  ⟨none, some 18, .mv (.t 1)⟩,
  ⟨none, some 19, .call false 69 [.t 17, .t 18]⟩,
  ⟨none, some 20, .mx (.t 15) (.t 19)⟩,
  ⟨none, some 5, .mv (.t 20)⟩]
def r43_6 : List SO := [
  ⟨none, some 21, .bin .add (.t 11) (.c (.int .i64 1))⟩,
  ⟨none, some 11, .mv (.t 21)⟩]
def b43_0 : SC := .seq (.reg r43_3) (.seq (.cond (.t 12) (.skip) (.exit 0)) (.seq (.block 1 (.seq (.reg r43_4) (.reg r43_5))) (.reg r43_6)))
def r43_7 : List SO := [
  ⟨none, some 22, .mv (.t 5)⟩,
  ⟨none, some 4, .mv (.t 22)⟩]
def s43 : SF := ⟨23, [.tmp 4], .seq (.reg r43_0) (.seq (.reg r43_1) (.seq (.seq (.reg r43_2) (.block 0 (.loop b43_0))) (.seq (.reg r43_7) (.ret))))⟩
theorem s43_ok : slimF Try.prog ⟨[94, 102, 103, 108, 109, 116, 119, 121, 125], []⟩ Try.f43 = some s43 := by kernel_rfl

end Go.Proofs.Ytngkckefanbhgaa

namespace Go.Proofs.Ytngkckefanbhgaa
open Go Go.Proofs

def r45_0 : List SO := [
  ⟨none, some 2, .box 34 2 (.t 0)⟩,
  ⟨none, some 3, .box 63 2 (.t 1)⟩,
  ⟨none, some 4, .alloc 34 [.int .i64 0, .nilsl]⟩,
  ⟨none, some 5, .mv (.c (.int .i64 0))⟩]
def r45_1 : List SO := [
  ⟨none, some 6, .load true 2 (.t 2)⟩,
  ⟨none, some 7, .load true 2 (.t 3)⟩,
  ⟨none, some 8, .bslice 63 2 false [.nilsl, .nilsl] 1 [(0, .t 7)]⟩,
  ⟨none, some 9, .call false 73 [.t 6, .t 8]⟩,
  ⟨none, some 10, .ext (.t 9) 0⟩,
  ⟨none, some 11, .ext (.t 9) 1⟩,
  ⟨none, none, .store 2 (.t 4) (.t 10)⟩,
  ⟨none, some 5, .mv (.t 11)⟩]
def s45 : SF := ⟨12, [.cell 4 true 2, .tmp 5], .seq (.reg r45_0) (.seq (.reg r45_1) (.ret))⟩
theorem s45_ok : slimF Try.prog ⟨[94, 102, 103, 108, 109, 116, 119, 121, 125], []⟩ Try.f45 = some s45 := by kernel_rfl

end Go.Proofs.Ytngkckefanbhgaa

namespace Go.Proofs.Ytngkckefanbhgaa
open Go Go.Proofs

def r50_0 : List SO := [
  ⟨none, some 2, .alloc 34 [.int .i64 0, .nilsl]⟩,
  ⟨none, some 3, .mv (.c (.int .i64 0))⟩]
def r50_1 : List SO := [
  ⟨none, some 4, .mv (.t 0)⟩,
  ⟨none, some 5, .bin .lss (.t 4) (.c (.int .i64 1))⟩,
  ⟨none, some 6, .mv (.t 5)⟩,
  ⟨some (6, false), some 7, .mv (.t 0)⟩,
  ⟨some (6, false), some 8, .bin .gtr (.t 7) (.c (.int .i64 64))⟩,
  ⟨none, some 9, .pick (.t 6) (.c (.bool true)) (.t 8)⟩]
def r50_2 : List SO := [
  ⟨none, some 10, .build [.int .i64 0, .nilsl] []⟩,
  ⟨none, none, .store 2 (.t 2) (.t 10)⟩,
  ⟨none, some 3, .mv (.c (.int .i64 2))⟩]
def r50_3 : List SO := [
  ⟨none, some 11, .mv (.t 0)⟩,
  ⟨none, some 12, .build [.int .i64 0, .nilsl] [(0, 1, .t 11)]⟩,
  ⟨none, none, .store 2 (.t 2) (.t 12)⟩,
  ⟨none, some 3, .mv (.c (.int .i64 0))⟩]
def s50 : SF := ⟨13, [.cell 2 true 2, .tmp 3], .seq (.reg r50_0) (.seq (.seq (.reg r50_1) (.cond (.t 9) (.seq (.reg r50_2) (.ret)) (.skip))) (.seq (.reg r50_3) (.ret)))⟩
theorem s50_ok : slimF Try.prog ⟨[94, 102, 103, 108, 109, 116, 119, 121, 125], []⟩ Try.f50 = some s50 := by kernel_rfl

end Go.Proofs.Ytngkckefanbhgaa

namespace Go.Proofs.Ytngkckefanbhgaa
open Go Go.Proofs

def r63_0 : List SO := [
  ⟨none, some 2, .mv (.c (.nilsl))⟩]
def r63_1 : List SO := [
  ⟨none, some 3, .mv (.t 0)⟩,
  ⟨none, some 4, .isnil false (.t 3)⟩]
def r63_2 : List SO := [
  ⟨none, some 2, .mv (.c (.nilsl))⟩]
def r63_3 : List SO := [
  ⟨none, some 5, .bslice 3 1 true [.int .i64 0] 0 []⟩,
  ⟨none, some 6, .mv (.t 0)⟩,
  ⟨none, some 7, .append 3 1 8 (.t 5) (.t 6)⟩,
  ⟨none, some 2, .mv (.t 7)⟩]
def s63 : SF := ⟨8, [.tmp 2], .seq (.reg r63_0) (.seq (.seq (.reg r63_1) (.cond (.t 4) (.seq (.reg r63_2) (.ret)) (.skip))) (.seq (.reg r63_3) (.ret)))⟩
theorem s63_ok : slimF Try.prog ⟨[94, 102, 103, 108, 109, 116, 119, 121, 125], [5]⟩ Try.f63 = some s63 := by kernel_rfl

end Go.Proofs.Ytngkckefanbhgaa

namespace Go.Proofs.Ytngkckefanbhgaa
open Go Go.Proofs

def r73_0 : List SO := [
  ⟨none, some 2, .box 34 2 (.t 0)⟩,
  ⟨none, some 4, .alloc 34 [.int .i64 0, .nilsl]⟩,
  ⟨none, some 5, .mv (.c (.int .i64 0))⟩]
def r73_1 : List SO := [
  ⟨none, some 12, .fld 1 (.t 2)⟩,
  ⟨none, some 13, .load false 1 (.t 12)⟩,
  ⟨none, some 14, .call true 102 [.t 13]⟩,
  ⟨none, some 6, .mv (.t 14)⟩]
def r73_2 : List SO := [
  ⟨none, some 15, .mv (.t 1)⟩,
  ⟨none, some 16, .len (.t 15)⟩,
  ⟨none, some 17, .mv (.c (.int .i64 0))⟩]
def r73_3 : List SO := [
  ⟨none, some 18, .bin .lss (.t 17) (.t 16)⟩]
def r73_4 : List SO := [
  ⟨none, some 19, .idx 2 (.t 15) (.t 17)⟩,
  ⟨none, some 20, .load true 2 (.t 19)⟩,
  ⟨none, some 8, .alloc 63 [.nilsl, .nilsl]⟩,
  ⟨none, none, .store 2 (.t 8) (.t 20)⟩]
def r73_5 : List SO := [
  ⟨none, some 21, .load true 2 (.t 8)⟩,
  ⟨none, some 22, .fld 0 (.t 2)⟩,
  ⟨none, some 23, .load false 1 (.t 22)⟩,
  ⟨none, some 24, .call false 78 [.t 21, .t 23]⟩,
  ⟨none, some 9, .mv (.t 24)⟩]
def r73_6 : List SO := [
  ⟨none, some 25, .mv (.t 9)⟩,
  ⟨none, some 26, .bin .neq (.t 25) (.c (.int .i64 0))⟩]
def r73_7 : List SO := [
  ⟨none, some 27, .load true 2 (.t 2)⟩,
  ⟨none, some 28, .mv (.t 9)⟩,
  ⟨none, none, .store 2 (.t 4) (.t 27)⟩,
  ⟨none, some 5, .mv (.t 28)⟩]
def r73_8 : List SO := [
  ⟨none, some 30, .mv (.t 6)⟩,
  ⟨none, some 31, .load true 2 (.t 8)⟩,
  ⟨none, some 32, .call true 103 [.t 30, .t 31]⟩,
  ⟨none, some 29, .mv (.t 32)⟩,
  ⟨none, some 33, .ext (.t 29) 0⟩,
  ⟨none, some 34, .ext (.t 29) 1⟩,
  ⟨none, some 10, .mv (.t 33)⟩,
  ⟨none, some 11, .mv (.t 34)⟩]
def r73_9 : List SO := [
  ⟨none, some 35, .mv (.t 11)⟩,
  ⟨none, some 36, .bin .neq (.t 35) (.c (.int .i64 0))⟩]
def r73_10 : List SO := [
  ⟨none, some 37, .load true 2 (.t 2)⟩,
  ⟨none, some 38, .mv (.t 11)⟩,
  ⟨none, none, .store 2 (.t 4) (.t 37)⟩,
  ⟨none, some 5, .mv (.t 38)⟩]
def r73_11 : List SO := [
  ⟨none, some 39, .mv (.t 10)⟩,
  ⟨none, some 6, .mv (.t 39)⟩]
def r73_12 : List SO := [
  ⟨none, some 40, .bin .add (.t 17) (.c (.int .i64 1))⟩,
  ⟨none, some 17, .mv (.t 40)⟩]
def b73_0 : SC := .seq (.reg r73_3) (.seq (.cond (.t 18) (.skip) (.exit 0)) (.seq (.block 1 (.seq (.reg r73_4) (.seq (.seq (.reg r73_5) (.seq (.reg r73_6) (.cond (.t 26) (.seq (.reg r73_7) (.ret)) (.skip)))) (.seq (.reg r73_8) (.seq (.seq (.reg r73_9) (.cond (.t 36) (.seq (.reg r73_10) (.ret)) (.skip))) (.reg r73_11)))))) (.reg r73_12)))
def r73_13 : List SO := [
  ⟨none, some 41, .fld 0 (.t 2)⟩,
  ⟨none, some 42, .load false 1 (.t 41)⟩,
  ⟨none, some 43, .mv (.t 6)⟩,
  ⟨none, some 44, .build [.int .i64 0, .nilsl] [(0, 1, .t 42), (1, 1, .t 43)]⟩,
  ⟨none, none, .store 2 (.t 4) (.t 44)⟩,
  ⟨none, some 5, .mv (.c (.int .i64 0))⟩]
def s73 : SF := ⟨45, [.cell 4 true 2, .tmp 5], .seq (.reg r73_0) (.seq (.reg r73_1) (.seq (.seq (.reg r73_2) (.block 0 (.loop b73_0))) (.seq (.reg r73_13) (.ret))))⟩
theorem s73_ok : slimF Try.prog ⟨[94, 102, 103, 108, 109, 116, 119, 121, 125], []⟩ Try.f73 = some s73 := by kernel_rfl

end Go.Proofs.Ytngkckefanbhgaa

namespace Go.Proofs.Ytngkckefanbhgaa
open Go Go.Proofs

def r75_0 : List SO := [
  ⟨none, some 2, .box 63 2 (.t 0)⟩,
  ⟨none, some 3, .mv (.c (.bool false))⟩]
def r75_1 : List SO := [
  ⟨none, some 4, .fld 0 (.t 2)⟩,
  ⟨none, some 5, .load false 1 (.t 4)⟩,
  ⟨none, some 6, .load false 1 (.t 1)⟩,
  ⟨none, some 7, .call false 76 [.t 5, .t 6]⟩,
  ⟨none, some 3, .mv (.t 7)⟩]
def s75 : SF := ⟨8, [.tmp 3], .seq (.reg r75_0) (.seq (.reg r75_1) (.ret))⟩
theorem s75_ok : slimF Try.prog ⟨[94, 102, 103, 108, 109, 116, 119, 121, 125], []⟩ Try.f75 = some s75 := by kernel_rfl

end Go.Proofs.Ytngkckefanbhgaa

namespace Go.Proofs.Ytngkckefanbhgaa
open Go Go.Proofs

def r102_0 : List SO := [
  ⟨none, some 2, .mv (.c (.nilsl))⟩]
def r102_1 : List SO := [
  ⟨none, some 6, .mv (.t 0)⟩,
  ⟨none, some 7, .len (.t 6)⟩,
  ⟨none, some 8, .bin .add (.t 7) (.c (.int .i64 1))⟩,
  ⟨none, some 9, .mks 63 2 48 [.nilsl, .nilsl] (.c (.int .i64 0)) (.t 8)⟩,
  ⟨none, some 3, .mv (.t 9)⟩]
def r102_2 : List SO := [
  ⟨none, some 10, .mv (.t 0)⟩,
  ⟨none, some 11, .len (.t 10)⟩,
  ⟨none, some 12, .mv (.c (.int .i64 0))⟩]
def r102_3 : List SO := [
  ⟨none, some 13, .bin .lss (.t 12) (.t 11)⟩]
def r102_4 : List SO := [
  ⟨none, some 14, .idx 2 (.t 10) (.t 12)⟩,
  ⟨none, some 15, .load true 2 (.t 14)⟩,
  ⟨none, some 5, .alloc 63 [.nilsl, .nilsl]⟩,
  ⟨none, none, .store 2 (.t 5) (.t 15)⟩]
def r102_5 : List SO := [
  ⟨none, some 16, .mv (.t 3)⟩,
  ⟨none, some 17, .load true 2 (.t 5)⟩,
  ⟨none, some 18, .call false 115 [.t 17]⟩,
  ⟨none, some 19, .bslice 63 2 false [.nilsl, .nilsl] 1 [(0, .t 18)]⟩,
  ⟨none, some 20, .append 63 2 48 (.t 16) (.t 19)⟩,
  ⟨none, some 3, .mv (.t 20)⟩]
def r102_6 : List SO := [
  ⟨none, some 21, .bin .add (.t 12) (.c (.int .i64 1))⟩,
  ⟨none, some 12, .mv (.t 21)⟩]
def b102_0 : SC := .seq (.reg r102_3) (.seq (.cond (.t 13) (.skip) (.exit 0)) (.seq (.block 1 (.seq (.reg r102_4) (.reg r102_5))) (.reg r102_6)))
def r102_7 : List SO := [
  ⟨none, some 22, .mv (.t 3)⟩,
  ⟨none, some 2, .mv (.t 22)⟩]
def s102 : SF := ⟨23, [.tmp 2], .seq (.reg r102_0) (.seq (.reg r102_1) (.seq (.seq (.reg r102_2) (.block 0 (.loop b102_0))) (.seq (.reg r102_7) (.ret))))⟩
theorem s102_ok : slimF Try.prog ⟨[94, 102, 103, 108, 109, 116, 119, 121, 125], []⟩ Try.f102 = some s102 := by kernel_rfl

end Go.Proofs.Ytngkckefanbhgaa

namespace Go.Proofs.Ytngkckefanbhgaa
open Go Go.Proofs

def r103_0 : List SO := [
  ⟨none, some 3, .box 63 2 (.t 1)⟩,
  ⟨none, some 4, .mv (.c (.nilsl))⟩,
  ⟨none, some 5, .mv (.c (.int .i64 0))⟩]
def r103_1 : List SO := [
  ⟨none, some 6, .mv (.c (.bool false))⟩]
def r103_2 : List SO := [
  ⟨none, some 11, .mv (.t 0)⟩,
  ⟨none, some 12, .len (.t 11)⟩,
  ⟨none, some 13, .mv (.c (.int .i64 0))⟩]
def r103_3 : List SO := [
  ⟨none, some 14, .bin .lss (.t 13) (.t 12)⟩]
def r103_4 : List SO := [
  ⟨none, some 15, .idx 2 (.t 11) (.t 13)⟩,
  ⟨none, some 16, .load true 2 (.t 15)⟩,
  ⟨none, some 8, .alloc 63 [.nilsl, .nilsl]⟩,
  ⟨none, none, .store 2 (.t 8) (.t 16)⟩]
def r103_5 : List SO := [
  ⟨none, some 17, .load true 2 (.t 8)⟩,
  ⟨none, some 18, .load true 2 (.t 3)⟩,
  ⟨none, some 19, .call false 84 [.t 17, .t 18]⟩,
  ⟨none, some 20, .bin .geq (.t 19) (.c (.int .i64 0))⟩]
def r103_6 : List SO := [
  ⟨none, some 4, .mv (.c (.nilsl))⟩,
  ⟨none, some 5, .mv (.c (.int .i64 13))⟩]
def r103_7 : List SO := [
  ⟨none, some 21, .mv (.t 6)⟩,
  ⟨none, some 22, .mv (.t 21)⟩,
  ⟨some (22, false), some 23, .fld 0 (.t 8)⟩,
  ⟨some (22, false), some 24, .load false 1 (.t 23)⟩,
  ⟨some (22, false), some 25, .fld 0 (.t 3)⟩,
  ⟨some (22, false), some 26, .load false 1 (.t 25)⟩,
  ⟨some (22, false), some 27, .call false 76 [.t 24, .t 26]⟩,
  ⟨none, some 28, .pick (.t 22) (.c (.bool true)) (.t 27)⟩,
  ⟨none, some 6, .mv (.t 28)⟩]
def r103_8 : List SO := [
  ⟨none, some 29, .bin .add (.t 13) (.c (.int .i64 1))⟩,
  ⟨none, some 13, .mv (.t 29)⟩]
def b103_0 : SC := .seq (.reg r103_3) (.seq (.cond (.t 14) (.skip) (.exit 0)) (.seq (.block 1 (.seq (.reg r103_4) (.seq (.seq (.reg r103_5) (.cond (.t 20) (.seq (.reg r103_6) (.ret)) (.skip))) (.reg r103_7)))) (.reg r103_8)))
def r103_9 : List SO := [
  ⟨none, some 30, .mv (.t 6)⟩,
  ⟨none, some 31, .mv (.t 30)⟩,
  ⟨some (31, false), some 32, .fld 0 (.t 3)⟩,
  ⟨some (31, false), some 33, .load false 1 (.t 32)⟩,
  ⟨some (31, false), some 34, .len (.t 33)⟩,
  ⟨some (31, false), some 35, .bin .eql (.t 34) (.c (.int .i64 0))⟩,
  ⟨none, some 36, .pick (.t 31) (.c (.bool true)) (.t 35)⟩]
def r103_10 : List SO := [
  ⟨none, some 37, .mv (.t 0)⟩,
  ⟨none, some 4, .mv (.t 37)⟩,
  ⟨none, some 5, .mv (.c (.int .i64 0))⟩]
def r103_11 : List SO := [
  ⟨none, some 38, .mv (.t 0)⟩,
  ⟨none, some 39, .mkf 117 [.t 3]⟩,
  ⟨none, some 40, .call true 116 [.t 38, .t 39]⟩,
  ⟨none, some 0, .mv (.t 40)⟩]
def r103_12 : List SO := [
  ⟨none, some 41, .mv (.t 0)⟩,
  ⟨none, some 42, .len (.t 41)⟩,
  ⟨none, some 43, .bin .eql (.t 42) (.c (.int .i64 10000))⟩]
def r103_13 : List SO := [
  ⟨none, some 4, .mv (.c (.nilsl))⟩,
  ⟨none, some 5, .mv (.c (.int .i64 11))⟩]
def r103_14 : List SO := [
  ⟨none, some 45, .mv (.t 0)⟩,
  ⟨none, some 46, .load true 2 (.t 3)⟩,
  ⟨none, some 47, .call false 118 [.t 45, .t 46, .c (.fn 79 [] [])]⟩,
  ⟨none, some 44, .mv (.t 47)⟩,
  ⟨none, some 48, .ext (.t 44) 0⟩,
  ⟨none, some 49, .ext (.t 44) 1⟩,
  ⟨none, some 9, .mv (.t 48)⟩,
  ⟨none, some 10, .mv (.t 49)⟩]
def r103_15 : List SO := [
  ⟨none, some 50, .mv (.t 0)⟩,
  ⟨none, some 51, .mv (.t 9)⟩,
  ⟨none, some 52, .load true 2 (.t 3)⟩,
  ⟨none, some 53, .call false 115 [.t 52]⟩,
  ⟨none, some 54, .bslice 63 2 true [.nilsl, .nilsl] 1 [(0, .t 53)]⟩,
  ⟨none, some 55, .call true 119 [.t 50, .t 51, .t 54]⟩,
  ⟨none, some 4, .mv (.t 55)⟩,
  ⟨none, some 5, .mv (.c (.int .i64 0))⟩]
def s103 : SF := ⟨56, [.tmp 4, .tmp 5], .seq (.reg r103_0) (.seq (.reg r103_1) (.seq (.seq (.reg r103_2) (.block 0 (.loop b103_0))) (.seq (.seq (.reg r103_9) (.cond (.t 36) (.seq (.reg r103_10) (.ret)) (.skip))) (.seq (.reg r103_11) (.seq (.seq (.reg r103_12) (.cond (.t 43) (.seq (.reg r103_13) (.ret)) (.skip))) (.seq (.reg r103_14) (.seq (.reg r103_15) (.ret))))))))⟩
theorem s103_ok : slimF Try.prog ⟨[94, 102, 103, 108, 109, 116, 119, 121, 125], [54]⟩ Try.f103 = some s103 := by kernel_rfl

end Go.Proofs.Ytngkckefanbhgaa

namespace Go.Proofs.Ytngkckefanbhgaa
open Go Go.Proofs

def r109_0 : List SO := [
  ⟨none, some 5, .mv (.t 0)⟩,
  ⟨none, some 6, .len (.t 5)⟩,
  ⟨none, some 4, .mv (.t 6)⟩]
def r109_1 : List SO := [
  ⟨none, some 7, .mv (.t 0)⟩,
  ⟨none, some 8, .mv (.t 4)⟩,
  ⟨none, some 9, .mv (.t 4)⟩,
  ⟨none, some 10, .conv .u64 (.t 9)⟩,
  ⟨none, some 11, .call false 122 [.t 10]⟩,
  ⟨none, some 12, .mv (.t 1)⟩,
  ⟨none, some 13, .call true 121 [.t 7, .c (.int .i64 0), .t 8, .t 11, .t 12]⟩]
def s109 : SF := ⟨14, [], .seq (.reg r109_0) (.reg r109_1)⟩
theorem s109_ok : slimF Try.prog ⟨[94, 102, 103, 108, 109, 116, 119, 121, 125], []⟩ Try.f109 = some s109 := by kernel_rfl

end Go.Proofs.Ytngkckefanbhgaa

namespace Go.Proofs.Ytngkckefanbhgaa
open Go Go.Proofs

def r115_0 : List SO := [
  ⟨none, some 1, .box 63 2 (.t 0)⟩,
  ⟨none, some 2, .alloc 63 [.nilsl, .nilsl]⟩]
def r115_1 : List SO := [
  ⟨none, some 3, .fld 0 (.t 1)⟩,
  ⟨none, some 4, .load false 1 (.t 3)⟩,
  ⟨none, some 5, .call false 63 [.t 4]⟩,
  ⟨none, some 6, .fld 1 (.t 1)⟩,
  ⟨none, some 7, .load false 1 (.t 6)⟩,
  ⟨none, some 8, .call false 63 [.t 7]⟩,
  ⟨none, some 9, .build [.nilsl, .nilsl] [(0, 1, .t 5), (1, 1, .t 8)]⟩,
  ⟨none, none, .store 2 (.t 2) (.t 9)⟩]
def s115 : SF := ⟨10, [.cell 2 true 2], .seq (.reg r115_0) (.seq (.reg r115_1) (.ret))⟩
theorem s115_ok : slimF Try.prog ⟨[94, 102, 103, 108, 109, 116, 119, 121, 125], []⟩ Try.f115 = some s115 := by kernel_rfl

end Go.Proofs.Ytngkckefanbhgaa

namespace Go.Proofs.Ytngkckefanbhgaa
open Go Go.Proofs

def r116_0 : List SO := [
  ⟨none, some 4, .mv (.c (.nilsl))⟩]
def r116_1 : List SO := [
  ⟨none, some 8, .mv (.t 0)⟩,
  ⟨none, some 9, .mv (.t 1)⟩,
  ⟨none, some 10, .call false 74 [.t 8, .t 9]⟩,
  ⟨none, some 5, .mv (.t 10)⟩]
def r116_2 : List SO := [
  ⟨none, some 11, .mv (.t 5)⟩,
  ⟨none, some 12, .bin .eql (.t 11) (.c (.int .i64 (-1)))⟩]
def r116_3 : List SO := [
  ⟨none, some 13, .mv (.t 0)⟩,
  ⟨none, some 4, .mv (.t 13)⟩]
def r116_4 : List SO := [
  ⟨none, some 14, .mv (.t 5)⟩,
  ⟨none, some 15, .bin .add (.t 14) (.c (.int .i64 1))⟩,
  ⟨none, some 6, .mv (.t 15)⟩]
def r116_5 : List SO := [
  ⟨none, some 16, .mv (.t 6)⟩,
  ⟨none, some 17, .mv (.t 0)⟩,
  ⟨none, some 18, .len (.t 17)⟩,
  ⟨none, some 19, .bin .lss (.t 16) (.t 18)⟩]
def r116_7 : List SO := [
  ⟨none, some 22, .mv (.t 0)⟩,
  ⟨none, some 23, .mv (.t 6)⟩,
  ⟨none, some 24, .idx 2 (.t 22) (.t 23)⟩,
  ⟨none, some 25, .load true 2 (.t 24)⟩,
  ⟨none, some 7, .alloc 63 [.nilsl, .nilsl]⟩,
  ⟨none, none, .store 2 (.t 7) (.t 25)⟩]
def r116_8 : List SO := [
  ⟨none, some 26, .mv (.t 1)⟩,
  ⟨none, some 27, .load true 2 (.t 7)⟩,
  ⟨none, some 28, .callv false (.t 26) [.t 27]⟩,
  ⟨none, some 29, .un .not (.t 28)⟩]
def r116_9 : List SO := [
  ⟨none, some 30, .mv (.t 0)⟩,
  ⟨none, some 31, .mv (.t 5)⟩,
  ⟨none, some 32, .load true 2 (.t 7)⟩,
  ⟨none, some 33, .idx 2 (.t 30) (.t 31)⟩,
  ⟨none, none, .store 2 (.t 33) (.t 32)⟩]
def r116_10 : List SO := [
  ⟨none, some 34, .mv (.t 5)⟩,
  ⟨none, some 35, .bin .add (.t 34) (.c (.int .i64 1))⟩,
  ⟨none, some 5, .mv (.t 35)⟩]
def r116_6 : List SO := [
  ⟨none, some 20, .mv (.t 6)⟩,
  ⟨none, some 21, .bin .add (.t 20) (.c (.int .i64 1))⟩,
  ⟨none, some 6, .mv (.t 21)⟩]
def b116_0 : SC := .seq (.seq (.reg r116_5) (.cond (.t 19) (.skip) (.exit 0))) (.seq (.block 1 (.seq (.reg r116_7) (.seq (.reg r116_8) (.cond (.t 29) (.seq (.reg r116_9) (.reg r116_10)) (.skip))))) (.reg r116_6))
def r116_11 : List SO := [
  ⟨none, some 36, .mv (.t 0)⟩,
  ⟨none, some 37, .mv (.t 5)⟩,
  ⟨none, some 38, .slice 2 (.t 36) (some (.t 37)) none⟩,
  ⟨none, none, .clr [.nilsl, .nilsl] (.t 38)⟩]
def r116_12 : List SO := [
  ⟨none, some 39, .mv (.t 0)⟩,
  ⟨none, some 40, .mv (.t 5)⟩,
  ⟨none, some 41, .slice 2 (.t 39) none (some (.t 40))⟩,
  ⟨none, some 4, .mv (.t 41)⟩]
def s116 : SF := ⟨42, [.tmp 4], .seq (.reg r116_0) (.seq (.reg r116_1) (.seq (.seq (.reg r116_2) (.cond (.t 12) (.seq (.reg r116_3) (.ret)) (.skip))) (.seq (.seq (.reg r116_4) (.block 0 (.loop b116_0))) (.seq (.reg r116_11) (.seq (.reg r116_12) (.ret))))))⟩
theorem s116_ok : slimF Try.prog ⟨[94, 102, 103, 108, 109, 116, 119, 121, 125], []⟩ Try.f116 = some s116 := by kernel_rfl

end Go.Proofs.Ytngkckefanbhgaa

namespace Go.Proofs.Ytngkckefanbhgaa
open Go Go.Proofs

def r117_0 : List SO := [
  ⟨none, some 2, .box 63 2 (.t 0)⟩,
  ⟨none, some 3, .mv (.c (.bool false))⟩]
def r117_1 : List SO := [
  ⟨none, some 4, .fld 0 (.t 1)⟩,
  ⟨none, some 5, .load false 1 (.t 4)⟩,
  ⟨none, some 6, .fld 0 (.t 2)⟩,
  ⟨none, some 7, .load false 1 (.t 6)⟩,
  ⟨none, some 8, .call false 76 [.t 5, .t 7]⟩,
  ⟨none, some 3, .mv (.t 8)⟩]
def s117 : SF := ⟨9, [.tmp 3], .seq (.reg r117_0) (.seq (.reg r117_1) (.ret))⟩
theorem s117_ok : slimF Try.prog ⟨[94, 102, 103, 108, 109, 116, 119, 121, 125], []⟩ Try.f117 = some s117 := by kernel_rfl

end Go.Proofs.Ytngkckefanbhgaa

namespace Go.Proofs.Ytngkckefanbhgaa
open Go Go.Proofs

def r118_0 : List SO := [
  ⟨none, some 4, .box 63 2 (.t 1)⟩,
  ⟨none, some 6, .mv (.c (.int .i64 0))⟩,
  ⟨none, some 7, .mv (.c (.bool false))⟩]
def r118_1 : List SO := [
  ⟨none, some 12, .mv (.t 0)⟩,
  ⟨none, some 13, .len (.t 12)⟩,
  ⟨none, some 8, .mv (.t 13)⟩]
def r118_2 : List SO := [
  ⟨none, some 14, .mv (.t 8)⟩,
  ⟨none, some 9, .mv (.c (.int .i64 0))⟩,
  ⟨none, some 10, .mv (.t 14)⟩]
def r118_3 : List SO := [
  ⟨none, some 15, .mv (.t 9)⟩,
  ⟨none, some 16, .mv (.t 10)⟩,
  ⟨none, some 17, .bin .lss (.t 15) (.t 16)⟩]
def r118_4 : List SO := [
  ⟨none, some 18, .mv (.t 9)⟩,
  ⟨none, some 19, .mv (.t 10)⟩,
  ⟨none, some 20, .bin .add (.t 18) (.t 19)⟩,
  ⟨none, some 21, .conv .u64 (.t 20)⟩,
  ⟨none, some 22, .bin .shr (.t 21) (.c (.int .u64 1))⟩,
  ⟨none, some 23, .conv .i64 (.t 22)⟩,
  ⟨none, some 11, .mv (.t 23)⟩]
def r118_5 : List SO := [
  ⟨none, some 24, .mv (.t 2)⟩,
  ⟨none, some 25, .mv (.t 0)⟩,
  ⟨none, some 26, .mv (.t 11)⟩,
  ⟨none, some 27, .idx 2 (.t 25) (.t 26)⟩,
  ⟨none, some 28, .load true 2 (.t 27)⟩,
  ⟨none, some 29, .load true 2 (.t 4)⟩,
  ⟨none, some 30, .callv false (.t 24) [.t 28, .t 29]⟩,
  ⟨none, some 31, .bin .lss (.t 30) (.c (.int .i64 0))⟩]
def r118_6 : List SO := [
  ⟨none, some 32, .mv (.t 11)⟩,
  ⟨none, some 33, .bin .add (.t 32) (.c (.int .i64 1))⟩,
  ⟨none, some 9, .mv (.t 33)⟩]
def r118_7 : List SO := [
  ⟨none, some 34, .mv (.t 11)⟩,
  ⟨none, some 10, .mv (.t 34)⟩]
def b118_0 : SC := .seq (.seq (.reg r118_3) (.cond (.t 17) (.skip) (.exit 0))) (.block 1 (.seq (.reg r118_4) (.seq (.reg r118_5) (.cond (.t 31) (.reg r118_6) (.reg r118_7)))))
def r118_8 : List SO := [
  ⟨none, some 35, .mv (.t 9)⟩,
  ⟨none, some 36, .mv (.t 9)⟩,
  ⟨none, some 37, .mv (.t 8)⟩,
  ⟨none, some 38, .bin .lss (.t 36) (.t 37)⟩,
  ⟨none, some 39, .mv (.t 38)⟩,
  ⟨some (39, true), some 40, .mv (.t 2)⟩,
  ⟨some (39, true), some 41, .mv (.t 0)⟩,
  ⟨some (39, true), some 42, .mv (.t 9)⟩,
  ⟨some (39, true), some 43, .idx 2 (.t 41) (.t 42)⟩,
  ⟨some (39, true), some 44, .load true 2 (.t 43)⟩,
  ⟨some (39, true), some 45, .load true 2 (.t 4)⟩,
  ⟨some (39, true), some 46, .callv false (.t 40) [.t 44, .t 45]⟩,
  ⟨some (39, true), some 47, .bin .eql (.t 46) (.c (.int .i64 0))⟩,
  ⟨none, some 48, .pick (.t 39) (.t 47) (.c (.bool false))⟩,
  ⟨none, some 6, .mv (.t 35)⟩,
  ⟨none, some 7, .mv (.t 48)⟩]
def s118 : SF := ⟨49, [.tmp 6, .tmp 7], .seq (.reg r118_0) (.seq (.reg r118_1) (.seq (.reg r118_2) (.seq (.block 0 (.loop b118_0)) (.seq (.reg r118_8) (.ret)))))⟩
theorem s118_ok : slimF Try.prog ⟨[94, 102, 103, 108, 109, 116, 119, 121, 125], []⟩ Try.f118 = some s118 := by kernel_rfl

end Go.Proofs.Ytngkckefanbhgaa

namespace Go.Proofs.Ytngkckefanbhgaa
open Go Go.Proofs

def r121_0 : List SO := [
  ⟨none, some 10, .mv (.c (.bool true))⟩]
def r121_1 : List SO := [
  ⟨none, some 11, .mv (.c (.bool true))⟩]
def r121_2 : List SO := [
  ⟨none, some 21, .mv (.t 2)⟩,
  ⟨none, some 22, .mv (.t 1)⟩,
  ⟨none, some 23, .bin .sub (.t 21) (.t 22)⟩,
  ⟨none, some 12, .mv (.t 23)⟩]
def r121_3 : List SO := [
  ⟨none, some 24, .mv (.t 12)⟩,
  ⟨none, some 25, .bin .leq (.t 24) (.c (.int .i64 12))⟩]
def r121_4 : List SO := [
  ⟨none, some 26, .mv (.t 0)⟩,
  ⟨none, some 27, .mv (.t 1)⟩,
  ⟨none, some 28, .mv (.t 2)⟩,
  ⟨none, some 29, .mv (.t 4)⟩,
  ⟨none, some 30, .call true 125 [.t 26, .t 27, .t 28, .t 29]⟩]
def r121_5 : List SO := [
  ⟨none, some 31, .mv (.t 3)⟩,
  ⟨none, some 32, .bin .eql (.t 31) (.c (.int .i64 0))⟩]
def r121_6 : List SO := [
  ⟨none, some 33, .mv (.t 0)⟩,
  ⟨none, some 34, .mv (.t 1)⟩,
  ⟨none, some 35, .mv (.t 2)⟩,
  ⟨none, some 36, .mv (.t 4)⟩,
  ⟨none, some 37, .call false 126 [.t 33, .t 34, .t 35, .t 36]⟩]
def r121_7 : List SO := [
  ⟨none, some 38, .mv (.t 10)⟩,
  ⟨none, some 39, .un .not (.t 38)⟩]
def r121_8 : List SO := [
  ⟨none, some 40, .mv (.t 0)⟩,
  ⟨none, some 41, .mv (.t 1)⟩,
  ⟨none, some 42, .mv (.t 2)⟩,
  ⟨none, some 43, .mv (.t 4)⟩,
  ⟨none, some 44, .call false 127 [.t 40, .t 41, .t 42, .t 43]⟩]
def r121_9 : List SO := [
  ⟨none, some 45, .mv (.t 3)⟩,
  ⟨none, some 46, .bin .sub (.t 45) (.c (.int .i64 1))⟩,
  ⟨none, some 3, .mv (.t 46)⟩]
def r121_10 : List SO := [
  ⟨none, some 48, .mv (.t 0)⟩,
  ⟨none, some 49, .mv (.t 1)⟩,
  ⟨none, some 50, .mv (.t 2)⟩,
  ⟨none, some 51, .mv (.t 4)⟩,
  ⟨none, some 52, .call false 128 [.t 48, .t 49, .t 50, .t 51]⟩,
  ⟨none, some 47, .mv (.t 52)⟩,
  ⟨none, some 53, .ext (.t 47) 0⟩,
  ⟨none, some 54, .ext (.t 47) 1⟩,
  ⟨none, some 13, .mv (.t 53)⟩,
  ⟨none, some 14, .mv (.t 54)⟩]
def r121_11 : List SO := [
  ⟨none, some 55, .mv (.t 14)⟩,
  ⟨none, some 56, .bin .eql (.t 55) (.c (.int .i64 2))⟩]
def r121_12 : List SO := [
  ⟨none, some 57, .mv (.t 0)⟩,
  ⟨none, some 58, .mv (.t 1)⟩,
  ⟨none, some 59, .mv (.t 2)⟩,
  ⟨none, some 60, .mv (.t 4)⟩,
  ⟨none, some 61, .call false 129 [.t 57, .t 58, .t 59, .t 60]⟩]
def r121_13 : List SO := [
  ⟨none, some 62, .mv (.t 2)⟩,
  ⟨none, some 63, .bin .sub (.t 62) (.c (.int .i64 1))⟩,
  ⟨none, some 64, .mv (.t 13)⟩,
  ⟨none, some 65, .mv (.t 1)⟩,
  ⟨none, some 66, .bin .sub (.t 64) (.t 65)⟩,
  ⟨none, some 67, .bin .sub (.t 63) (.t 66)⟩,
  ⟨none, some 13, .mv (.t 67)⟩]
def r121_14 : List SO := [
  ⟨none, some 14, .mv (.c (.int .i64 1))⟩]
def r121_15 : List SO := [
  ⟨none, some 68, .mv (.t 10)⟩,
  ⟨none, some 69, .mv (.t 68)⟩,
  ⟨some (69, true), some 70, .mv (.t 11)⟩,
  ⟨none, some 71, .pick (.t 69) (.t 70) (.c (.bool false))⟩,
  ⟨none, some 72, .mv (.t 71)⟩,
  ⟨some (72, true), some 73, .mv (.t 14)⟩,
  ⟨some (72, true), some 74, .bin .eql (.t 73) (.c (.int .i64 1))⟩,
  ⟨none, some 75, .pick (.t 72) (.t 74) (.c (.bool false))⟩]
def r121_16 : List SO := [
  ⟨none, some 76, .mv (.t 0)⟩,
  ⟨none, some 77, .mv (.t 1)⟩,
  ⟨none, some 78, .mv (.t 2)⟩,
  ⟨none, some 79, .mv (.t 4)⟩,
  ⟨none, some 80, .call false 130 [.t 76, .t 77, .t 78, .t 79]⟩]
def r121_17 : List SO := [
  ⟨none, some 81, .mv (.t 1)⟩,
  ⟨none, some 82, .bin .gtr (.t 81) (.c (.int .i64 0))⟩,
  ⟨none, some 83, .mv (.t 82)⟩,
  ⟨some (83, true), some 84, .mv (.t 4)⟩,
  ⟨some (83, true), some 85, .mv (.t 0)⟩,
  ⟨some (83, true), some 86, .mv (.t 1)⟩,
  ⟨some (83, true), some 87, .bin .sub (.t 86) (.c (.int .i64 1))⟩,
  ⟨some (83, true), some 88, .idx 2 (.t 85) (.t 87)⟩,
  ⟨some (83, true), some 89, .load true 2 (.t 88)⟩,
  ⟨some (83, true), some 90, .mv (.t 0)⟩,
  ⟨some (83, true), some 91, .mv (.t 13)⟩,
  ⟨some (83, true), some 92, .idx 2 (.t 90) (.t 91)⟩,
  ⟨some (83, true), some 93, .load true 2 (.t 92)⟩,
  ⟨some (83, true), some 94, .callv false (.t 84) [.t 89, .t 93]⟩,
  ⟨some (83, true), some 95, .bin .lss (.t 94) (.c (.int .i64 0))⟩,
  ⟨some (83, true), some 96, .un .not (.t 95)⟩,
  ⟨none, some 97, .pick (.t 83) (.t 96) (.c (.bool false))⟩]
def r121_18 : List SO := [
  ⟨none, some 98, .mv (.t 0)⟩,
  ⟨none, some 99, .mv (.t 1)⟩,
  ⟨none, some 100, .mv (.t 2)⟩,
  ⟨none, some 101, .mv (.t 13)⟩,
  ⟨none, some 102, .mv (.t 4)⟩,
  ⟨none, some 103, .call false 131 [.t 98, .t 99, .t 100, .t 101, .t 102]⟩,
  ⟨none, some 15, .mv (.t 103)⟩]
def r121_19 : List SO := [
  ⟨none, some 104, .mv (.t 15)⟩,
  ⟨none, some 1, .mv (.t 104)⟩]
def r121_20 : List SO := [
  ⟨none, some 106, .mv (.t 0)⟩,
  ⟨none, some 107, .mv (.t 1)⟩,
  ⟨none, some 108, .mv (.t 2)⟩,
  ⟨none, some 109, .mv (.t 13)⟩,
  ⟨none, some 110, .mv (.t 4)⟩,
  ⟨none, some 111, .call false 132 [.t 106, .t 107, .t 108, .t 109, .t 110]⟩,
  ⟨none, some 105, .mv (.t 111)⟩,
  ⟨none, some 112, .ext (.t 105) 0⟩,
  ⟨none, some 113, .ext (.t 105) 1⟩,
  ⟨none, some 16, .mv (.t 112)⟩,
  ⟨none, some 17, .mv (.t 113)⟩]
def r121_21 : List SO := [
  ⟨none, some 114, .mv (.t 17)⟩,
  ⟨none, some 11, .mv (.t 114)⟩]
def r121_22 : List SO := [
  ⟨none, some 115, .mv (.t 16)⟩,
  ⟨none, some 116, .mv (.t 1)⟩,
  ⟨none, some 117, .bin .sub (.t 115) (.t 116)⟩,
  ⟨none, some 118, .mv (.t 2)⟩,
  ⟨none, some 119, .mv (.t 16)⟩,
  ⟨none, some 120, .bin .sub (.t 118) (.t 119)⟩,
  ⟨none, some 18, .mv (.t 117)⟩,
  ⟨none, some 19, .mv (.t 120)⟩]
def r121_23 : List SO := [
  ⟨none, some 121, .mv (.t 12)⟩,
  ⟨none, some 122, .bin .quo (.t 121) (.c (.int .i64 8))⟩,
  ⟨none, some 20, .mv (.t 122)⟩]
def r121_24 : List SO := [
  ⟨none, some 123, .mv (.t 18)⟩,
  ⟨none, some 124, .mv (.t 19)⟩,
  ⟨none, some 125, .bin .lss (.t 123) (.t 124)⟩]
def r121_25 : List SO := [
  ⟨none, some 126, .mv (.t 18)⟩,
  ⟨none, some 127, .mv (.t 20)⟩,
  ⟨none, some 128, .bin .geq (.t 126) (.t 127)⟩,
  ⟨none, some 10, .mv (.t 128)⟩]
def r121_26 : List SO := [
  ⟨none, some 129, .mv (.t 0)⟩,
  ⟨none, some 130, .mv (.t 1)⟩,
  ⟨none, some 131, .mv (.t 16)⟩,
  ⟨none, some 132, .mv (.t 3)⟩,
  ⟨none, some 133, .mv (.t 4)⟩,
  ⟨none, some 134, .call true 121 [.t 129, .t 130, .t 131, .t 132, .t 133]⟩]
def r121_27 : List SO := [
  ⟨none, some 135, .mv (.t 16)⟩,
  ⟨none, some 136, .bin .add (.t 135) (.c (.int .i64 1))⟩,
  ⟨none, some 1, .mv (.t 136)⟩]
def r121_28 : List SO := [
  ⟨none, some 137, .mv (.t 19)⟩,
  ⟨none, some 138, .mv (.t 20)⟩,
  ⟨none, some 139, .bin .geq (.t 137) (.t 138)⟩,
  ⟨none, some 10, .mv (.t 139)⟩]
def r121_29 : List SO := [
  ⟨none, some 140, .mv (.t 0)⟩,
  ⟨none, some 141, .mv (.t 16)⟩,
  ⟨none, some 142, .bin .add (.t 141) (.c (.int .i64 1))⟩,
  ⟨none, some 143, .mv (.t 2)⟩,
  ⟨none, some 144, .mv (.t 3)⟩,
  ⟨none, some 145, .mv (.t 4)⟩,
  ⟨none, some 146, .call true 121 [.t 140, .t 142, .t 143, .t 144, .t 145]⟩]
def r121_30 : List SO := [
  ⟨none, some 147, .mv (.t 16)⟩,
  ⟨none, some 2, .mv (.t 147)⟩]
def b121_0 : SC := .block 1 (.seq (.reg r121_2) (.seq (.seq (.reg r121_3) (.cond (.t 25) (.seq (.reg r121_4) (.ret)) (.skip))) (.seq (.seq (.reg r121_5) (.cond (.t 32) (.seq (.reg r121_6) (.ret)) (.skip))) (.seq (.seq (.reg r121_7) (.cond (.t 39) (.seq (.reg r121_8) (.reg r121_9)) (.skip))) (.seq (.reg r121_10) (.seq (.seq (.reg r121_11) (.cond (.t 56) (.seq (.reg r121_12) (.seq (.reg r121_13) (.reg r121_14))) (.skip))) (.seq (.seq (.reg r121_15) (.cond (.t 75) (.seq (.reg r121_16) (.cond (.t 80) (.ret) (.skip))) (.skip))) (.seq (.seq (.reg r121_17) (.cond (.t 97) (.seq (.reg r121_18) (.seq (.reg r121_19) (.exit 1))) (.skip))) (.seq (.reg r121_20) (.seq (.reg r121_21) (.seq (.reg r121_22) (.seq (.reg r121_23) (.seq (.reg r121_24) (.cond (.t 125) (.seq (.reg r121_25) (.seq (.reg r121_26) (.reg r121_27))) (.seq (.reg r121_28) (.seq (.reg r121_29) (.reg r121_30)))))))))))))))))
def s121 : SF := ⟨148, [], .seq (.reg r121_0) (.seq (.reg r121_1) (.block 0 (.loop b121_0)))⟩
theorem s121_ok : slimF Try.prog ⟨[94, 102, 103, 108, 109, 116, 119, 121, 125], []⟩ Try.f121 = some s121 := by kernel_rfl

end Go.Proofs.Ytngkckefanbhgaa

namespace Go.Proofs.Ytngkckefanbhgaa
open Go Go.Proofs

def r122_0 : List SO := [
  ⟨none, some 2, .mv (.c (.int .i64 0))⟩]
def r122_1 : List SO := [
  ⟨none, some 3, .mv (.t 0)⟩,
  ⟨none, some 4, .conv .u32 (.t 3)⟩,
  ⟨none, some 5, .call false 133 [.t 4]⟩,
  ⟨none, some 2, .mv (.t 5)⟩]
def r122_2 : List SO := [
  ⟨none, some 6, .mv (.t 0)⟩,
  ⟨none, some 7, .call false 134 [.t 6]⟩,
  ⟨none, some 2, .mv (.t 7)⟩]
def s122 : SF := ⟨8, [.tmp 2], .seq (.reg r122_0) (.seq (.cond (.c (.bool false)) (.seq (.reg r122_1) (.ret)) (.skip)) (.seq (.reg r122_2) (.ret)))⟩
theorem s122_ok : slimF Try.prog ⟨[94, 102, 103, 108, 109, 116, 119, 121, 125], []⟩ Try.f122 = some s122 := by kernel_rfl

end Go.Proofs.Ytngkckefanbhgaa

namespace Go.Proofs.Ytngkckefanbhgaa
open Go Go.Proofs

def r125_0 : List SO := [
  ⟨none, some 10, .mv (.t 1)⟩,
  ⟨none, some 11, .bin .add (.t 10) (.c (.int .i64 1))⟩,
  ⟨none, some 8, .mv (.t 11)⟩]
def r125_1 : List SO := [
  ⟨none, some 12, .mv (.t 8)⟩,
  ⟨none, some 13, .mv (.t 2)⟩,
  ⟨none, some 14, .bin .lss (.t 12) (.t 13)⟩]
def r125_3 : List SO := [
  ⟨none, some 17, .mv (.t 8)⟩,
  ⟨none, some 9, .mv (.t 17)⟩]
def r125_4 : List SO := [
  ⟨none, some 18, .mv (.t 9)⟩,
  ⟨none, some 19, .mv (.t 1)⟩,
  ⟨none, some 20, .bin .gtr (.t 18) (.t 19)⟩,
  ⟨none, some 21, .mv (.t 20)⟩,
  ⟨some (21, true), some 22, .mv (.t 3)⟩,
  ⟨some (21, true), some 23, .mv (.t 0)⟩,
  ⟨some (21, true), some 24, .mv (.t 9)⟩,
  ⟨some (21, true), some 25, .idx 2 (.t 23) (.t 24)⟩,
  ⟨some (21, true), some 26, .load true 2 (.t 25)⟩,
  ⟨some (21, true), some 27, .mv (.t 0)⟩,
  ⟨some (21, true), some 28, .mv (.t 9)⟩,
  ⟨some (21, true), some 29, .bin .sub (.t 28) (.c (.int .i64 1))⟩,
  ⟨some (21, true), some 30, .idx 2 (.t 27) (.t 29)⟩,
  ⟨some (21, true), some 31, .load true 2 (.t 30)⟩,
  ⟨some (21, true), some 32, .callv false (.t 22) [.t 26, .t 31]⟩,
  ⟨some (21, true), some 33, .bin .lss (.t 32) (.c (.int .i64 0))⟩,
  ⟨none, some 34, .pick (.t 21) (.t 33) (.c (.bool false))⟩]
def r125_6 : List SO := [
  ⟨none, some 37, .mv (.t 0)⟩,
  ⟨none, some 38, .mv (.t 9)⟩,
  ⟨none, some 39, .mv (.t 0)⟩,
  ⟨none, some 40, .mv (.t 9)⟩,
  ⟨none, some 41, .bin .sub (.t 40) (.c (.int .i64 1))⟩,
  ⟨none, some 42, .mv (.t 0)⟩,
  ⟨none, some 43, .mv (.t 9)⟩,
  ⟨none, some 44, .bin .sub (.t 43) (.c (.int .i64 1))⟩,
  ⟨none, some 45, .idx 2 (.t 42) (.t 44)⟩,
  ⟨none, some 46, .load true 2 (.t 45)⟩,
  ⟨none, some 47, .mv (.t 0)⟩,
  ⟨none, some 48, .mv (.t 9)⟩,
  ⟨none, some 49, .idx 2 (.t 47) (.t 48)⟩,
  ⟨none, some 50, .load true 2 (.t 49)⟩,
  ⟨none, some 51, .idx 2 (.t 37) (.t 38)⟩,
  ⟨none, none, .store 2 (.t 51) (.t 46)⟩,
  ⟨none, some 52, .idx 2 (.t 39) (.t 41)⟩,
  ⟨none, none, .store 2 (.t 52) (.t 50)⟩]
def r125_5 : List SO := [
  ⟨none, some 35, .mv (.t 9)⟩,
  ⟨none, some 36, .bin .sub (.t 35) (.c (.int .i64 1))⟩,
  ⟨none, some 9, .mv (.t 36)⟩]
def b125_1 : SC := .seq (.seq (.reg r125_4) (.cond (.t 34) (.skip) (.exit 2))) (.seq (.block 3 (.reg r125_6)) (.reg r125_5))
def r125_2 : List SO := [
  ⟨none, some 15, .mv (.t 8)⟩,
  ⟨none, some 16, .bin .add (.t 15) (.c (.int .i64 1))⟩,
  ⟨none, some 8, .mv (.t 16)⟩]
def b125_0 : SC := .seq (.seq (.reg r125_1) (.cond (.t 14) (.skip) (.exit 0))) (.seq (.block 1 (.seq (.reg r125_3) (.block 2 (.loop b125_1)))) (.reg r125_2))
def s125 : SF := ⟨53, [], .seq (.reg r125_0) (.block 0 (.loop b125_0))⟩
theorem s125_ok : slimF Try.prog ⟨[94, 102, 103, 108, 109, 116, 119, 121, 125], []⟩ Try.f125 = some s125 := by kernel_rfl

end Go.Proofs.Ytngkckefanbhgaa

namespace Go.Proofs.Ytngkckefanbhgaa
open Go Go.Proofs

def r126_0 : List SO := [
  ⟨none, some 13, .mv (.t 1)⟩,
  ⟨none, some 8, .mv (.t 13)⟩]
def r126_1 : List SO := [
  ⟨none, some 9, .mv (.c (.int .i64 0))⟩]
def r126_2 : List SO := [
  ⟨none, some 14, .mv (.t 2)⟩,
  ⟨none, some 15, .mv (.t 1)⟩,
  ⟨none, some 16, .bin .sub (.t 14) (.t 15)⟩,
  ⟨none, some 10, .mv (.t 16)⟩]
def r126_3 : List SO := [
  ⟨none, some 17, .mv (.t 10)⟩,
  ⟨none, some 18, .bin .sub (.t 17) (.c (.int .i64 1))⟩,
  ⟨none, some 19, .bin .quo (.t 18) (.c (.int .i64 2))⟩,
  ⟨none, some 11, .mv (.t 19)⟩]
def r126_4 : List SO := [
  ⟨none, some 20, .mv (.t 11)⟩,
  ⟨none, some 21, .bin .geq (.t 20) (.c (.int .i64 0))⟩]
def r126_6 : List SO := [
  ⟨none, some 24, .mv (.t 0)⟩,
  ⟨none, some 25, .mv (.t 11)⟩,
  ⟨none, some 26, .mv (.t 10)⟩,
  ⟨none, some 27, .mv (.t 8)⟩,
  ⟨none, some 28, .mv (.t 3)⟩,
  ⟨none, some 29, .call false 136 [.t 24, .t 25, .t 26, .t 27, .t 28]⟩]
def r126_5 : List SO := [
  ⟨none, some 22, .mv (.t 11)⟩,
  ⟨none, some 23, .bin .sub (.t 22) (.c (.int .i64 1))⟩,
  ⟨none, some 11, .mv (.t 23)⟩]
def b126_0 : SC := .seq (.seq (.reg r126_4) (.cond (.t 21) (.skip) (.exit 0))) (.seq (.block 1 (.reg r126_6)) (.reg r126_5))
def r126_7 : List SO := [
  ⟨none, some 30, .mv (.t 10)⟩,
  ⟨none, some 31, .bin .sub (.t 30) (.c (.int .i64 1))⟩,
  ⟨none, some 12, .mv (.t 31)⟩]
def r126_8 : List SO := [
  ⟨none, some 32, .mv (.t 12)⟩,
  ⟨none, some 33, .bin .geq (.t 32) (.c (.int .i64 0))⟩]
def r126_10 : List SO := [
  ⟨none, some 36, .mv (.t 0)⟩,
  ⟨none, some 37, .mv (.t 8)⟩,
  ⟨none, some 38, .mv (.t 0)⟩,
  ⟨none, some 39, .mv (.t 8)⟩,
  ⟨none, some 40, .mv (.t 12)⟩,
  ⟨none, some 41, .bin .add (.t 39) (.t 40)⟩,
  ⟨none, some 42, .mv (.t 0)⟩,
  ⟨none, some 43, .mv (.t 8)⟩,
  ⟨none, some 44, .mv (.t 12)⟩,
  ⟨none, some 45, .bin .add (.t 43) (.t 44)⟩,
  ⟨none, some 46, .idx 2 (.t 42) (.t 45)⟩,
  ⟨none, some 47, .load true 2 (.t 46)⟩,
  ⟨none, some 48, .mv (.t 0)⟩,
  ⟨none, some 49, .mv (.t 8)⟩,
  ⟨none, some 50, .idx 2 (.t 48) (.t 49)⟩,
  ⟨none, some 51, .load true 2 (.t 50)⟩,
  ⟨none, some 52, .idx 2 (.t 36) (.t 37)⟩,
  ⟨none, none, .store 2 (.t 52) (.t 47)⟩,
  ⟨none, some 53, .idx 2 (.t 38) (.t 41)⟩,
  ⟨none, none, .store 2 (.t 53) (.t 51)⟩]
def r126_11 : List SO := [
  ⟨none, some 54, .mv (.t 0)⟩,
  ⟨none, some 55, .mv (.t 9)⟩,
  ⟨none, some 56, .mv (.t 12)⟩,
  ⟨none, some 57, .mv (.t 8)⟩,
  ⟨none, some 58, .mv (.t 3)⟩,
  ⟨none, some 59, .call false 136 [.t 54, .t 55, .t 56, .t 57, .t 58]⟩]
def r126_9 : List SO := [
  ⟨none, some 34, .mv (.t 12)⟩,
  ⟨none, some 35, .bin .sub (.t 34) (.c (.int .i64 1))⟩,
  ⟨none, some 12, .mv (.t 35)⟩]
def b126_1 : SC := .seq (.seq (.reg r126_8) (.cond (.t 33) (.skip) (.exit 2))) (.seq (.block 3 (.seq (.reg r126_10) (.reg r126_11))) (.reg r126_9))
def s126 : SF := ⟨60, [], .seq (.reg r126_0) (.seq (.reg r126_1) (.seq (.reg r126_2) (.seq (.seq (.reg r126_3) (.block 0 (.loop b126_0))) (.seq (.reg r126_7) (.block 2 (.loop b126_1))))))⟩
theorem s126_ok : slimF Try.prog ⟨[94, 102, 103, 108, 109, 116, 119, 121, 125], []⟩ Try.f126 = some s126 := by kernel_rfl

end Go.Proofs.Ytngkckefanbhgaa

namespace Go.Proofs.Ytngkckefanbhgaa
open Go Go.Proofs

def r127_0 : List SO := [
  ⟨none, some 13, .mv (.t 2)⟩,
  ⟨none, some 14, .mv (.t 1)⟩,
  ⟨none, some 15, .bin .sub (.t 13) (.t 14)⟩,
  ⟨none, some 8, .mv (.t 15)⟩]
def r127_1 : List SO := [
  ⟨none, some 16, .mv (.t 8)⟩,
  ⟨none, some 17, .bin .geq (.t 16) (.c (.int .i64 8))⟩]
def r127_2 : List SO := [
  ⟨none, some 18, .mv (.t 8)⟩,
  ⟨none, some 19, .conv .u64 (.t 18)⟩,
  ⟨none, some 9, .alloc 154 [.int .u64 0]⟩,
  ⟨none, none, .store 1 (.t 9) (.t 19)⟩]
def r127_3 : List SO := [
  ⟨none, some 20, .mv (.t 8)⟩,
  ⟨none, some 21, .call false 137 [.t 20]⟩,
  ⟨none, some 10, .mv (.t 21)⟩]
def r127_4 : List SO := [
  ⟨none, some 22, .mv (.t 1)⟩,
  ⟨none, some 23, .mv (.t 8)⟩,
  ⟨none, some 24, .bin .quo (.t 23) (.c (.int .i64 4))⟩,
  ⟨none, some 25, .bin .mul (.t 24) (.c (.int .i64 2))⟩,
  ⟨none, some 26, .bin .add (.t 22) (.t 25)⟩,
  ⟨none, some 27, .bin .sub (.t 26) (.c (.int .i64 1))⟩,
  ⟨none, some 11, .mv (.t 27)⟩]
def r127_5 : List SO := [
  ⟨none, some 28, .mv (.t 11)⟩,
  ⟨none, some 29, .mv (.t 1)⟩,
  ⟨none, some 30, .mv (.t 8)⟩,
  ⟨none, some 31, .bin .quo (.t 30) (.c (.int .i64 4))⟩,
  ⟨none, some 32, .bin .mul (.t 31) (.c (.int .i64 2))⟩,
  ⟨none, some 33, .bin .add (.t 29) (.t 32)⟩,
  ⟨none, some 34, .bin .add (.t 33) (.c (.int .i64 1))⟩,
  ⟨none, some 35, .bin .leq (.t 28) (.t 34)⟩]
def r127_7 : List SO := [
  ⟨none, some 38, .call false 138 [.t 9]⟩,
  ⟨none, some 39, .mv (.t 10)⟩,
  ⟨none, some 40, .bin .sub (.t 39) (.c (.int .u64 1))⟩,
  ⟨none, some 41, .bin .and (.t 38) (.t 40)⟩,
  ⟨none, some 42, .conv .i64 (.t 41)⟩,
  ⟨none, some 12, .mv (.t 42)⟩]
def r127_8 : List SO := [
  ⟨none, some 43, .mv (.t 12)⟩,
  ⟨none, some 44, .mv (.t 8)⟩,
  ⟨none, some 45, .bin .geq (.t 43) (.t 44)⟩]
def r127_9 : List SO := [
  ⟨none, some 46, .mv (.t 12)⟩,
  ⟨none, some 47, .mv (.t 8)⟩,
  ⟨none, some 48, .bin .sub (.t 46) (.t 47)⟩,
  ⟨none, some 12, .mv (.t 48)⟩]
def r127_10 : List SO := [
  ⟨none, some 49, .mv (.t 0)⟩,
  ⟨none, some 50, .mv (.t 11)⟩,
  ⟨none, some 51, .mv (.t 0)⟩,
  ⟨none, some 52, .mv (.t 1)⟩,
  ⟨none, some 53, .mv (.t 12)⟩,
  ⟨none, some 54, .bin .add (.t 52) (.t 53)⟩,
  ⟨none, some 55, .mv (.t 0)⟩,
  ⟨none, some 56, .mv (.t 1)⟩,
  ⟨none, some 57, .mv (.t 12)⟩,
  ⟨none, some 58, .bin .add (.t 56) (.t 57)⟩,
  ⟨none, some 59, .idx 2 (.t 55) (.t 58)⟩,
  ⟨none, some 60, .load true 2 (.t 59)⟩,
  ⟨none, some 61, .mv (.t 0)⟩,
  ⟨none, some 62, .mv (.t 11)⟩,
  ⟨none, some 63, .idx 2 (.t 61) (.t 62)⟩,
  ⟨none, some 64, .load true 2 (.t 63)⟩,
  ⟨none, some 65, .idx 2 (.t 49) (.t 50)⟩,
  ⟨none, none, .store 2 (.t 65) (.t 60)⟩,
  ⟨none, some 66, .idx 2 (.t 51) (.t 54)⟩,
  ⟨none, none, .store 2 (.t 66) (.t 64)⟩]
def r127_6 : List SO := [
  ⟨none, some 36, .mv (.t 11)⟩,
  ⟨none, some 37, .bin .add (.t 36) (.c (.int .i64 1))⟩,
  ⟨none, some 11, .mv (.t 37)⟩]
def b127_0 : SC := .seq (.seq (.reg r127_5) (.cond (.t 35) (.skip) (.exit 0))) (.seq (.block 1 (.seq (.reg r127_7) (.seq (.seq (.reg r127_8) (.cond (.t 45) (.reg r127_9) (.skip))) (.reg r127_10)))) (.reg r127_6))
def s127 : SF := ⟨67, [], .seq (.reg r127_0) (.seq (.reg r127_1) (.cond (.t 17) (.seq (.reg r127_2) (.seq (.reg r127_3) (.seq (.reg r127_4) (.block 0 (.loop b127_0))))) (.skip)))⟩
theorem s127_ok : slimF Try.prog ⟨[94, 102, 103, 108, 109, 116, 119, 121, 125], []⟩ Try.f127 = some s127 := by kernel_rfl

end Go.Proofs.Ytngkckefanbhgaa

namespace Go.Proofs.Ytngkckefanbhgaa
open Go Go.Proofs

def r128_0 : List SO := [
  ⟨none, some 8, .mv (.c (.int .i64 0))⟩,
  ⟨none, some 9, .mv (.c (.int .i64 0))⟩]
def r128_1 : List SO := [
  ⟨none, some 15, .mv (.t 2)⟩,
  ⟨none, some 16, .mv (.t 1)⟩,
  ⟨none, some 17, .bin .sub (.t 15) (.t 16)⟩,
  ⟨none, some 10, .mv (.t 17)⟩]
def r128_2 : List SO := [
  ⟨none, some 11, .alloc 3 [.int .i64 0]⟩]
def r128_3 : List SO := [
  ⟨none, some 18, .mv (.t 1)⟩,
  ⟨none, some 19, .mv (.t 10)⟩,
  ⟨none, some 20, .bin .quo (.t 19) (.c (.int .i64 4))⟩,
  ⟨none, some 21, .bin .mul (.t 20) (.c (.int .i64 1))⟩,
  ⟨none, some 22, .bin .add (.t 18) (.t 21)⟩,
  ⟨none, some 12, .mv (.t 22)⟩]
def r128_4 : List SO := [
  ⟨none, some 23, .mv (.t 1)⟩,
  ⟨none, some 24, .mv (.t 10)⟩,
  ⟨none, some 25, .bin .quo (.t 24) (.c (.int .i64 4))⟩,
  ⟨none, some 26, .bin .mul (.t 25) (.c (.int .i64 2))⟩,
  ⟨none, some 27, .bin .add (.t 23) (.t 26)⟩,
  ⟨none, some 13, .mv (.t 27)⟩]
def r128_5 : List SO := [
  ⟨none, some 28, .mv (.t 1)⟩,
  ⟨none, some 29, .mv (.t 10)⟩,
  ⟨none, some 30, .bin .quo (.t 29) (.c (.int .i64 4))⟩,
  ⟨none, some 31, .bin .mul (.t 30) (.c (.int .i64 3))⟩,
  ⟨none, some 32, .bin .add (.t 28) (.t 31)⟩,
  ⟨none, some 14, .mv (.t 32)⟩]
def r128_6 : List SO := [
  ⟨none, some 33, .mv (.t 10)⟩,
  ⟨none, some 34, .bin .geq (.t 33) (.c (.int .i64 8))⟩]
def r128_7 : List SO := [
  ⟨none, some 35, .mv (.t 10)⟩,
  ⟨none, some 36, .bin .geq (.t 35) (.c (.int .i64 50))⟩]
def r128_8 : List SO := [
  ⟨none, some 37, .mv (.t 0)⟩,
  ⟨none, some 38, .mv (.t 12)⟩,
  ⟨none, some 39, .mv (.t 3)⟩,
  ⟨none, some 40, .call false 139 [.t 37, .t 38, .t 11, .t 39]⟩,
  ⟨none, some 12, .mv (.t 40)⟩]
def r128_9 : List SO := [
  ⟨none, some 41, .mv (.t 0)⟩,
  ⟨none, some 42, .mv (.t 13)⟩,
  ⟨none, some 43, .mv (.t 3)⟩,
  ⟨none, some 44, .call false 139 [.t 41, .t 42, .t 11, .t 43]⟩,
  ⟨none, some 13, .mv (.t 44)⟩]
def r128_10 : List SO := [
  ⟨none, some 45, .mv (.t 0)⟩,
  ⟨none, some 46, .mv (.t 14)⟩,
  ⟨none, some 47, .mv (.t 3)⟩,
  ⟨none, some 48, .call false 139 [.t 45, .t 46, .t 11, .t 47]⟩,
  ⟨none, some 14, .mv (.t 48)⟩]
def r128_11 : List SO := [
  ⟨none, some 49, .mv (.t 0)⟩,
  ⟨none, some 50, .mv (.t 12)⟩,
  ⟨none, some 51, .mv (.t 13)⟩,
  ⟨none, some 52, .mv (.t 14)⟩,
  ⟨none, some 53, .mv (.t 3)⟩,
  ⟨none, some 54, .call false 140 [.t 49, .t 50, .t 51, .t 52, .t 11, .t 53]⟩,
  ⟨none, some 13, .mv (.t 54)⟩]
def r128_12 : List SO := [
  ⟨none, some 55, .load false 1 (.t 11)⟩]
def r128_14 : List SO := [
  ⟨none, some 58, .bin .eql (.t 55) (.c (.int .i64 0))⟩,
  ⟨none, some 57, .mv (.t 58)⟩]
def r128_15 : List SO := [
  ⟨none, some 59, .mv (.t 13)⟩,
  ⟨none, some 8, .mv (.t 59)⟩,
  ⟨none, some 9, .mv (.c (.int .i64 1))⟩]
def r128_16 : List SO := [
  ⟨none, some 61, .bin .eql (.t 55) (.c (.int .i64 12))⟩,
  ⟨none, some 60, .mv (.t 61)⟩]
def r128_17 : List SO := [
  ⟨none, some 62, .mv (.t 13)⟩,
  ⟨none, some 8, .mv (.t 62)⟩,
  ⟨none, some 9, .mv (.c (.int .i64 2))⟩]
def r128_13 : List SO := [
  ⟨none, some 56, .mv (.t 13)⟩,
  ⟨none, some 8, .mv (.t 56)⟩,
  ⟨none, some 9, .mv (.c (.int .i64 0))⟩]
def s128 : SF := ⟨63, [.tmp 8, .tmp 9], .seq (.reg r128_0) (.seq (.reg r128_1) (.seq (.reg r128_2) (.seq (.reg r128_3) (.seq (.reg r128_4) (.seq (.reg r128_5) (.seq (.seq (.reg r128_6) (.cond (.t 34) (.seq (.seq (.reg r128_7) (.cond (.t 36) (.seq (.reg r128_8) (.seq (.reg r128_9) (.reg r128_10))) (.skip))) (.reg r128_11)) (.skip))) (.seq (.reg r128_12) (.block 0 (.seq (.reg r128_14) (.cond (.t 57) (.seq (.reg r128_15) (.ret)) (.seq (.reg r128_16) (.cond (.t 60) (.seq (.reg r128_17) (.ret)) (.seq (.reg r128_13) (.ret))))))))))))))⟩
theorem s128_ok : slimF Try.prog ⟨[94, 102, 103, 108, 109, 116, 119, 121, 125], []⟩ Try.f128 = some s128 := by kernel_rfl

end Go.Proofs.Ytngkckefanbhgaa

namespace Go.Proofs.Ytngkckefanbhgaa
open Go Go.Proofs

def r129_0 : List SO := [
  ⟨none, some 10, .mv (.t 1)⟩,
  ⟨none, some 8, .mv (.t 10)⟩]
def r129_1 : List SO := [
  ⟨none, some 11, .mv (.t 2)⟩,
  ⟨none, some 12, .bin .sub (.t 11) (.c (.int .i64 1))⟩,
  ⟨none, some 9, .mv (.t 12)⟩]
def r129_2 : List SO := [
  ⟨none, some 13, .mv (.t 8)⟩,
  ⟨none, some 14, .mv (.t 9)⟩,
  ⟨none, some 15, .bin .lss (.t 13) (.t 14)⟩]
def r129_3 : List SO := [
  ⟨none, some 16, .mv (.t 0)⟩,
  ⟨none, some 17, .mv (.t 8)⟩,
  ⟨none, some 18, .mv (.t 0)⟩,
  ⟨none, some 19, .mv (.t 9)⟩,
  ⟨none, some 20, .mv (.t 0)⟩,
  ⟨none, some 21, .mv (.t 9)⟩,
  ⟨none, some 22, .idx 2 (.t 20) (.t 21)⟩,
  ⟨none, some 23, .load true 2 (.t 22)⟩,
  ⟨none, some 24, .mv (.t 0)⟩,
  ⟨none, some 25, .mv (.t 8)⟩,
  ⟨none, some 26, .idx 2 (.t 24) (.t 25)⟩,
  ⟨none, some 27, .load true 2 (.t 26)⟩,
  ⟨none, some 28, .idx 2 (.t 16) (.t 17)⟩,
  ⟨none, none, .store 2 (.t 28) (.t 23)⟩,
  ⟨none, some 29, .idx 2 (.t 18) (.t 19)⟩,
  ⟨none, none, .store 2 (.t 29) (.t 27)⟩]
def r129_4 : List SO := [
  ⟨none, some 30, .mv (.t 8)⟩,
  ⟨none, some 31, .bin .add (.t 30) (.c (.int .i64 1))⟩,
  ⟨none, some 8, .mv (.t 31)⟩]
def r129_5 : List SO := [
  ⟨none, some 32, .mv (.t 9)⟩,
  ⟨none, some 33, .bin .sub (.t 32) (.c (.int .i64 1))⟩,
  ⟨none, some 9, .mv (.t 33)⟩]
def b129_0 : SC := .seq (.seq (.reg r129_2) (.cond (.t 15) (.skip) (.exit 0))) (.block 1 (.seq (.reg r129_3) (.seq (.reg r129_4) (.reg r129_5))))
def s129 : SF := ⟨34, [], .seq (.reg r129_0) (.seq (.reg r129_1) (.block 0 (.loop b129_0)))⟩
theorem s129_ok : slimF Try.prog ⟨[94, 102, 103, 108, 109, 116, 119, 121, 125], []⟩ Try.f129 = some s129 := by kernel_rfl

end Go.Proofs.Ytngkckefanbhgaa

namespace Go.Proofs.Ytngkckefanbhgaa
open Go Go.Proofs

def r130_0 : List SO := [
  ⟨none, some 8, .mv (.c (.bool false))⟩]
def r130_1 : List SO := [
  ⟨none, some 13, .mv (.t 1)⟩,
  ⟨none, some 14, .bin .add (.t 13) (.c (.int .i64 1))⟩,
  ⟨none, some 9, .mv (.t 14)⟩]
def r130_2 : List SO := [
  ⟨none, some 10, .mv (.c (.int .i64 0))⟩]
def r130_3 : List SO := [
  ⟨none, some 15, .mv (.t 10)⟩,
  ⟨none, some 16, .bin .lss (.t 15) (.c (.int .i64 5))⟩]
def r130_5 : List SO := [
  ⟨none, some 19, .mv (.t 9)⟩,
  ⟨none, some 20, .mv (.t 2)⟩,
  ⟨none, some 21, .bin .lss (.t 19) (.t 20)⟩,
  ⟨none, some 22, .mv (.t 21)⟩,
  ⟨some (22, true), some 23, .mv (.t 3)⟩,
  ⟨some (22, true), some 24, .mv (.t 0)⟩,
  ⟨some (22, true), some 25, .mv (.t 9)⟩,
  ⟨some (22, true), some 26, .idx 2 (.t 24) (.t 25)⟩,
  ⟨some (22, true), some 27, .load true 2 (.t 26)⟩,
  ⟨some (22, true), some 28, .mv (.t 0)⟩,
  ⟨some (22, true), some 29, .mv (.t 9)⟩,
  ⟨some (22, true), some 30, .bin .sub (.t 29) (.c (.int .i64 1))⟩,
  ⟨some (22, true), some 31, .idx 2 (.t 28) (.t 30)⟩,
  ⟨some (22, true), some 32, .load true 2 (.t 31)⟩,
  ⟨some (22, true), some 33, .callv false (.t 23) [.t 27, .t 32]⟩,
  ⟨some (22, true), some 34, .bin .lss (.t 33) (.c (.int .i64 0))⟩,
  ⟨some (22, true), some 35, .un .not (.t 34)⟩,
  ⟨none, some 36, .pick (.t 22) (.t 35) (.c (.bool false))⟩]
def r130_6 : List SO := [
  ⟨none, some 37, .mv (.t 9)⟩,
  ⟨none, some 38, .bin .add (.t 37) (.c (.int .i64 1))⟩,
  ⟨none, some 9, .mv (.t 38)⟩]
def b130_1 : SC := .seq (.seq (.reg r130_5) (.cond (.t 36) (.skip) (.exit 2))) (.block 3 (.reg r130_6))
def r130_7 : List SO := [
  ⟨none, some 39, .mv (.t 9)⟩,
  ⟨none, some 40, .mv (.t 2)⟩,
  ⟨none, some 41, .bin .eql (.t 39) (.t 40)⟩]
def r130_8 : List SO := [
  ⟨none, some 8, .mv (.c (.bool true))⟩]
def r130_9 : List SO := [
  ⟨none, some 42, .mv (.t 2)⟩,
  ⟨none, some 43, .mv (.t 1)⟩,
  ⟨none, some 44, .bin .sub (.t 42) (.t 43)⟩,
  ⟨none, some 45, .bin .lss (.t 44) (.c (.int .i64 50))⟩]
def r130_10 : List SO := [
  ⟨none, some 8, .mv (.c (.bool false))⟩]
def r130_11 : List SO := [
  ⟨none, some 46, .mv (.t 0)⟩,
  ⟨none, some 47, .mv (.t 9)⟩,
  ⟨none, some 48, .mv (.t 0)⟩,
  ⟨none, some 49, .mv (.t 9)⟩,
  ⟨none, some 50, .bin .sub (.t 49) (.c (.int .i64 1))⟩,
  ⟨none, some 51, .mv (.t 0)⟩,
  ⟨none, some 52, .mv (.t 9)⟩,
  ⟨none, some 53, .bin .sub (.t 52) (.c (.int .i64 1))⟩,
  ⟨none, some 54, .idx 2 (.t 51) (.t 53)⟩,
  ⟨none, some 55, .load true 2 (.t 54)⟩,
  ⟨none, some 56, .mv (.t 0)⟩,
  ⟨none, some 57, .mv (.t 9)⟩,
  ⟨none, some 58, .idx 2 (.t 56) (.t 57)⟩,
  ⟨none, some 59, .load true 2 (.t 58)⟩,
  ⟨none, some 60, .idx 2 (.t 46) (.t 47)⟩,
  ⟨none, none, .store 2 (.t 60) (.t 55)⟩,
  ⟨none, some 61, .idx 2 (.t 48) (.t 50)⟩,
  ⟨none, none, .store 2 (.t 61) (.t 59)⟩]
def r130_12 : List SO := [
  ⟨none, some 62, .mv (.t 9)⟩,
  ⟨none, some 63, .mv (.t 1)⟩,
  ⟨none, some 64, .bin .sub (.t 62) (.t 63)⟩,
  ⟨none, some 65, .bin .geq (.t 64) (.c (.int .i64 2))⟩]
def r130_13 : List SO := [
  ⟨none, some 66, .mv (.t 9)⟩,
  ⟨none, some 67, .bin .sub (.t 66) (.c (.int .i64 1))⟩,
  ⟨none, some 11, .mv (.t 67)⟩]
def r130_14 : List SO := [
  ⟨none, some 68, .mv (.t 11)⟩,
  ⟨none, some 69, .bin .geq (.t 68) (.c (.int .i64 1))⟩]
def r130_16 : List SO := [
  ⟨none, some 72, .mv (.t 3)⟩,
  ⟨none, some 73, .mv (.t 0)⟩,
  ⟨none, some 74, .mv (.t 11)⟩,
  ⟨none, some 75, .idx 2 (.t 73) (.t 74)⟩,
  ⟨none, some 76, .load true 2 (.t 75)⟩,
  ⟨none, some 77, .mv (.t 0)⟩,
  ⟨none, some 78, .mv (.t 11)⟩,
  ⟨none, some 79, .bin .sub (.t 78) (.c (.int .i64 1))⟩,
  ⟨none, some 80, .idx 2 (.t 77) (.t 79)⟩,
  ⟨none, some 81, .load true 2 (.t 80)⟩,
  ⟨none, some 82, .callv false (.t 72) [.t 76, .t 81]⟩,
  ⟨none, some 83, .bin .lss (.t 82) (.c (.int .i64 0))⟩,
  ⟨none, some 84, .un .not (.t 83)⟩]
def r130_17 : List SO := [
  ⟨none, some 85, .mv (.t 0)⟩,
  ⟨none, some 86, .mv (.t 11)⟩,
  ⟨none, some 87, .mv (.t 0)⟩,
  ⟨none, some 88, .mv (.t 11)⟩,
  ⟨none, some 89, .bin .sub (.t 88) (.c (.int .i64 1))⟩,
  ⟨none, some 90, .mv (.t 0)⟩,
  ⟨none, some 91, .mv (.t 11)⟩,
  ⟨none, some 92, .bin .sub (.t 91) (.c (.int .i64 1))⟩,
  ⟨none, some 93, .idx 2 (.t 90) (.t 92)⟩,
  ⟨none, some 94, .load true 2 (.t 93)⟩,
  ⟨none, some 95, .mv (.t 0)⟩,
  ⟨none, some 96, .mv (.t 11)⟩,
  ⟨none, some 97, .idx 2 (.t 95) (.t 96)⟩,
  ⟨none, some 98, .load true 2 (.t 97)⟩,
  ⟨none, some 99, .idx 2 (.t 85) (.t 86)⟩,
  ⟨none, none, .store 2 (.t 99) (.t 94)⟩,
  ⟨none, some 100, .idx 2 (.t 87) (.t 89)⟩,
  ⟨none, none, .store 2 (.t 100) (.t 98)⟩]
def r130_15 : List SO := [
  ⟨none, some 70, .mv (.t 11)⟩,
  ⟨none, some 71, .bin .sub (.t 70) (.c (.int .i64 1))⟩,
  ⟨none, some 11, .mv (.t 71)⟩]
def b130_2 : SC := .seq (.seq (.reg r130_14) (.cond (.t 69) (.skip) (.exit 4))) (.seq (.block 5 (.seq (.seq (.reg r130_16) (.cond (.t 84) (.exit 4) (.skip))) (.reg r130_17))) (.reg r130_15))
def r130_18 : List SO := [
  ⟨none, some 101, .mv (.t 2)⟩,
  ⟨none, some 102, .mv (.t 9)⟩,
  ⟨none, some 103, .bin .sub (.t 101) (.t 102)⟩,
  ⟨none, some 104, .bin .geq (.t 103) (.c (.int .i64 2))⟩]
def r130_19 : List SO := [
  ⟨none, some 105, .mv (.t 9)⟩,
  ⟨none, some 106, .bin .add (.t 105) (.c (.int .i64 1))⟩,
  ⟨none, some 12, .mv (.t 106)⟩]
def r130_20 : List SO := [
  ⟨none, some 107, .mv (.t 12)⟩,
  ⟨none, some 108, .mv (.t 2)⟩,
  ⟨none, some 109, .bin .lss (.t 107) (.t 108)⟩]
def r130_22 : List SO := [
  ⟨none, some 112, .mv (.t 3)⟩,
  ⟨none, some 113, .mv (.t 0)⟩,
  ⟨none, some 114, .mv (.t 12)⟩,
  ⟨none, some 115, .idx 2 (.t 113) (.t 114)⟩,
  ⟨none, some 116, .load true 2 (.t 115)⟩,
  ⟨none, some 117, .mv (.t 0)⟩,
  ⟨none, some 118, .mv (.t 12)⟩,
  ⟨none, some 119, .bin .sub (.t 118) (.c (.int .i64 1))⟩,
  ⟨none, some 120, .idx 2 (.t 117) (.t 119)⟩,
  ⟨none, some 121, .load true 2 (.t 120)⟩,
  ⟨none, some 122, .callv false (.t 112) [.t 116, .t 121]⟩,
  ⟨none, some 123, .bin .lss (.t 122) (.c (.int .i64 0))⟩,
  ⟨none, some 124, .un .not (.t 123)⟩]
def r130_23 : List SO := [
  ⟨none, some 125, .mv (.t 0)⟩,
  ⟨none, some 126, .mv (.t 12)⟩,
  ⟨none, some 127, .mv (.t 0)⟩,
  ⟨none, some 128, .mv (.t 12)⟩,
  ⟨none, some 129, .bin .sub (.t 128) (.c (.int .i64 1))⟩,
  ⟨none, some 130, .mv (.t 0)⟩,
  ⟨none, some 131, .mv (.t 12)⟩,
  ⟨none, some 132, .bin .sub (.t 131) (.c (.int .i64 1))⟩,
  ⟨none, some 133, .idx 2 (.t 130) (.t 132)⟩,
  ⟨none, some 134, .load true 2 (.t 133)⟩,
  ⟨none, some 135, .mv (.t 0)⟩,
  ⟨none, some 136, .mv (.t 12)⟩,
  ⟨none, some 137, .idx 2 (.t 135) (.t 136)⟩,
  ⟨none, some 138, .load true 2 (.t 137)⟩,
  ⟨none, some 139, .idx 2 (.t 125) (.t 126)⟩,
  ⟨none, none, .store 2 (.t 139) (.t 134)⟩,
  ⟨none, some 140, .idx 2 (.t 127) (.t 129)⟩,
  ⟨none, none, .store 2 (.t 140) (.t 138)⟩]
def r130_21 : List SO := [
  ⟨none, some 110, .mv (.t 12)⟩,
  ⟨none, some 111, .bin .add (.t 110) (.c (.int .i64 1))⟩,
  ⟨none, some 12, .mv (.t 111)⟩]
def b130_3 : SC := .seq (.seq (.reg r130_20) (.cond (.t 109) (.skip) (.exit 6))) (.seq (.block 7 (.seq (.seq (.reg r130_22) (.cond (.t 124) (.exit 6) (.skip))) (.reg r130_23))) (.reg r130_21))
def r130_4 : List SO := [
  ⟨none, some 17, .mv (.t 10)⟩,
  ⟨none, some 18, .bin .add (.t 17) (.c (.int .i64 1))⟩,
  ⟨none, some 10, .mv (.t 18)⟩]
def b130_0 : SC := .seq (.seq (.reg r130_3) (.cond (.t 16) (.skip) (.exit 0))) (.seq (.block 1 (.seq (.block 2 (.loop b130_1)) (.seq (.seq (.reg r130_7) (.cond (.t 41) (.seq (.reg r130_8) (.ret)) (.skip))) (.seq (.seq (.reg r130_9) (.cond (.t 45) (.seq (.reg r130_10) (.ret)) (.skip))) (.seq (.reg r130_11) (.seq (.seq (.reg r130_12) (.cond (.t 65) (.seq (.reg r130_13) (.block 4 (.loop b130_2))) (.skip))) (.seq (.reg r130_18) (.cond (.t 104) (.seq (.reg r130_19) (.block 6 (.loop b130_3))) (.skip))))))))) (.reg r130_4))
def r130_24 : List SO := [
  ⟨none, some 8, .mv (.c (.bool false))⟩]
def s130 : SF := ⟨141, [.tmp 8], .seq (.reg r130_0) (.seq (.reg r130_1) (.seq (.seq (.reg r130_2) (.block 0 (.loop b130_0))) (.seq (.reg r130_24) (.ret))))⟩
theorem s130_ok : slimF Try.prog ⟨[94, 102, 103, 108, 109, 116, 119, 121, 125], []⟩ Try.f130 = some s130 := by kernel_rfl

end Go.Proofs.Ytngkckefanbhgaa

namespace Go.Proofs.Ytngkckefanbhgaa
open Go Go.Proofs

def r131_0 : List SO := [
  ⟨none, some 10, .mv (.c (.int .i64 0))⟩]
def r131_1 : List SO := [
  ⟨none, some 13, .mv (.t 0)⟩,
  ⟨none, some 14, .mv (.t 1)⟩,
  ⟨none, some 15, .mv (.t 0)⟩,
  ⟨none, some 16, .mv (.t 3)⟩,
  ⟨none, some 17, .mv (.t 0)⟩,
  ⟨none, some 18, .mv (.t 3)⟩,
  ⟨none, some 19, .idx 2 (.t 17) (.t 18)⟩,
  ⟨none, some 20, .load true 2 (.t 19)⟩,
  ⟨none, some 21, .mv (.t 0)⟩,
  ⟨none, some 22, .mv (.t 1)⟩,
  ⟨none, some 23, .idx 2 (.t 21) (.t 22)⟩,
  ⟨none, some 24, .load true 2 (.t 23)⟩,
  ⟨none, some 25, .idx 2 (.t 13) (.t 14)⟩,
  ⟨none, none, .store 2 (.t 25) (.t 20)⟩,
  ⟨none, some 26, .idx 2 (.t 15) (.t 16)⟩,
  ⟨none, none, .store 2 (.t 26) (.t 24)⟩]
def r131_2 : List SO := [
  ⟨none, some 27, .mv (.t 1)⟩,
  ⟨none, some 28, .bin .add (.t 27) (.c (.int .i64 1))⟩,
  ⟨none, some 29, .mv (.t 2)⟩,
  ⟨none, some 30, .bin .sub (.t 29) (.c (.int .i64 1))⟩,
  ⟨none, some 11, .mv (.t 28)⟩,
  ⟨none, some 12, .mv (.t 30)⟩]
def r131_3 : List SO := [
  ⟨none, some 31, .mv (.t 11)⟩,
  ⟨none, some 32, .mv (.t 12)⟩,
  ⟨none, some 33, .bin .leq (.t 31) (.t 32)⟩,
  ⟨none, some 34, .mv (.t 33)⟩,
  ⟨some (34, true), some 35, .mv (.t 4)⟩,
  ⟨some (34, true), some 36, .mv (.t 0)⟩,
  ⟨some (34, true), some 37, .mv (.t 1)⟩,
  ⟨some (34, true), some 38, .idx 2 (.t 36) (.t 37)⟩,
  ⟨some (34, true), some 39, .load true 2 (.t 38)⟩,
  ⟨some (34, true), some 40, .mv (.t 0)⟩,
  ⟨some (34, true), some 41, .mv (.t 11)⟩,
  ⟨some (34, true), some 42, .idx 2 (.t 40) (.t 41)⟩,
  ⟨some (34, true), some 43, .load true 2 (.t 42)⟩,
  ⟨some (34, true), some 44, .callv false (.t 35) [.t 39, .t 43]⟩,
  ⟨some (34, true), some 45, .bin .lss (.t 44) (.c (.int .i64 0))⟩,
  ⟨some (34, true), some 46, .un .not (.t 45)⟩,
  ⟨none, some 47, .pick (.t 34) (.t 46) (.c (.bool false))⟩]
def r131_4 : List SO := [
  ⟨none, some 48, .mv (.t 11)⟩,
  ⟨none, some 49, .bin .add (.t 48) (.c (.int .i64 1))⟩,
  ⟨none, some 11, .mv (.t 49)⟩]
def b131_1 : SC := .seq (.seq (.reg r131_3) (.cond (.t 47) (.skip) (.exit 2))) (.block 3 (.reg r131_4))
def r131_5 : List SO := [
  ⟨none, some 50, .mv (.t 11)⟩,
  ⟨none, some 51, .mv (.t 12)⟩,
  ⟨none, some 52, .bin .leq (.t 50) (.t 51)⟩,
  ⟨none, some 53, .mv (.t 52)⟩,
  ⟨some (53, true), some 54, .mv (.t 4)⟩,
  ⟨some (53, true), some 55, .mv (.t 0)⟩,
  ⟨some (53, true), some 56, .mv (.t 1)⟩,
  ⟨some (53, true), some 57, .idx 2 (.t 55) (.t 56)⟩,
  ⟨some (53, true), some 58, .load true 2 (.t 57)⟩,
  ⟨some (53, true), some 59, .mv (.t 0)⟩,
  ⟨some (53, true), some 60, .mv (.t 12)⟩,
  ⟨some (53, true), some 61, .idx 2 (.t 59) (.t 60)⟩,
  ⟨some (53, true), some 62, .load true 2 (.t 61)⟩,
  ⟨some (53, true), some 63, .callv false (.t 54) [.t 58, .t 62]⟩,
  ⟨some (53, true), some 64, .bin .lss (.t 63) (.c (.int .i64 0))⟩,
  ⟨none, some 65, .pick (.t 53) (.t 64) (.c (.bool false))⟩]
def r131_6 : List SO := [
  ⟨none, some 66, .mv (.t 12)⟩,
  ⟨none, some 67, .bin .sub (.t 66) (.c (.int .i64 1))⟩,
  ⟨none, some 12, .mv (.t 67)⟩]
def b131_2 : SC := .seq (.seq (.reg r131_5) (.cond (.t 65) (.skip) (.exit 4))) (.block 5 (.reg r131_6))
def r131_7 : List SO := [
  ⟨none, some 68, .mv (.t 11)⟩,
  ⟨none, some 69, .mv (.t 12)⟩,
  ⟨none, some 70, .bin .gtr (.t 68) (.t 69)⟩]
def r131_8 : List SO := [
  ⟨none, some 71, .mv (.t 0)⟩,
  ⟨none, some 72, .mv (.t 11)⟩,
  ⟨none, some 73, .mv (.t 0)⟩,
  ⟨none, some 74, .mv (.t 12)⟩,
  ⟨none, some 75, .mv (.t 0)⟩,
  ⟨none, some 76, .mv (.t 12)⟩,
  ⟨none, some 77, .idx 2 (.t 75) (.t 76)⟩,
  ⟨none, some 78, .load true 2 (.t 77)⟩,
  ⟨none, some 79, .mv (.t 0)⟩,
  ⟨none, some 80, .mv (.t 11)⟩,
  ⟨none, some 81, .idx 2 (.t 79) (.t 80)⟩,
  ⟨none, some 82, .load true 2 (.t 81)⟩,
  ⟨none, some 83, .idx 2 (.t 71) (.t 72)⟩,
  ⟨none, none, .store 2 (.t 83) (.t 78)⟩,
  ⟨none, some 84, .idx 2 (.t 73) (.t 74)⟩,
  ⟨none, none, .store 2 (.t 84) (.t 82)⟩]
def r131_9 : List SO := [
  ⟨none, some 85, .mv (.t 11)⟩,
  ⟨none, some 86, .bin .add (.t 85) (.c (.int .i64 1))⟩,
  ⟨none, some 11, .mv (.t 86)⟩]
def r131_10 : List SO := [
  ⟨none, some 87, .mv (.t 12)⟩,
  ⟨none, some 88, .bin .sub (.t 87) (.c (.int .i64 1))⟩,
  ⟨none, some 12, .mv (.t 88)⟩]
def b131_0 : SC := .block 1 (.seq (.block 2 (.loop b131_1)) (.seq (.block 4 (.loop b131_2)) (.seq (.seq (.reg r131_7) (.cond (.t 70) (.exit 0) (.skip))) (.seq (.reg r131_8) (.seq (.reg r131_9) (.reg r131_10))))))
def r131_11 : List SO := [
  ⟨none, some 89, .mv (.t 11)⟩,
  ⟨none, some 10, .mv (.t 89)⟩]
def s131 : SF := ⟨90, [.tmp 10], .seq (.reg r131_0) (.seq (.reg r131_1) (.seq (.reg r131_2) (.seq (.block 0 (.loop b131_0)) (.seq (.reg r131_11) (.ret)))))⟩
theorem s131_ok : slimF Try.prog ⟨[94, 102, 103, 108, 109, 116, 119, 121, 125], []⟩ Try.f131 = some s131 := by kernel_rfl

end Go.Proofs.Ytngkckefanbhgaa

