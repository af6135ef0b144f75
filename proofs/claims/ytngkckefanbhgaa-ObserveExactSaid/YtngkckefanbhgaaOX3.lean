/- Contracts of the functions that the law OX reaches, and the law itself, for every input; no condition. -/
import Derived.KernelRfl
import Derived.Test.YtngkckefanbhgaaProg
import Derived.Test.YtngkckefanbhgaaRows
import Derived.Test.YtngkckefanbhgaaOX2
set_option linter.unusedSimpArgs false
set_option linter.unusedVariables false
namespace Go.Proofs.Ytngkckefanbhgaa
open Go Go.Proofs
theorem all_pure (o : Ob) (l : List Tr) (ho : OK o) : PureC Try.prog 73 [(V.agg [(iV (o.i)), (V.sl (List.map cT (o.tr)))]), (V.sl (List.map cT (l)))] (V.tup [(V.agg [(iV ((alO o l).i)), (V.sl (List.map cT ((alO o l).tr)))]), (iV ((alR o.i o.tr l).2))]) := by
 refine pure_of_Wb true 6 Try.func73 s73_ok (by kernel_rfl) (by simp [s73]) (by simp) (by simp) fun hB => ?_
 simp only [bnd_map, bnd_int, bnd_bool, bnd_str, bnd_agg, bnd_pp, bnd_nil, bnd_cons, implies_true, and_true, true_and] at hB
 unfold s73
 dsimp only
 have hbd : ∀ k, k < o.tr.length → (nth o.tr k).ni.length ≤ 1048576 ∧ (nth o.tr k).no.length ≤ 1048576 := fun k hk => by have := (ho.pr k hk).1.len; have := (ho.pr k hk).1.lel; omega
 have hol := ho.len
 refine W_seq_regc (fun T H => T 1 = (V.sl (List.map cT (l))) ∧ T 2 = (V.mp 2 1 0 0) ∧ T 4 = (V.mp 4 1 0 0) ∧ H 2 = (⟨1, true, false, 34, 2, [[(iV (o.i)), (V.sl (List.map cT (o.tr)))]]⟩ : Blk) ∧ H 4 = (⟨1, true, false, 34, 2, [[(iV (0 : Int)), V.nilsl]]⟩ : Blk) ∧ H 8 = (⟨0, false, false, 0, 0, []⟩ : Blk) ∧ H 205 = (⟨0, false, false, 0, 0, []⟩ : Blk) ∧ H 209 = (⟨0, false, false, 0, 0, []⟩ : Blk) ∧ H 303 = (⟨0, false, false, 0, 0, []⟩ : Blk) ∧ H 308 = (⟨0, false, false, 0, 0, []⟩ : Blk) ∧ H 354 = (⟨0, false, false, 0, 0, []⟩ : Blk) ∧ H 407 = (⟨0, false, false, 0, 0, []⟩ : Blk) ∧ True) ?_ ?_
 ·
  unfold r73_0
  refine R_box (i := 2) (n := 0) (m := 2) (cs := [(iV (o.i)), (V.sl (List.map cT (o.tr)))]) rfl (congrArg Blk.ver rfl) (@rfl V (V.agg [(iV (o.i)), (V.sl (List.map cT (o.tr)))])) rfl rfl ?_
  refine R_alloc (i := 4) (n := 0) (m := 2) rfl (congrArg Blk.ver rfl) rfl ?_
  refine R_mv (@rfl V (iV (0 : Int))) ?_
  exact R_nil ⟨rfl, rfl, rfl, rfl, rfl, rfl, rfl, rfl, rfl, rfl, rfl, rfl, trivial⟩
 intro T H ⟨t1, t2, t4, h2, h4, h8, h205, h209, h303, h308, h354, h407, _⟩
 refine W_seq_regc (fun T H => T 1 = (V.sl (List.map cT (l))) ∧ T 2 = (V.mp 2 1 0 0) ∧ T 4 = (V.mp 4 1 0 0) ∧ T 6 = (V.ms 209 (0 + 1 + o.tr.length) 0 (o.tr.length)) ∧ H 2 = (⟨1, true, false, 34, 2, [[(iV (o.i)), (V.sl (List.map cT (o.tr)))]]⟩ : Blk) ∧ H 4 = (⟨1, true, false, 34, 2, [[(iV (0 : Int)), V.nilsl]]⟩ : Blk) ∧ H 8 = (⟨0, false, false, 0, 0, []⟩ : Blk) ∧ H 205 = (⟨0 + o.tr.length, false, false, 0, 0, []⟩ : Blk) ∧ H 209 = (⟨0 + 1 + o.tr.length, true, false, 63, 2, (List.map cT (o.tr))⟩ : Blk) ∧ H 303 = (⟨0, false, false, 0, 0, []⟩ : Blk) ∧ H 308 = (⟨0, false, false, 0, 0, []⟩ : Blk) ∧ H 354 = (⟨0, false, false, 0, 0, []⟩ : Blk) ∧ H 407 = (⟨0, false, false, 0, 0, []⟩ : Blk) ∧ True) ?_ ?_
 ·
  unfold r73_1
  refine R_fld_mp (o' := 1) t2 h2 (by first | rfl | simp [okB, Blk.own]) rfl ?_
  refine R_load_mp (v := (V.sl (List.map cT (o.tr)))) (@rfl V (V.mp 2 1 0 1)) h2 (by first | rfl | simp [ldB, ldV, Blk.own, V.one]) ?_
  refine R_callE (evcons (@rfl V (V.sl (List.map cT (o.tr)))) evnil) (owned_E o.tr 0 0 hbd _ (congrArg Blk.ver h205) (congrArg Blk.ver h209) (by omega)) ?_
  refine R_mv (@rfl V (V.ms 209 (0 + 1 + o.tr.length) 0 (o.tr.length))) ?_
  exact R_nil ⟨t1, t2, t4, rfl, h2, h4, h8, rfl, rfl, h303, h308, h354, h407, trivial⟩
 intro T H ⟨t1, t2, t4, t6, h2, h4, h8, h205, h209, h303, h308, h354, h407, _⟩
 refine W_seq_seq ?_
 refine W_seq_regc (fun T H => T 2 = (V.mp 2 1 0 0) ∧ T 4 = (V.mp 4 1 0 0) ∧ T 6 = (V.ms 209 (0 + 1 + o.tr.length) 0 (o.tr.length)) ∧ T 15 = (V.sl (List.map cT (l))) ∧ T 16 = (iV ((l.length : Nat) : Int)) ∧ T 17 = (iV (0 : Int)) ∧ H 2 = (⟨1, true, false, 34, 2, [[(iV (o.i)), (V.sl (List.map cT (o.tr)))]]⟩ : Blk) ∧ H 4 = (⟨1, true, false, 34, 2, [[(iV (0 : Int)), V.nilsl]]⟩ : Blk) ∧ H 8 = (⟨0, false, false, 0, 0, []⟩ : Blk) ∧ H 205 = (⟨0 + o.tr.length, false, false, 0, 0, []⟩ : Blk) ∧ H 209 = (⟨0 + 1 + o.tr.length, true, false, 63, 2, (List.map cT (o.tr))⟩ : Blk) ∧ H 303 = (⟨0, false, false, 0, 0, []⟩ : Blk) ∧ H 308 = (⟨0, false, false, 0, 0, []⟩ : Blk) ∧ H 354 = (⟨0, false, false, 0, 0, []⟩ : Blk) ∧ H 407 = (⟨0, false, false, 0, 0, []⟩ : Blk) ∧ True) ?_ ?_
 ·
  unfold r73_2
  refine R_mv t1 ?_
  refine R_len (@rfl V (V.sl (List.map cT (l)))) ?_
  refine R_mv (@rfl V (iV (0 : Int))) ?_
  exact R_nil ⟨t2, t4, t6, rfl, rfl, rfl, h2, h4, h8, h205, h209, h303, h308, h354, h407, trivial⟩
 intro T H ⟨t2, t4, t6, t15, t16, t17, h2, h4, h8, h205, h209, h303, h308, h354, h407, _⟩
 refine W_seq_blockg fun Q1 n1 x1 y1 z1 => ?_
 refine W_loop (fun mm T H => ∃ (k : Nat) (w : Nat) (acc : List Tr) (v8 : Nat) (v303 : Nat) (v308 : Nat) (v354 : Nat) (v407 : Nat), mm = l.length - k ∧ T 2 = (V.mp 2 1 0 0) ∧ T 4 = (V.mp 4 1 0 0) ∧ T 6 = (V.ms 209 w 0 (acc.length)) ∧ T 15 = (V.sl (List.map cT (l))) ∧ T 16 = (iV ((l.length : Nat) : Int)) ∧ T 17 = (iV ((k : Nat) : Int)) ∧ H 2 = (⟨1, true, false, 34, 2, [[(iV (o.i)), (V.sl (List.map cT (o.tr)))]]⟩ : Blk) ∧ H 4 = (⟨1, true, false, 34, 2, [[(iV (0 : Int)), V.nilsl]]⟩ : Blk) ∧ (H 8).ver = v8 ∧ H 205 = (⟨0 + o.tr.length, false, false, 0, 0, []⟩ : Blk) ∧ H 209 = (⟨w, true, false, 63, 2, (List.map cT (acc))⟩ : Blk) ∧ (H 303).ver = v303 ∧ (H 308).ver = v308 ∧ (H 354).ver = v354 ∧ (H 407).ver = v407 ∧ (k ≤ l.length) ∧ (alR o.i o.tr l = alR o.i acc (l.drop k)) ∧ (OK ⟨o.i, acc⟩)) ?_ ?_
 ·
  refine ⟨_, 0, (0 + 1 + o.tr.length), o.tr, 0, 0, 0, 0, 0, rfl, t2, t4, (Eq.trans t6 (by first | rfl | simp)), t15, t16, (Eq.trans t17 (by first | rfl | simp)), h2, h4, (congrArg Blk.ver h8), h205, (Eq.trans h209 (by first | rfl | simp)), (congrArg Blk.ver h303), (congrArg Blk.ver h308), (congrArg Blk.ver h354), (congrArg Blk.ver h407), ?_, ?_, ?_⟩
  · omega
  · rfl
  · exact ho
 intro mm T H ⟨k, w, acc, v8, v303, v308, v354, v407, hmm, t2, t4, t6, t15, t16, t17, h2, h4, h8, h205, h209, h303, h308, h354, h407, hk, hc, hok⟩ Q2 p12 p22 p32
 unfold b73_0
 refine W_seq_regc (fun T H => T 2 = (V.mp 2 1 0 0) ∧ T 4 = (V.mp 4 1 0 0) ∧ T 6 = (V.ms 209 w 0 (acc.length)) ∧ T 15 = (V.sl (List.map cT (l))) ∧ T 16 = (iV ((l.length : Nat) : Int)) ∧ T 17 = (iV ((k : Nat) : Int)) ∧ T 18 = (V.bool (decide (((k : Nat) : Int) < ((l.length : Nat) : Int)))) ∧ H 2 = (⟨1, true, false, 34, 2, [[(iV (o.i)), (V.sl (List.map cT (o.tr)))]]⟩ : Blk) ∧ H 4 = (⟨1, true, false, 34, 2, [[(iV (0 : Int)), V.nilsl]]⟩ : Blk) ∧ (H 8).ver = v8 ∧ H 205 = (⟨0 + o.tr.length, false, false, 0, 0, []⟩ : Blk) ∧ H 209 = (⟨w, true, false, 63, 2, (List.map cT (acc))⟩ : Blk) ∧ (H 303).ver = v303 ∧ (H 308).ver = v308 ∧ (H 354).ver = v354 ∧ (H 407).ver = v407 ∧ True) ?_ ?_
 ·
  unfold r73_3
  refine R_lss (x := ((k : Nat) : Int)) (y := ((l.length : Nat) : Int)) t17 t16 ?_
  exact R_nil ⟨t2, t4, t6, t15, t16, t17, rfl, h2, h4, h8, h205, h209, h303, h308, h354, h407, trivial⟩
 intro T H ⟨t2, t4, t6, t15, t16, t17, t18, h2, h4, h8, h205, h209, h303, h308, h354, h407, _⟩
 refine W_seq_if (p := ((k : Nat) : Int) < ((l.length : Nat) : Int)) t18 (fun c3 => ?_) (fun c3 => ?_)
 ·
  refine W_seq_skip ?_
  refine W_seq_blockg fun Q4 n4 x4 y4 z4 => ?_
  refine W_seq_regc (fun T H => T 2 = (V.mp 2 1 0 0) ∧ T 4 = (V.mp 4 1 0 0) ∧ T 6 = (V.ms 209 w 0 (acc.length)) ∧ T 8 = (V.mp 8 (v8 + 1) 0 0) ∧ T 15 = (V.sl (List.map cT (l))) ∧ T 16 = (iV ((l.length : Nat) : Int)) ∧ T 17 = (iV ((k : Nat) : Int)) ∧ H 2 = (⟨1, true, false, 34, 2, [[(iV (o.i)), (V.sl (List.map cT (o.tr)))]]⟩ : Blk) ∧ H 4 = (⟨1, true, false, 34, 2, [[(iV (0 : Int)), V.nilsl]]⟩ : Blk) ∧ H 8 = (⟨v8 + 1, true, false, 63, 2, [[(V.sl (List.map cI ((nth (l) (k)).ni))), (V.sl (List.map cI ((nth (l) (k)).no)))]]⟩ : Blk) ∧ H 205 = (⟨0 + o.tr.length, false, false, 0, 0, []⟩ : Blk) ∧ H 209 = (⟨w, true, false, 63, 2, (List.map cT (acc))⟩ : Blk) ∧ (H 303).ver = v303 ∧ (H 308).ver = v308 ∧ (H 354).ver = v354 ∧ (H 407).ver = v407 ∧ True) ?_ ?_
  ·
   unfold r73_4
   refine R_idx (i := k) t15 t17 (by omega) rfl ?_
   refine R_load_pp (v := (V.agg [(V.sl (List.map cI ((nth (l) (k)).ni))), (V.sl (List.map cI ((nth (l) (k)).no)))])) (@rfl V (V.pp [(V.sl (List.map cI ((nth (l) (k)).ni))), (V.sl (List.map cI ((nth (l) (k)).no)))])) (by first | rfl | simp [ldV]) ?_
   refine R_alloc (i := 8) (n := v8) (m := 2) rfl h8 rfl ?_
   refine R_store (vs := [(V.sl (List.map cI ((nth (l) (k)).ni))), (V.sl (List.map cI ((nth (l) (k)).no)))]) (B' := (⟨v8 + 1, true, false, 63, 2, [[(V.sl (List.map cI ((nth (l) (k)).ni))), (V.sl (List.map cI ((nth (l) (k)).no)))]]⟩ : Blk)) (@rfl V (V.mp 8 (v8 + 1) 0 0)) (@rfl V (V.agg [(V.sl (List.map cI ((nth (l) (k)).ni))), (V.sl (List.map cI ((nth (l) (k)).no)))])) rfl (@rfl Blk (⟨v8 + 1, true, false, 63, 2, [[V.nilsl, V.nilsl]]⟩ : Blk)) (by first | rfl | simp [stB, okB, Blk.own, putAt, V.one]) ?_
   exact R_nil ⟨t2, t4, t6, rfl, t15, t16, t17, h2, h4, rfl, h205, h209, h303, h308, h354, h407, trivial⟩
  intro T H ⟨t2, t4, t6, t8, t15, t16, t17, h2, h4, h8, h205, h209, h303, h308, h354, h407, _⟩
  refine W_seq_seq ?_
  refine W_seq_regc (fun T H => T 2 = (V.mp 2 1 0 0) ∧ T 4 = (V.mp 4 1 0 0) ∧ T 6 = (V.ms 209 w 0 (acc.length)) ∧ T 8 = (V.mp 8 (v8 + 1) 0 0) ∧ T 9 = (iV (prE ((nth (l) (k))) ((o.i)))) ∧ T 15 = (V.sl (List.map cT (l))) ∧ T 16 = (iV ((l.length : Nat) : Int)) ∧ T 17 = (iV ((k : Nat) : Int)) ∧ H 2 = (⟨1, true, false, 34, 2, [[(iV (o.i)), (V.sl (List.map cT (o.tr)))]]⟩ : Blk) ∧ H 4 = (⟨1, true, false, 34, 2, [[(iV (0 : Int)), V.nilsl]]⟩ : Blk) ∧ H 8 = (⟨v8 + 1, true, false, 63, 2, [[(V.sl (List.map cI ((nth (l) (k)).ni))), (V.sl (List.map cI ((nth (l) (k)).no)))]]⟩ : Blk) ∧ H 205 = (⟨0 + o.tr.length, false, false, 0, 0, []⟩ : Blk) ∧ H 209 = (⟨w, true, false, 63, 2, (List.map cT (acc))⟩ : Blk) ∧ (H 303).ver = v303 ∧ (H 308).ver = v308 ∧ (H 354).ver = v354 ∧ (H 407).ver = v407 ∧ True) ?_ ?_
  ·
   unfold r73_5
   refine R_load_mp (v := (V.agg [(V.sl (List.map cI ((nth (l) (k)).ni))), (V.sl (List.map cI ((nth (l) (k)).no)))])) t8 h8 (by first | rfl | simp [ldB, ldV, Blk.own, V.one]) ?_
   refine R_fld_mp (o' := 0) t2 h2 (by first | rfl | simp [okB, Blk.own]) rfl ?_
   refine R_load_mp (v := (iV (o.i))) (@rfl V (V.mp 2 1 0 0)) h2 (by first | rfl | simp [ldB, ldV, Blk.own, V.one]) ?_
   refine R_call (evcons (@rfl V (V.agg [(V.sl (List.map cI ((nth (l) (k)).ni))), (V.sl (List.map cI ((nth (l) (k)).no)))])) (evcons (@rfl V (iV (o.i))) evnil)) (proper_pure ((nth (l) (k))) ((o.i))) (fzv_mapcanon _ _ (by simp [-List.map_take, -List.map_drop, -List.map_append, -List.map_reverse])) (by simp [-List.map_take, -List.map_drop, -List.map_append, -List.map_reverse]) (Or.inl (by simp [-List.map_take, -List.map_drop, -List.map_append, -List.map_reverse])) ?_
   refine R_mv (@rfl V (iV (prE ((nth (l) (k))) ((o.i))))) ?_
   exact R_nil ⟨t2, t4, t6, t8, rfl, t15, t16, t17, h2, h4, h8, h205, h209, h303, h308, h354, h407, trivial⟩
  intro T H ⟨t2, t4, t6, t8, t9, t15, t16, t17, h2, h4, h8, h205, h209, h303, h308, h354, h407, _⟩
  refine W_seq_seq ?_
  refine W_seq_regc (fun T H => T 2 = (V.mp 2 1 0 0) ∧ T 4 = (V.mp 4 1 0 0) ∧ T 6 = (V.ms 209 w 0 (acc.length)) ∧ T 8 = (V.mp 8 (v8 + 1) 0 0) ∧ T 9 = (iV (prE ((nth (l) (k))) ((o.i)))) ∧ T 15 = (V.sl (List.map cT (l))) ∧ T 16 = (iV ((l.length : Nat) : Int)) ∧ T 17 = (iV ((k : Nat) : Int)) ∧ T 26 = (V.bool (decide ((prE ((nth (l) (k))) ((o.i))) ≠ (0 : Int)))) ∧ H 2 = (⟨1, true, false, 34, 2, [[(iV (o.i)), (V.sl (List.map cT (o.tr)))]]⟩ : Blk) ∧ H 4 = (⟨1, true, false, 34, 2, [[(iV (0 : Int)), V.nilsl]]⟩ : Blk) ∧ H 8 = (⟨v8 + 1, true, false, 63, 2, [[(V.sl (List.map cI ((nth (l) (k)).ni))), (V.sl (List.map cI ((nth (l) (k)).no)))]]⟩ : Blk) ∧ H 205 = (⟨0 + o.tr.length, false, false, 0, 0, []⟩ : Blk) ∧ H 209 = (⟨w, true, false, 63, 2, (List.map cT (acc))⟩ : Blk) ∧ (H 303).ver = v303 ∧ (H 308).ver = v308 ∧ (H 354).ver = v354 ∧ (H 407).ver = v407 ∧ True) ?_ ?_
  ·
   unfold r73_6
   refine R_mv t9 ?_
   refine R_neq (x := (prE ((nth (l) (k))) ((o.i)))) (y := (0 : Int)) (@rfl V (iV (prE ((nth (l) (k))) ((o.i))))) (@rfl V (iV (0 : Int))) ?_
   exact R_nil ⟨t2, t4, t6, t8, t9, t15, t16, t17, rfl, h2, h4, h8, h205, h209, h303, h308, h354, h407, trivial⟩
  intro T H ⟨t2, t4, t6, t8, t9, t15, t16, t17, t26, h2, h4, h8, h205, h209, h303, h308, h354, h407, _⟩
  refine W_seq_if (p := (prE ((nth (l) (k))) ((o.i))) ≠ (0 : Int)) t26 (fun c5 => ?_) (fun c5 => ?_)
  ·
   have d1 := c5
   refine W_seq_seq ?_
   refine W_seq_regc (fun T H => T 4 = (V.mp 4 1 0 0) ∧ T 5 = (iV (prE ((nth (l) (k))) ((o.i)))) ∧ H 2 = (⟨1, true, false, 34, 2, [[(iV (o.i)), (V.sl (List.map cT (o.tr)))]]⟩ : Blk) ∧ H 4 = (⟨1, true, false, 34, 2, [[(iV (o.i)), (V.sl (List.map cT (o.tr)))]]⟩ : Blk) ∧ H 8 = (⟨v8 + 1, true, false, 63, 2, [[(V.sl (List.map cI ((nth (l) (k)).ni))), (V.sl (List.map cI ((nth (l) (k)).no)))]]⟩ : Blk) ∧ H 205 = (⟨0 + o.tr.length, false, false, 0, 0, []⟩ : Blk) ∧ H 209 = (⟨w, true, false, 63, 2, (List.map cT (acc))⟩ : Blk) ∧ (H 303).ver = v303 ∧ (H 308).ver = v308 ∧ (H 354).ver = v354 ∧ (H 407).ver = v407 ∧ True) ?_ ?_
   ·
    unfold r73_7
    refine R_load_mp (v := (V.agg [(iV (o.i)), (V.sl (List.map cT (o.tr)))])) t2 h2 (by first | rfl | simp [ldB, ldV, Blk.own, V.one]) ?_
    refine R_mv t9 ?_
    refine R_store (vs := [(iV (o.i)), (V.sl (List.map cT (o.tr)))]) (B' := (⟨1, true, false, 34, 2, [[(iV (o.i)), (V.sl (List.map cT (o.tr)))]]⟩ : Blk)) t4 (@rfl V (V.agg [(iV (o.i)), (V.sl (List.map cT (o.tr)))])) rfl h4 (by first | rfl | simp [stB, okB, Blk.own, putAt, V.one]) ?_
    refine R_mv (@rfl V (iV (prE ((nth (l) (k))) ((o.i))))) ?_
    exact R_nil ⟨t4, rfl, h2, rfl, h8, h205, h209, h303, h308, h354, h407, trivial⟩
   intro T H ⟨t4, t5, h2, h4, h8, h205, h209, h303, h308, h354, h407, _⟩
   refine W_seq_ret ?_
   refine y4 _ _ ?_
   refine p22 _ _ ?_
   refine y1 _ _ ?_
   refine RetC_2 (resV_c (u := (V.agg [(iV (o.i)), (V.sl (List.map cT (o.tr)))])) t4 h4 (by first | rfl | simp [ldB, ldV, Blk.own, V.one])) (resV_t t5) (fz_agg2 (fz_int ?_) (fz_sl ?_ (fun _ => by simp))) (fz_int ?_)
   · rw [alO_i]
   · unfold alO; rw [if_pos (by rw [hc, alR_pr (by omega) d1]; exact d1)]
   · rw [hc, alR_pr (by omega) d1]
  have d1 : prE (nth l k) o.i = 0 := by omega
  refine W_seq_skip ?_
  refine W_seq_reg fun K hK => ?_
  unfold r73_8
  refine R_mv t6 ?_
  refine R_load_mp (v := (V.agg [(V.sl (List.map cI ((nth (l) (k)).ni))), (V.sl (List.map cI ((nth (l) (k)).no)))])) t8 h8 (by first | rfl | simp [ldB, ldV, Blk.own, V.one]) ?_
  by_cases heF : addE acc ((nth (l) (k))) = 0
  ·
   refine R_callE (evcons (@rfl V (V.ms 209 w 0 (acc.length))) (evcons (@rfl V (V.agg [(V.sl (List.map cI ((nth (l) (k)).ni))), (V.sl (List.map cI ((nth (l) (k)).no)))])) evnil)) (add_ok_E acc ((nth (l) (k))) _ w v303 v308 v354 v407 hok d1 heF _ h209 h303 h308 h354 h407) ?_
   refine R_mv (@rfl V (V.tup [(V.ms 209 (w + 2) 0 ((addL acc ((nth (l) (k)))).length)), (iV (addE acc ((nth (l) (k)))))])) ?_
   refine R_ext (v := (V.ms 209 (w + 2) 0 ((addL acc ((nth (l) (k)))).length))) (@rfl V (V.tup [(V.ms 209 (w + 2) 0 ((addL acc ((nth (l) (k)))).length)), (iV (addE acc ((nth (l) (k)))))])) rfl ?_
   refine R_ext (v := (iV (addE acc ((nth (l) (k)))))) (@rfl V (V.tup [(V.ms 209 (w + 2) 0 ((addL acc ((nth (l) (k)))).length)), (iV (addE acc ((nth (l) (k)))))])) rfl ?_
   refine R_mv (@rfl V (V.ms 209 (w + 2) 0 ((addL acc ((nth (l) (k)))).length))) ?_
   refine R_mv (@rfl V (iV (addE acc ((nth (l) (k)))))) ?_
   refine R_nil (hK _ _ ?_); clear hK K
   refine fork_ (R := fun T H => T 2 = (V.mp 2 1 0 0) ∧ T 4 = (V.mp 4 1 0 0) ∧ T 10 = (V.ms 209 (w + 2) 0 ((addL acc ((nth (l) (k)))).length)) ∧ T 11 = (iV (addE acc ((nth (l) (k))))) ∧ T 15 = (V.sl (List.map cT (l))) ∧ T 16 = (iV ((l.length : Nat) : Int)) ∧ T 17 = (iV ((k : Nat) : Int)) ∧ H 2 = (⟨1, true, false, 34, 2, [[(iV (o.i)), (V.sl (List.map cT (o.tr)))]]⟩ : Blk) ∧ H 4 = (⟨1, true, false, 34, 2, [[(iV (0 : Int)), V.nilsl]]⟩ : Blk) ∧ H 8 = (⟨v8 + 1, true, false, 63, 2, [[(V.sl (List.map cI ((nth (l) (k)).ni))), (V.sl (List.map cI ((nth (l) (k)).no)))]]⟩ : Blk) ∧ H 205 = (⟨0 + o.tr.length, false, false, 0, 0, []⟩ : Blk) ∧ H 209 = (⟨w + 2, true, false, 63, 2, (List.map cT (addL acc ((nth (l) (k)))))⟩ : Blk) ∧ H 303 = (⟨v303 + 1, false, false, 0, 0, []⟩ : Blk) ∧ H 308 = (⟨v308 + acc.length, false, false, 0, 0, []⟩ : Blk) ∧ H 354 = (⟨v354 + 1, false, false, 0, 0, []⟩ : Blk) ∧ H 407 = (⟨v407 + acc.length, false, false, 0, 0, []⟩ : Blk) ∧ True) ⟨t2, t4, rfl, rfl, t15, t16, t17, h2, h4, h8, h205, rfl, rfl, rfl, rfl, rfl, trivial⟩ ?_
   intro T H ⟨t2, t4, t10, t11, t15, t16, t17, h2, h4, h8, h205, h209, h303, h308, h354, h407, _⟩
   refine W_seq_seq ?_
   refine W_seq_regc (fun T H => T 2 = (V.mp 2 1 0 0) ∧ T 4 = (V.mp 4 1 0 0) ∧ T 10 = (V.ms 209 (w + 2) 0 ((addL acc ((nth (l) (k)))).length)) ∧ T 11 = (iV (addE acc ((nth (l) (k))))) ∧ T 15 = (V.sl (List.map cT (l))) ∧ T 16 = (iV ((l.length : Nat) : Int)) ∧ T 17 = (iV ((k : Nat) : Int)) ∧ T 36 = (V.bool (decide ((addE acc ((nth (l) (k)))) ≠ (0 : Int)))) ∧ H 2 = (⟨1, true, false, 34, 2, [[(iV (o.i)), (V.sl (List.map cT (o.tr)))]]⟩ : Blk) ∧ H 4 = (⟨1, true, false, 34, 2, [[(iV (0 : Int)), V.nilsl]]⟩ : Blk) ∧ H 8 = (⟨v8 + 1, true, false, 63, 2, [[(V.sl (List.map cI ((nth (l) (k)).ni))), (V.sl (List.map cI ((nth (l) (k)).no)))]]⟩ : Blk) ∧ H 205 = (⟨0 + o.tr.length, false, false, 0, 0, []⟩ : Blk) ∧ H 209 = (⟨w + 2, true, false, 63, 2, (List.map cT (addL acc ((nth (l) (k)))))⟩ : Blk) ∧ H 303 = (⟨v303 + 1, false, false, 0, 0, []⟩ : Blk) ∧ H 308 = (⟨v308 + acc.length, false, false, 0, 0, []⟩ : Blk) ∧ H 354 = (⟨v354 + 1, false, false, 0, 0, []⟩ : Blk) ∧ H 407 = (⟨v407 + acc.length, false, false, 0, 0, []⟩ : Blk) ∧ True) ?_ ?_
   ·
    unfold r73_9
    refine R_mv t11 ?_
    refine R_neq (x := (addE acc ((nth (l) (k))))) (y := (0 : Int)) (@rfl V (iV (addE acc ((nth (l) (k)))))) (@rfl V (iV (0 : Int))) ?_
    exact R_nil ⟨t2, t4, t10, t11, t15, t16, t17, rfl, h2, h4, h8, h205, h209, h303, h308, h354, h407, trivial⟩
   intro T H ⟨t2, t4, t10, t11, t15, t16, t17, t36, h2, h4, h8, h205, h209, h303, h308, h354, h407, _⟩
   refine W_seq_if (p := (addE acc ((nth (l) (k)))) ≠ (0 : Int)) t36 (fun c8 => ?_) (fun c8 => ?_)
   · exact ((fun (e : (addE acc ((nth (l) (k)))) ≠ (0 : Int)) => e heF) c8).elim
   refine W_seq_skip ?_
   refine W_regc (fun T H => T 2 = (V.mp 2 1 0 0) ∧ T 4 = (V.mp 4 1 0 0) ∧ T 6 = (V.ms 209 (w + 2) 0 ((addL acc ((nth (l) (k)))).length)) ∧ T 15 = (V.sl (List.map cT (l))) ∧ T 16 = (iV ((l.length : Nat) : Int)) ∧ T 17 = (iV ((k : Nat) : Int)) ∧ H 2 = (⟨1, true, false, 34, 2, [[(iV (o.i)), (V.sl (List.map cT (o.tr)))]]⟩ : Blk) ∧ H 4 = (⟨1, true, false, 34, 2, [[(iV (0 : Int)), V.nilsl]]⟩ : Blk) ∧ H 8 = (⟨v8 + 1, true, false, 63, 2, [[(V.sl (List.map cI ((nth (l) (k)).ni))), (V.sl (List.map cI ((nth (l) (k)).no)))]]⟩ : Blk) ∧ H 205 = (⟨0 + o.tr.length, false, false, 0, 0, []⟩ : Blk) ∧ H 209 = (⟨w + 2, true, false, 63, 2, (List.map cT (addL acc ((nth (l) (k)))))⟩ : Blk) ∧ H 303 = (⟨v303 + 1, false, false, 0, 0, []⟩ : Blk) ∧ H 308 = (⟨v308 + acc.length, false, false, 0, 0, []⟩ : Blk) ∧ H 354 = (⟨v354 + 1, false, false, 0, 0, []⟩ : Blk) ∧ H 407 = (⟨v407 + acc.length, false, false, 0, 0, []⟩ : Blk) ∧ True) ?_ ?_
   ·
    unfold r73_11
    refine R_mv t10 ?_
    refine R_mv (@rfl V (V.ms 209 (w + 2) 0 ((addL acc ((nth (l) (k)))).length))) ?_
    exact R_nil ⟨t2, t4, rfl, t15, t16, t17, h2, h4, h8, h205, h209, h303, h308, h354, h407, trivial⟩
   intro T H ⟨t2, t4, t6, t15, t16, t17, h2, h4, h8, h205, h209, h303, h308, h354, h407, _⟩
   refine n4 _ _ ?_
   refine .done ?_
   refine W_regc (fun T H => T 2 = (V.mp 2 1 0 0) ∧ T 4 = (V.mp 4 1 0 0) ∧ T 6 = (V.ms 209 (w + 2) 0 ((addL acc ((nth (l) (k)))).length)) ∧ T 15 = (V.sl (List.map cT (l))) ∧ T 16 = (iV ((l.length : Nat) : Int)) ∧ T 17 = (iV ((k + 1 : Nat) : Int)) ∧ H 2 = (⟨1, true, false, 34, 2, [[(iV (o.i)), (V.sl (List.map cT (o.tr)))]]⟩ : Blk) ∧ H 4 = (⟨1, true, false, 34, 2, [[(iV (0 : Int)), V.nilsl]]⟩ : Blk) ∧ H 8 = (⟨v8 + 1, true, false, 63, 2, [[(V.sl (List.map cI ((nth (l) (k)).ni))), (V.sl (List.map cI ((nth (l) (k)).no)))]]⟩ : Blk) ∧ H 205 = (⟨0 + o.tr.length, false, false, 0, 0, []⟩ : Blk) ∧ H 209 = (⟨w + 2, true, false, 63, 2, (List.map cT (addL acc ((nth (l) (k)))))⟩ : Blk) ∧ H 303 = (⟨v303 + 1, false, false, 0, 0, []⟩ : Blk) ∧ H 308 = (⟨v308 + acc.length, false, false, 0, 0, []⟩ : Blk) ∧ H 354 = (⟨v354 + 1, false, false, 0, 0, []⟩ : Blk) ∧ H 407 = (⟨v407 + acc.length, false, false, 0, 0, []⟩ : Blk) ∧ True) ?_ ?_
   ·
    unfold r73_12
    refine R_addN (m := k) (n := 1) t17 (@rfl V (iV ((1 : Nat) : Int))) (by omega) ?_
    refine R_mv (@rfl V (iV ((k + 1 : Nat) : Int))) ?_
    exact R_nil ⟨t2, t4, t6, t15, t16, rfl, h2, h4, h8, h205, h209, h303, h308, h354, h407, trivial⟩
   intro T H ⟨t2, t4, t6, t15, t16, t17, h2, h4, h8, h205, h209, h303, h308, h354, h407, _⟩
   refine p12 _ _ _ ?_ ⟨(k + 1), (w + 2), (addL acc ((nth (l) (k)))), (v8 + 1), (v303 + 1), (v308 + acc.length), (v354 + 1), (v407 + acc.length), rfl, t2, t4, (Eq.trans t6 (by first | rfl | simp)), t15, t16, (Eq.trans t17 (by first | rfl | simp)), h2, h4, (congrArg Blk.ver h8), h205, (Eq.trans h209 (by first | rfl | simp)), (congrArg Blk.ver h303), (congrArg Blk.ver h308), (congrArg Blk.ver h354), (congrArg Blk.ver h407), ?_, ?_, ?_⟩
   · omega
   · omega
   · rw [hc, alR_go (by omega) d1 heF]
   · exact add_ok hok d1 heF
  ·
   refine R_callE (evcons (@rfl V (V.ms 209 w 0 (acc.length))) (evcons (@rfl V (V.agg [(V.sl (List.map cI ((nth (l) (k)).ni))), (V.sl (List.map cI ((nth (l) (k)).no)))])) evnil)) (add_err_E acc ((nth (l) (k))) _ w v303 v308 v354 v407 hok d1 heF _ h209 h303 h308 h354 h407) ?_
   refine R_mv (@rfl V (V.tup [(V.sl []), (iV (addE acc ((nth (l) (k)))))])) ?_
   refine R_ext (v := (V.sl [])) (@rfl V (V.tup [(V.sl []), (iV (addE acc ((nth (l) (k)))))])) rfl ?_
   refine R_ext (v := (iV (addE acc ((nth (l) (k)))))) (@rfl V (V.tup [(V.sl []), (iV (addE acc ((nth (l) (k)))))])) rfl ?_
   refine R_mv (@rfl V (V.sl [])) ?_
   refine R_mv (@rfl V (iV (addE acc ((nth (l) (k)))))) ?_
   refine R_nil (hK _ _ ?_); clear hK K
   refine fork_ (R := fun T H => T 2 = (V.mp 2 1 0 0) ∧ T 4 = (V.mp 4 1 0 0) ∧ T 10 = (V.sl []) ∧ T 11 = (iV (addE acc ((nth (l) (k))))) ∧ T 15 = (V.sl (List.map cT (l))) ∧ T 16 = (iV ((l.length : Nat) : Int)) ∧ T 17 = (iV ((k : Nat) : Int)) ∧ H 2 = (⟨1, true, false, 34, 2, [[(iV (o.i)), (V.sl (List.map cT (o.tr)))]]⟩ : Blk) ∧ H 4 = (⟨1, true, false, 34, 2, [[(iV (0 : Int)), V.nilsl]]⟩ : Blk) ∧ H 8 = (⟨v8 + 1, true, false, 63, 2, [[(V.sl (List.map cI ((nth (l) (k)).ni))), (V.sl (List.map cI ((nth (l) (k)).no)))]]⟩ : Blk) ∧ H 205 = (⟨0 + o.tr.length, false, false, 0, 0, []⟩ : Blk) ∧ H 209 = (⟨w + 2, false, false, 0, 0, []⟩ : Blk) ∧ H 303 = (⟨v303 + 1, false, false, 0, 0, []⟩ : Blk) ∧ H 308 = (⟨v308 + acc.length, false, false, 0, 0, []⟩ : Blk) ∧ H 354 = (⟨v354 + 1, false, false, 0, 0, []⟩ : Blk) ∧ H 407 = (⟨v407 + acc.length, false, false, 0, 0, []⟩ : Blk) ∧ True) ⟨t2, t4, rfl, rfl, t15, t16, t17, h2, h4, h8, h205, rfl, rfl, rfl, rfl, rfl, trivial⟩ ?_
   intro T H ⟨t2, t4, t10, t11, t15, t16, t17, h2, h4, h8, h205, h209, h303, h308, h354, h407, _⟩
   refine W_seq_seq ?_
   refine W_seq_regc (fun T H => T 2 = (V.mp 2 1 0 0) ∧ T 4 = (V.mp 4 1 0 0) ∧ T 10 = (V.sl []) ∧ T 11 = (iV (addE acc ((nth (l) (k))))) ∧ T 15 = (V.sl (List.map cT (l))) ∧ T 16 = (iV ((l.length : Nat) : Int)) ∧ T 17 = (iV ((k : Nat) : Int)) ∧ T 36 = (V.bool (decide ((addE acc ((nth (l) (k)))) ≠ (0 : Int)))) ∧ H 2 = (⟨1, true, false, 34, 2, [[(iV (o.i)), (V.sl (List.map cT (o.tr)))]]⟩ : Blk) ∧ H 4 = (⟨1, true, false, 34, 2, [[(iV (0 : Int)), V.nilsl]]⟩ : Blk) ∧ H 8 = (⟨v8 + 1, true, false, 63, 2, [[(V.sl (List.map cI ((nth (l) (k)).ni))), (V.sl (List.map cI ((nth (l) (k)).no)))]]⟩ : Blk) ∧ H 205 = (⟨0 + o.tr.length, false, false, 0, 0, []⟩ : Blk) ∧ H 209 = (⟨w + 2, false, false, 0, 0, []⟩ : Blk) ∧ H 303 = (⟨v303 + 1, false, false, 0, 0, []⟩ : Blk) ∧ H 308 = (⟨v308 + acc.length, false, false, 0, 0, []⟩ : Blk) ∧ H 354 = (⟨v354 + 1, false, false, 0, 0, []⟩ : Blk) ∧ H 407 = (⟨v407 + acc.length, false, false, 0, 0, []⟩ : Blk) ∧ True) ?_ ?_
   ·
    unfold r73_9
    refine R_mv t11 ?_
    refine R_neq (x := (addE acc ((nth (l) (k))))) (y := (0 : Int)) (@rfl V (iV (addE acc ((nth (l) (k)))))) (@rfl V (iV (0 : Int))) ?_
    exact R_nil ⟨t2, t4, t10, t11, t15, t16, t17, rfl, h2, h4, h8, h205, h209, h303, h308, h354, h407, trivial⟩
   intro T H ⟨t2, t4, t10, t11, t15, t16, t17, t36, h2, h4, h8, h205, h209, h303, h308, h354, h407, _⟩
   refine W_seq_if (p := (addE acc ((nth (l) (k)))) ≠ (0 : Int)) t36 (fun c11 => ?_) (fun c11 => ?_)
   ·
    refine W_seq_seq ?_
    refine W_seq_regc (fun T H => T 4 = (V.mp 4 1 0 0) ∧ T 5 = (iV (addE acc ((nth (l) (k))))) ∧ H 2 = (⟨1, true, false, 34, 2, [[(iV (o.i)), (V.sl (List.map cT (o.tr)))]]⟩ : Blk) ∧ H 4 = (⟨1, true, false, 34, 2, [[(iV (o.i)), (V.sl (List.map cT (o.tr)))]]⟩ : Blk) ∧ H 8 = (⟨v8 + 1, true, false, 63, 2, [[(V.sl (List.map cI ((nth (l) (k)).ni))), (V.sl (List.map cI ((nth (l) (k)).no)))]]⟩ : Blk) ∧ H 205 = (⟨0 + o.tr.length, false, false, 0, 0, []⟩ : Blk) ∧ H 209 = (⟨w + 2, false, false, 0, 0, []⟩ : Blk) ∧ H 303 = (⟨v303 + 1, false, false, 0, 0, []⟩ : Blk) ∧ H 308 = (⟨v308 + acc.length, false, false, 0, 0, []⟩ : Blk) ∧ H 354 = (⟨v354 + 1, false, false, 0, 0, []⟩ : Blk) ∧ H 407 = (⟨v407 + acc.length, false, false, 0, 0, []⟩ : Blk) ∧ True) ?_ ?_
    ·
     unfold r73_10
     refine R_load_mp (v := (V.agg [(iV (o.i)), (V.sl (List.map cT (o.tr)))])) t2 h2 (by first | rfl | simp [ldB, ldV, Blk.own, V.one]) ?_
     refine R_mv t11 ?_
     refine R_store (vs := [(iV (o.i)), (V.sl (List.map cT (o.tr)))]) (B' := (⟨1, true, false, 34, 2, [[(iV (o.i)), (V.sl (List.map cT (o.tr)))]]⟩ : Blk)) t4 (@rfl V (V.agg [(iV (o.i)), (V.sl (List.map cT (o.tr)))])) rfl h4 (by first | rfl | simp [stB, okB, Blk.own, putAt, V.one]) ?_
     refine R_mv (@rfl V (iV (addE acc ((nth (l) (k)))))) ?_
     exact R_nil ⟨t4, rfl, h2, rfl, h8, h205, h209, h303, h308, h354, h407, trivial⟩
    intro T H ⟨t4, t5, h2, h4, h8, h205, h209, h303, h308, h354, h407, _⟩
    refine W_seq_ret ?_
    refine y4 _ _ ?_
    refine p22 _ _ ?_
    refine y1 _ _ ?_
    refine RetC_2 (resV_c (u := (V.agg [(iV (o.i)), (V.sl (List.map cT (o.tr)))])) t4 h4 (by first | rfl | simp [ldB, ldV, Blk.own, V.one])) (resV_t t5) (fz_agg2 (fz_int ?_) (fz_sl ?_ (fun _ => by simp))) (fz_int ?_)
    · rw [alO_i]
    · unfold alO; rw [if_pos (by rw [hc, alR_er (by omega) d1 heF]; exact heF)]
    · rw [hc, alR_er (by omega) d1 heF]
   · exact (c11 heF).elim
 refine W_seq_exit ?_
 refine p32 _ _ _ ?_
 refine x1 _ _ ?_
 refine .done ?_
 refine W_seq_regc (fun T H => T 4 = (V.mp 4 1 0 0) ∧ T 5 = (iV (0 : Int)) ∧ H 2 = (⟨1, true, false, 34, 2, [[(iV (o.i)), (V.sl (List.map cT (o.tr)))]]⟩ : Blk) ∧ H 4 = (⟨1, true, false, 34, 2, [[(iV (o.i)), (V.ms 209 w 0 (acc.length))]]⟩ : Blk) ∧ (H 8).ver = v8 ∧ H 205 = (⟨0 + o.tr.length, false, false, 0, 0, []⟩ : Blk) ∧ H 209 = (⟨w, true, false, 63, 2, (List.map cT (acc))⟩ : Blk) ∧ (H 303).ver = v303 ∧ (H 308).ver = v308 ∧ (H 354).ver = v354 ∧ (H 407).ver = v407 ∧ True) ?_ ?_
 ·
  unfold r73_13
  refine R_fld_mp (o' := 0) t2 h2 (by first | rfl | simp [okB, Blk.own]) rfl ?_
  refine R_load_mp (v := (iV (o.i))) (@rfl V (V.mp 2 1 0 0)) h2 (by first | rfl | simp [ldB, ldV, Blk.own, V.one]) ?_
  refine R_mv t6 ?_
  refine R_build (qs := [(0, 1, (iV (o.i))), (1, 1, (V.ms 209 w 0 (acc.length)))]) (cs := [(iV (o.i)), (V.ms 209 w 0 (acc.length))]) (mcons (congrArg (fun v => (0, 1, v)) (@rfl V (iV (o.i)))) (mcons (congrArg (fun v => (1, 1, v)) (@rfl V (V.ms 209 w 0 (acc.length)))) rfl)) rfl ?_
  refine R_store (vs := [(iV (o.i)), (V.ms 209 w 0 (acc.length))]) (B' := (⟨1, true, false, 34, 2, [[(iV (o.i)), (V.ms 209 w 0 (acc.length))]]⟩ : Blk)) t4 (@rfl V (V.agg [(iV (o.i)), (V.ms 209 w 0 (acc.length))])) rfl h4 (by first | rfl | simp [stB, okB, Blk.own, putAt, V.one]) ?_
  refine R_mv (@rfl V (iV (0 : Int))) ?_
  exact R_nil ⟨t4, rfl, h2, rfl, h8, h205, h209, h303, h308, h354, h407, trivial⟩
 intro T H ⟨t4, t5, h2, h4, h8, h205, h209, h303, h308, h354, h407, _⟩
 refine W_ret ?_
 refine RetC_2 (resV_c (u := (V.agg [(iV (o.i)), (V.ms 209 w 0 (acc.length))])) t4 h4 (by first | rfl | simp [ldB, ldV, Blk.own, V.one])) (resV_t t5) (fz_agg2 (fz_int ?_) (fz_ms h209 (by first | rfl | simp) (l := acc) rfl (by first | rfl | simp | omega) (fun _ => by simp) ?_)) (fz_int ?_)
 · rw [alO_i]
 · unfold alO; rw [if_neg (by rw [hc, alR_end (by omega)]; simp), hc, alR_end (by omega)]
 · rw [hc, alR_end (by omega)]
end Go.Proofs.Ytngkckefanbhgaa

namespace Go.Proofs.Ytngkckefanbhgaa
open Go Go.Proofs
theorem oof_pure (m : M) (ws : List (List Int)) : PureC Try.prog 32 [(V.agg [(iV (m.i)), (iV (m.s)), (V.sl (List.map cL (m.nx))), (V.sl (List.map cL (m.ot)))]), (V.sl (List.map cL (ws)))] (V.tup [(V.agg [(iV ((ofO m ws).i)), (V.sl (List.map cT ((ofO m ws).tr)))]), (iV (ofE m ws))]) := by
 refine pure_of_Wb true 6 Try.func32 s32_ok (by kernel_rfl) (by simp [s32]) (by simp) (by simp) fun hB => ?_
 simp only [bnd_map, bnd_int, bnd_bool, bnd_str, bnd_agg, bnd_pp, bnd_nil, bnd_cons, implies_true, and_true, true_and] at hB
 unfold s32
 dsimp only
 refine W_seq_regc (fun T H => T 1 = (V.sl (List.map cL (ws))) ∧ T 2 = (V.mp 2 1 0 0) ∧ T 4 = (V.mp 4 1 0 0) ∧ H 2 = (⟨1, true, false, 24, 4, [[(iV (m.i)), (iV (m.s)), (V.sl (List.map cL (m.nx))), (V.sl (List.map cL (m.ot)))]]⟩ : Blk) ∧ H 4 = (⟨1, true, false, 34, 2, [[(iV (0 : Int)), V.nilsl]]⟩ : Blk) ∧ H 8 = (⟨0, false, false, 0, 0, []⟩ : Blk) ∧ True) ?_ ?_
 ·
  unfold r32_0
  refine R_box (i := 2) (n := 0) (m := 4) (cs := [(iV (m.i)), (iV (m.s)), (V.sl (List.map cL (m.nx))), (V.sl (List.map cL (m.ot)))]) rfl (congrArg Blk.ver rfl) (@rfl V (V.agg [(iV (m.i)), (iV (m.s)), (V.sl (List.map cL (m.nx))), (V.sl (List.map cL (m.ot)))])) rfl rfl ?_
  refine R_alloc (i := 4) (n := 0) (m := 2) rfl (congrArg Blk.ver rfl) rfl ?_
  refine R_mv (@rfl V (iV (0 : Int))) ?_
  exact R_nil ⟨rfl, rfl, rfl, rfl, rfl, rfl, trivial⟩
 intro T H ⟨t1, t2, t4, h2, h4, h8, _⟩
 refine W_seq_regc (fun T H => T 2 = (V.mp 2 1 0 0) ∧ T 4 = (V.mp 4 1 0 0) ∧ T 6 = (V.sl (List.map cT (trsL m ws))) ∧ T 7 = (iV (trsE m ws)) ∧ H 2 = (⟨1, true, false, 24, 4, [[(iV (m.i)), (iV (m.s)), (V.sl (List.map cL (m.nx))), (V.sl (List.map cL (m.ot)))]]⟩ : Blk) ∧ H 4 = (⟨1, true, false, 34, 2, [[(iV (0 : Int)), V.nilsl]]⟩ : Blk) ∧ H 8 = (⟨0, false, false, 0, 0, []⟩ : Blk) ∧ True) ?_ ?_
 ·
  unfold r32_1
  refine R_load_mp (v := (V.agg [(iV (m.i)), (iV (m.s)), (V.sl (List.map cL (m.nx))), (V.sl (List.map cL (m.ot)))])) t2 h2 (by first | rfl | simp [ldB, ldV, Blk.own, V.one]) ?_
  refine R_mv t1 ?_
  refine R_call (evcons (@rfl V (V.agg [(iV (m.i)), (iV (m.s)), (V.sl (List.map cL (m.nx))), (V.sl (List.map cL (m.ot)))])) (evcons (@rfl V (V.sl (List.map cL (ws)))) evnil)) (mtraces_pure m ws) (fzv_mapcanon _ _ (by simp [-List.map_take, -List.map_drop, -List.map_append, -List.map_reverse])) (by simp [-List.map_take, -List.map_drop, -List.map_append, -List.map_reverse]) (Or.inl (by simp [-List.map_take, -List.map_drop, -List.map_append, -List.map_reverse])) ?_
  refine R_mv (@rfl V (V.tup [(V.sl (List.map cT (trsL m ws))), (iV (trsE m ws))])) ?_
  refine R_ext (v := (V.sl (List.map cT (trsL m ws)))) (@rfl V (V.tup [(V.sl (List.map cT (trsL m ws))), (iV (trsE m ws))])) rfl ?_
  refine R_ext (v := (iV (trsE m ws))) (@rfl V (V.tup [(V.sl (List.map cT (trsL m ws))), (iV (trsE m ws))])) rfl ?_
  refine R_mv (@rfl V (V.sl (List.map cT (trsL m ws)))) ?_
  refine R_mv (@rfl V (iV (trsE m ws))) ?_
  exact R_nil ⟨t2, t4, rfl, rfl, h2, h4, h8, trivial⟩
 intro T H ⟨t2, t4, t6, t7, h2, h4, h8, _⟩
 refine W_seq_seq ?_
 refine W_seq_regc (fun T H => T 2 = (V.mp 2 1 0 0) ∧ T 4 = (V.mp 4 1 0 0) ∧ T 6 = (V.sl (List.map cT (trsL m ws))) ∧ T 7 = (iV (trsE m ws)) ∧ T 16 = (V.bool (decide ((trsE m ws) ≠ (0 : Int)))) ∧ H 2 = (⟨1, true, false, 24, 4, [[(iV (m.i)), (iV (m.s)), (V.sl (List.map cL (m.nx))), (V.sl (List.map cL (m.ot)))]]⟩ : Blk) ∧ H 4 = (⟨1, true, false, 34, 2, [[(iV (0 : Int)), V.nilsl]]⟩ : Blk) ∧ H 8 = (⟨0, false, false, 0, 0, []⟩ : Blk) ∧ True) ?_ ?_
 ·
  unfold r32_2
  refine R_mv t7 ?_
  refine R_neq (x := (trsE m ws)) (y := (0 : Int)) (@rfl V (iV (trsE m ws))) (@rfl V (iV (0 : Int))) ?_
  exact R_nil ⟨t2, t4, t6, t7, rfl, h2, h4, h8, trivial⟩
 intro T H ⟨t2, t4, t6, t7, t16, h2, h4, h8, _⟩
 refine W_seq_if (p := (trsE m ws) ≠ (0 : Int)) t16 (fun c1 => ?_) (fun c1 => ?_)
 ·
  have d1 := c1
  refine W_seq_seq ?_
  refine W_seq_regc (fun T H => T 4 = (V.mp 4 1 0 0) ∧ T 5 = (iV (trsE m ws)) ∧ H 2 = (⟨1, true, false, 24, 4, [[(iV (m.i)), (iV (m.s)), (V.sl (List.map cL (m.nx))), (V.sl (List.map cL (m.ot)))]]⟩ : Blk) ∧ H 4 = (⟨1, true, false, 34, 2, [[(iV (0 : Int)), V.nilsl]]⟩ : Blk) ∧ H 8 = (⟨0, false, false, 0, 0, []⟩ : Blk) ∧ True) ?_ ?_
  ·
   unfold r32_3
   refine R_build (qs := []) (cs := [(iV (0 : Int)), V.nilsl]) rfl rfl ?_
   refine R_mv t7 ?_
   refine R_store (vs := [(iV (0 : Int)), V.nilsl]) (B' := (⟨1, true, false, 34, 2, [[(iV (0 : Int)), V.nilsl]]⟩ : Blk)) t4 (@rfl V (V.agg [(iV (0 : Int)), V.nilsl])) rfl h4 (by first | rfl | simp [stB, okB, Blk.own, putAt, V.one]) ?_
   refine R_mv (@rfl V (iV (trsE m ws))) ?_
   exact R_nil ⟨t4, rfl, h2, rfl, h8, trivial⟩
  intro T H ⟨t4, t5, h2, h4, h8, _⟩
  refine W_seq_ret ?_
  refine RetC_2 (resV_c (u := (V.agg [(iV (0 : Int)), V.nilsl])) t4 h4 (by first | rfl | simp [ldB, ldV, Blk.own, V.one])) (resV_t t5) (fz_agg2 (fz_int ?_) (fz_nil ?_)) (fz_int ?_)
  · rw [ofO, if_pos (by unfold ofE; rw [if_pos d1]; exact d1)]
  · rw [ofO, if_pos (by unfold ofE; rw [if_pos d1]; exact d1)]
  · rw [ofE, if_pos d1]
 have d1 := c1
 have hk := trs_ok d1
 refine W_seq_skip ?_
 refine W_seq_regc (fun T H => T 4 = (V.mp 4 1 0 0) ∧ T 7 = (iV ((alR (⟨((m.i)), ([])⟩ : Ob).i (⟨((m.i)), ([])⟩ : Ob).tr (trsL m ws)).2)) ∧ T 8 = (V.mp 8 1 0 0) ∧ H 2 = (⟨1, true, false, 24, 4, [[(iV (m.i)), (iV (m.s)), (V.sl (List.map cL (m.nx))), (V.sl (List.map cL (m.ot)))]]⟩ : Blk) ∧ H 4 = (⟨1, true, false, 34, 2, [[(iV (0 : Int)), V.nilsl]]⟩ : Blk) ∧ H 8 = (⟨1, true, false, 34, 2, [[(iV ((alO (⟨((m.i)), ([])⟩ : Ob) (trsL m ws)).i)), (V.sl (List.map cT ((alO (⟨((m.i)), ([])⟩ : Ob) (trsL m ws)).tr)))]]⟩ : Blk) ∧ True) ?_ ?_
 ·
  unfold r32_4
  refine R_fld_mp (o' := 0) t2 h2 (by first | rfl | simp [okB, Blk.own]) rfl ?_
  refine R_load_mp (v := (iV (m.i))) (@rfl V (V.mp 2 1 0 0)) h2 (by first | rfl | simp [ldB, ldV, Blk.own, V.one]) ?_
  refine R_build (qs := [(0, 1, (iV (m.i)))]) (cs := [(iV (m.i)), V.nilsl]) (mcons (congrArg (fun v => (0, 1, v)) (@rfl V (iV (m.i)))) rfl) rfl ?_
  refine R_mv t6 ?_
  refine R_call (evcons (@rfl V (V.agg [(iV (m.i)), V.nilsl])) (evcons (@rfl V (V.sl (List.map cT (trsL m ws)))) evnil)) (all_pure (⟨((m.i)), ([])⟩ : Ob) (trsL m ws) hk.2) (mcons (by simp [fzv, Blk.own, h2, h4, h8]) (mcons (fzv_canon 6 _ (by simp [-List.map_take, -List.map_drop, -List.map_append, -List.map_reverse])) rfl)) (by simp [-List.map_take, -List.map_drop, -List.map_append, -List.map_reverse]) (Or.inl (by simp [-List.map_take, -List.map_drop, -List.map_append, -List.map_reverse])) ?_
  refine R_mv (@rfl V (V.tup [(V.agg [(iV ((alO (⟨((m.i)), ([])⟩ : Ob) (trsL m ws)).i)), (V.sl (List.map cT ((alO (⟨((m.i)), ([])⟩ : Ob) (trsL m ws)).tr)))]), (iV ((alR (⟨((m.i)), ([])⟩ : Ob).i (⟨((m.i)), ([])⟩ : Ob).tr (trsL m ws)).2))])) ?_
  refine R_ext (v := (V.agg [(iV ((alO (⟨((m.i)), ([])⟩ : Ob) (trsL m ws)).i)), (V.sl (List.map cT ((alO (⟨((m.i)), ([])⟩ : Ob) (trsL m ws)).tr)))])) (@rfl V (V.tup [(V.agg [(iV ((alO (⟨((m.i)), ([])⟩ : Ob) (trsL m ws)).i)), (V.sl (List.map cT ((alO (⟨((m.i)), ([])⟩ : Ob) (trsL m ws)).tr)))]), (iV ((alR (⟨((m.i)), ([])⟩ : Ob).i (⟨((m.i)), ([])⟩ : Ob).tr (trsL m ws)).2))])) rfl ?_
  refine R_ext (v := (iV ((alR (⟨((m.i)), ([])⟩ : Ob).i (⟨((m.i)), ([])⟩ : Ob).tr (trsL m ws)).2))) (@rfl V (V.tup [(V.agg [(iV ((alO (⟨((m.i)), ([])⟩ : Ob) (trsL m ws)).i)), (V.sl (List.map cT ((alO (⟨((m.i)), ([])⟩ : Ob) (trsL m ws)).tr)))]), (iV ((alR (⟨((m.i)), ([])⟩ : Ob).i (⟨((m.i)), ([])⟩ : Ob).tr (trsL m ws)).2))])) rfl ?_
  refine R_alloc (i := 8) (n := 0) (m := 2) rfl (congrArg Blk.ver h8) rfl ?_
  refine R_store (vs := [(iV ((alO (⟨((m.i)), ([])⟩ : Ob) (trsL m ws)).i)), (V.sl (List.map cT ((alO (⟨((m.i)), ([])⟩ : Ob) (trsL m ws)).tr)))]) (B' := (⟨1, true, false, 34, 2, [[(iV ((alO (⟨((m.i)), ([])⟩ : Ob) (trsL m ws)).i)), (V.sl (List.map cT ((alO (⟨((m.i)), ([])⟩ : Ob) (trsL m ws)).tr)))]]⟩ : Blk)) (@rfl V (V.mp 8 1 0 0)) (@rfl V (V.agg [(iV ((alO (⟨((m.i)), ([])⟩ : Ob) (trsL m ws)).i)), (V.sl (List.map cT ((alO (⟨((m.i)), ([])⟩ : Ob) (trsL m ws)).tr)))])) rfl (@rfl Blk (⟨1, true, false, 34, 2, [[(iV (0 : Int)), V.nilsl]]⟩ : Blk)) (by first | rfl | simp [stB, okB, Blk.own, putAt, V.one]) ?_
  refine R_mv (@rfl V (iV ((alR (⟨((m.i)), ([])⟩ : Ob).i (⟨((m.i)), ([])⟩ : Ob).tr (trsL m ws)).2))) ?_
  exact R_nil ⟨t4, rfl, rfl, h2, h4, rfl, trivial⟩
 intro T H ⟨t4, t7, t8, h2, h4, h8, _⟩
 refine W_seq_seq ?_
 refine W_seq_regc (fun T H => T 4 = (V.mp 4 1 0 0) ∧ T 7 = (iV ((alR (⟨((m.i)), ([])⟩ : Ob).i (⟨((m.i)), ([])⟩ : Ob).tr (trsL m ws)).2)) ∧ T 8 = (V.mp 8 1 0 0) ∧ T 28 = (V.bool (decide (((alR (⟨((m.i)), ([])⟩ : Ob).i (⟨((m.i)), ([])⟩ : Ob).tr (trsL m ws)).2) ≠ (0 : Int)))) ∧ H 2 = (⟨1, true, false, 24, 4, [[(iV (m.i)), (iV (m.s)), (V.sl (List.map cL (m.nx))), (V.sl (List.map cL (m.ot)))]]⟩ : Blk) ∧ H 4 = (⟨1, true, false, 34, 2, [[(iV (0 : Int)), V.nilsl]]⟩ : Blk) ∧ H 8 = (⟨1, true, false, 34, 2, [[(iV ((alO (⟨((m.i)), ([])⟩ : Ob) (trsL m ws)).i)), (V.sl (List.map cT ((alO (⟨((m.i)), ([])⟩ : Ob) (trsL m ws)).tr)))]]⟩ : Blk) ∧ True) ?_ ?_
 ·
  unfold r32_5
  refine R_mv t7 ?_
  refine R_neq (x := ((alR (⟨((m.i)), ([])⟩ : Ob).i (⟨((m.i)), ([])⟩ : Ob).tr (trsL m ws)).2)) (y := (0 : Int)) (@rfl V (iV ((alR (⟨((m.i)), ([])⟩ : Ob).i (⟨((m.i)), ([])⟩ : Ob).tr (trsL m ws)).2))) (@rfl V (iV (0 : Int))) ?_
  exact R_nil ⟨t4, t7, t8, rfl, h2, h4, h8, trivial⟩
 intro T H ⟨t4, t7, t8, t28, h2, h4, h8, _⟩
 refine W_seq_if (p := ((alR (⟨((m.i)), ([])⟩ : Ob).i (⟨((m.i)), ([])⟩ : Ob).tr (trsL m ws)).2) ≠ (0 : Int)) t28 (fun c2 => ?_) (fun c2 => ?_)
 ·
  have d2 := c2
  refine W_seq_seq ?_
  refine W_seq_regc (fun T H => T 4 = (V.mp 4 1 0 0) ∧ T 5 = (iV ((alR (⟨((m.i)), ([])⟩ : Ob).i (⟨((m.i)), ([])⟩ : Ob).tr (trsL m ws)).2)) ∧ H 2 = (⟨1, true, false, 24, 4, [[(iV (m.i)), (iV (m.s)), (V.sl (List.map cL (m.nx))), (V.sl (List.map cL (m.ot)))]]⟩ : Blk) ∧ H 4 = (⟨1, true, false, 34, 2, [[(iV (0 : Int)), V.nilsl]]⟩ : Blk) ∧ H 8 = (⟨1, true, false, 34, 2, [[(iV ((alO (⟨((m.i)), ([])⟩ : Ob) (trsL m ws)).i)), (V.sl (List.map cT ((alO (⟨((m.i)), ([])⟩ : Ob) (trsL m ws)).tr)))]]⟩ : Blk) ∧ True) ?_ ?_
  ·
   unfold r32_6
   refine R_build (qs := []) (cs := [(iV (0 : Int)), V.nilsl]) rfl rfl ?_
   refine R_mv t7 ?_
   refine R_store (vs := [(iV (0 : Int)), V.nilsl]) (B' := (⟨1, true, false, 34, 2, [[(iV (0 : Int)), V.nilsl]]⟩ : Blk)) t4 (@rfl V (V.agg [(iV (0 : Int)), V.nilsl])) rfl h4 (by first | rfl | simp [stB, okB, Blk.own, putAt, V.one]) ?_
   refine R_mv (@rfl V (iV ((alR (⟨((m.i)), ([])⟩ : Ob).i (⟨((m.i)), ([])⟩ : Ob).tr (trsL m ws)).2))) ?_
   exact R_nil ⟨t4, rfl, h2, rfl, h8, trivial⟩
  intro T H ⟨t4, t5, h2, h4, h8, _⟩
  refine W_seq_ret ?_
  refine RetC_2 (resV_c (u := (V.agg [(iV (0 : Int)), V.nilsl])) t4 h4 (by first | rfl | simp [ldB, ldV, Blk.own, V.one])) (resV_t t5) (fz_agg2 (fz_int ?_) (fz_nil ?_)) (fz_int ?_)
  · rw [ofO, if_pos (by unfold ofE; rw [if_neg d1]; exact d2)]
  · rw [ofO, if_pos (by unfold ofE; rw [if_neg d1]; exact d2)]
  · rw [ofE, if_neg d1]
 have d2 := c2
 refine W_seq_skip ?_
 refine W_seq_regc (fun T H => T 4 = (V.mp 4 1 0 0) ∧ T 5 = (iV (0 : Int)) ∧ H 2 = (⟨1, true, false, 24, 4, [[(iV (m.i)), (iV (m.s)), (V.sl (List.map cL (m.nx))), (V.sl (List.map cL (m.ot)))]]⟩ : Blk) ∧ H 4 = (⟨1, true, false, 34, 2, [[(iV ((alO (⟨((m.i)), ([])⟩ : Ob) (trsL m ws)).i)), (V.sl (List.map cT ((alO (⟨((m.i)), ([])⟩ : Ob) (trsL m ws)).tr)))]]⟩ : Blk) ∧ H 8 = (⟨1, true, false, 34, 2, [[(iV ((alO (⟨((m.i)), ([])⟩ : Ob) (trsL m ws)).i)), (V.sl (List.map cT ((alO (⟨((m.i)), ([])⟩ : Ob) (trsL m ws)).tr)))]]⟩ : Blk) ∧ True) ?_ ?_
 ·
  unfold r32_7
  refine R_load_mp (v := (V.agg [(iV ((alO (⟨((m.i)), ([])⟩ : Ob) (trsL m ws)).i)), (V.sl (List.map cT ((alO (⟨((m.i)), ([])⟩ : Ob) (trsL m ws)).tr)))])) t8 h8 (by first | rfl | simp [ldB, ldV, Blk.own, V.one]) ?_
  refine R_store (vs := [(iV ((alO (⟨((m.i)), ([])⟩ : Ob) (trsL m ws)).i)), (V.sl (List.map cT ((alO (⟨((m.i)), ([])⟩ : Ob) (trsL m ws)).tr)))]) (B' := (⟨1, true, false, 34, 2, [[(iV ((alO (⟨((m.i)), ([])⟩ : Ob) (trsL m ws)).i)), (V.sl (List.map cT ((alO (⟨((m.i)), ([])⟩ : Ob) (trsL m ws)).tr)))]]⟩ : Blk)) t4 (@rfl V (V.agg [(iV ((alO (⟨((m.i)), ([])⟩ : Ob) (trsL m ws)).i)), (V.sl (List.map cT ((alO (⟨((m.i)), ([])⟩ : Ob) (trsL m ws)).tr)))])) rfl h4 (by first | rfl | simp [stB, okB, Blk.own, putAt, V.one]) ?_
  refine R_mv (@rfl V (iV (0 : Int))) ?_
  exact R_nil ⟨t4, rfl, h2, rfl, h8, trivial⟩
 intro T H ⟨t4, t5, h2, h4, h8, _⟩
 refine W_ret ?_
 refine RetC_2 (resV_c (u := (V.agg [(iV ((alO (⟨((m.i)), ([])⟩ : Ob) (trsL m ws)).i)), (V.sl (List.map cT ((alO (⟨((m.i)), ([])⟩ : Ob) (trsL m ws)).tr)))])) t4 h4 (by first | rfl | simp [ldB, ldV, Blk.own, V.one])) (resV_t t5) (fz_agg2 (fz_int ?_) (fz_sl ?_ (fun _ => by simp))) (fz_int ?_)
 · rw [ofO, if_neg (by unfold ofE; rw [if_neg d1]; exact d2)]
 · rw [ofO, if_neg (by unfold ofE; rw [if_neg d1]; exact d2)]
 · rw [ofE, if_neg d1]; exact (Decidable.not_not.1 d2).symm
end Go.Proofs.Ytngkckefanbhgaa

namespace Go.Proofs.Ytngkckefanbhgaa
open Go Go.Proofs
def r34_0 : List SO := [
  ⟨none, some 2, .box 34 2 (.t 0)⟩,
  ⟨none, some 3, .box 35 1 (.t 1)⟩,
  ⟨none, some 4, .mv (.c (.nilsl))⟩,
  ⟨none, some 5, .mv (.c (.bool false))⟩]
def r34_1 : List SO := [
  ⟨none, some 8, .load false 1 (.t 3)⟩,
  ⟨none, some 9, .len (.t 8)⟩,
  ⟨none, some 10, .bin .eql (.t 9) (.c (.int .i64 0))⟩]
def r34_2 : List SO := [
  ⟨none, some 4, .mv (.c (.nilsl))⟩,
  ⟨none, some 5, .mv (.c (.bool true))⟩]
def r34_3 : List SO := [
  ⟨none, some 11, .fld 1 (.t 2)⟩,
  ⟨none, some 12, .load false 1 (.t 11)⟩,
  ⟨none, some 13, .mkf 75 [.t 3]⟩,
  ⟨none, some 14, .call false 74 [.t 12, .t 13]⟩,
  ⟨none, some 6, .mv (.t 14)⟩]
def r34_4 : List SO := [
  ⟨none, some 15, .mv (.t 6)⟩,
  ⟨none, some 16, .bin .lss (.t 15) (.c (.int .i64 0))⟩]
def r34_5 : List SO := [
  ⟨none, some 4, .mv (.c (.nilsl))⟩,
  ⟨none, some 5, .mv (.c (.bool false))⟩]
def r34_6 : List SO := [
  ⟨none, some 17, .fld 1 (.t 2)⟩,
  ⟨none, some 18, .load false 1 (.t 17)⟩,
  ⟨none, some 19, .mv (.t 6)⟩,
  ⟨none, some 20, .idx 2 (.t 18) (.t 19)⟩,
  ⟨none, some 21, .fld 1 (.t 20)⟩,
  ⟨none, some 22, .load false 1 (.t 21)⟩,
  ⟨none, some 7, .mv (.t 22)⟩]
def r34_7 : List SO := [
  ⟨none, some 23, .mv (.t 7)⟩,
  ⟨none, some 24, .load false 1 (.t 3)⟩,
  ⟨none, some 25, .len (.t 24)⟩,
  ⟨none, some 26, .mv (.t 7)⟩,
  ⟨none, some 27, .len (.t 26)⟩,
  ⟨none, some 28, .mn (.t 25) (.t 27)⟩,
  ⟨none, some 29, .slice 1 (.t 23) none (some (.t 28))⟩,
  ⟨none, some 30, .call false 63 [.t 29]⟩,
  ⟨none, some 4, .mv (.t 30)⟩,
  ⟨none, some 5, .mv (.c (.bool true))⟩]
def s34 : SF := ⟨31, [.tmp 4, .tmp 5], .seq (.reg r34_0) (.seq (.seq (.reg r34_1) (.cond (.t 10) (.seq (.reg r34_2) (.ret)) (.skip))) (.seq (.reg r34_3) (.seq (.seq (.reg r34_4) (.cond (.t 16) (.seq (.reg r34_5) (.ret)) (.skip))) (.seq (.reg r34_6) (.seq (.reg r34_7) (.ret))))))⟩
theorem s34_ok : slimF Try.prog ⟨[94, 102, 103, 108, 109, 116, 119, 121, 125], []⟩ Try.f34 = some s34 := by kernel_rfl
end Go.Proofs.Ytngkckefanbhgaa

namespace Go.Proofs.Ytngkckefanbhgaa
open Go Go.Proofs
def r75_0 : List SO := [
  ⟨none, some 2, .box 63 2 (.t 0)⟩,
  ⟨none, some 3, .mv (.c (.bool false))⟩]
def r75_1 : List SO := [
  ⟨none, some 4, .fld 0 (.t 2)⟩,
  ⟨none, some 5, .load false 1 (.t 4)⟩,
  ⟨none, some 6, .load false 1 (.t 1)⟩,
  ⟨none, some 7, .call false 76 [.t 5, .t 6]⟩,
  ⟨none, some 3, .mv (.t 7)⟩]
def s75 : SF := ⟨8, [.tmp 3], .seq (.reg r75_0) (.seq (.reg r75_1) (.ret))⟩
theorem s75_ok : slimF Try.prog ⟨[94, 102, 103, 108, 109, 116, 119, 121, 125], []⟩ Try.f75 = some s75 := by kernel_rfl
end Go.Proofs.Ytngkckefanbhgaa

namespace Go.Proofs.Ytngkckefanbhgaa
open Go Go.Proofs
theorem answer1_pure (t : Tr) (w : List Int) : PureC Try.prog 75 [(V.agg [(V.sl (List.map cI (t.ni))), (V.sl (List.map cI (t.no)))]), (V.pp [(V.sl (List.map cI (w)))])] (V.bool (hp t.ni w)) := by
 refine pure_of_Wb true 6 Try.func75 s75_ok (by kernel_rfl) (by simp [s75]) (by simp) (by simp) fun hB => ?_
 simp only [bnd_map, bnd_int, bnd_bool, bnd_str, bnd_agg, bnd_pp, bnd_nil, bnd_cons, implies_true, and_true, true_and] at hB
 unfold s75
 dsimp only
 refine W_seq_regc (fun T H => T 1 = (V.pp [(V.sl (List.map cI (w)))]) ∧ T 2 = (V.mp 2 1 0 0) ∧ H 2 = (⟨1, true, false, 63, 2, [[(V.sl (List.map cI (t.ni))), (V.sl (List.map cI (t.no)))]]⟩ : Blk) ∧ True) ?_ ?_
 ·
  unfold r75_0
  refine R_box (i := 2) (n := 0) (m := 2) (cs := [(V.sl (List.map cI (t.ni))), (V.sl (List.map cI (t.no)))]) rfl (congrArg Blk.ver rfl) (@rfl V (V.agg [(V.sl (List.map cI (t.ni))), (V.sl (List.map cI (t.no)))])) rfl rfl ?_
  refine R_mv (@rfl V (V.bool false)) ?_
  exact R_nil ⟨rfl, rfl, rfl, trivial⟩
 intro T H ⟨t1, t2, h2, _⟩
 refine W_seq_regc (fun T H => T 3 = (V.bool (hp t.ni w)) ∧ H 2 = (⟨1, true, false, 63, 2, [[(V.sl (List.map cI (t.ni))), (V.sl (List.map cI (t.no)))]]⟩ : Blk) ∧ True) ?_ ?_
 ·
  unfold r75_1
  refine R_fld_mp (o' := 0) t2 h2 (by first | rfl | simp [okB, Blk.own]) rfl ?_
  refine R_load_mp (v := (V.sl (List.map cI (t.ni)))) (@rfl V (V.mp 2 1 0 0)) h2 (by first | rfl | simp [ldB, ldV, Blk.own, V.one]) ?_
  refine R_load_pp (v := (V.sl (List.map cI (w)))) t1 (by first | rfl | simp [ldV]) ?_
  refine R_call (evcons (@rfl V (V.sl (List.map cI (t.ni)))) (evcons (@rfl V (V.sl (List.map cI (w)))) evnil)) (hp_pure t.ni w) (fzv_mapcanon _ _ (by simp [-List.map_take, -List.map_drop, -List.map_append, -List.map_reverse])) (by simp [-List.map_take, -List.map_drop, -List.map_append, -List.map_reverse]) (Or.inl (by simp [-List.map_take, -List.map_drop, -List.map_append, -List.map_reverse])) ?_
  refine R_mv (@rfl V (V.bool (hp t.ni w))) ?_
  exact R_nil ⟨rfl, h2, trivial⟩
 intro T H ⟨t3, h2, _⟩
 refine W_ret ?_
 refine Ret_1 t3 (fz_canon (by simp) rfl)
end Go.Proofs.Ytngkckefanbhgaa

namespace Go.Proofs.Ytngkckefanbhgaa
open Go Go.Proofs
theorem answer_pure (o : Ob) (w : List Int) (ho : oval o = 0) : PureC Try.prog 34 [(V.agg [(iV (o.i)), (V.sl (List.map cT (o.tr)))]), (V.sl (List.map cI (w)))] (V.tup [(V.sl (List.map cI ((ans o w).getD []))), (V.bool ((ans o w).isSome))]) := by
 refine pure_of_Wb true 6 Try.func34 s34_ok (by kernel_rfl) (by simp [s34]) (by simp) (by simp) fun hB => ?_
 simp only [bnd_map, bnd_int, bnd_bool, bnd_str, bnd_agg, bnd_pp, bnd_nil, bnd_cons, implies_true, and_true, true_and] at hB
 unfold s34
 dsimp only
 have u2 := oval_ok ho
 refine W_seq_regc (fun T H => T 2 = (V.mp 2 1 0 0) ∧ T 3 = (V.mp 3 1 0 0) ∧ H 2 = (⟨1, true, false, 34, 2, [[(iV (o.i)), (V.sl (List.map cT (o.tr)))]]⟩ : Blk) ∧ H 3 = (⟨1, true, false, 35, 1, [[(V.sl (List.map cI (w)))]]⟩ : Blk) ∧ True) ?_ ?_
 ·
  unfold r34_0
  refine R_box (i := 2) (n := 0) (m := 2) (cs := [(iV (o.i)), (V.sl (List.map cT (o.tr)))]) rfl (congrArg Blk.ver rfl) (@rfl V (V.agg [(iV (o.i)), (V.sl (List.map cT (o.tr)))])) rfl rfl ?_
  refine R_box (i := 3) (n := 0) (m := 1) (cs := [(V.sl (List.map cI (w)))]) rfl (congrArg Blk.ver rfl) (@rfl V (V.sl (List.map cI (w)))) rfl rfl ?_
  refine R_mv (@rfl V V.nilsl) ?_
  refine R_mv (@rfl V (V.bool false)) ?_
  exact R_nil ⟨rfl, rfl, rfl, rfl, trivial⟩
 intro T H ⟨t2, t3, h2, h3, _⟩
 refine W_seq_seq ?_
 refine W_seq_regc (fun T H => T 2 = (V.mp 2 1 0 0) ∧ T 3 = (V.mp 3 1 0 0) ∧ T 10 = (V.bool (decide (((w.length : Nat) : Int) = (0 : Int)))) ∧ H 2 = (⟨1, true, false, 34, 2, [[(iV (o.i)), (V.sl (List.map cT (o.tr)))]]⟩ : Blk) ∧ H 3 = (⟨1, true, false, 35, 1, [[(V.sl (List.map cI (w)))]]⟩ : Blk) ∧ True) ?_ ?_
 ·
  unfold r34_1
  refine R_load_mp (v := (V.sl (List.map cI (w)))) t3 h3 (by first | rfl | simp [ldB, ldV, Blk.own, V.one]) ?_
  refine R_len (@rfl V (V.sl (List.map cI (w)))) ?_
  refine R_eql (x := ((w.length : Nat) : Int)) (y := (0 : Int)) (@rfl V (iV ((w.length : Nat) : Int))) (@rfl V (iV (0 : Int))) ?_
  exact R_nil ⟨t2, t3, rfl, h2, h3, trivial⟩
 intro T H ⟨t2, t3, t10, h2, h3, _⟩
 refine W_seq_if (p := ((w.length : Nat) : Int) = (0 : Int)) t10 (fun c1 => ?_) (fun c1 => ?_)
 ·
  refine W_seq_seq ?_
  refine W_seq_regc (fun T H => T 4 = V.nilsl ∧ T 5 = (V.bool true) ∧ H 2 = (⟨1, true, false, 34, 2, [[(iV (o.i)), (V.sl (List.map cT (o.tr)))]]⟩ : Blk) ∧ H 3 = (⟨1, true, false, 35, 1, [[(V.sl (List.map cI (w)))]]⟩ : Blk) ∧ True) ?_ ?_
  ·
   unfold r34_2
   refine R_mv (@rfl V V.nilsl) ?_
   refine R_mv (@rfl V (V.bool true)) ?_
   exact R_nil ⟨rfl, rfl, h2, h3, trivial⟩
  intro T H ⟨t4, t5, h2, h3, _⟩
  refine W_seq_ret ?_
  refine Ret_2 t4 t5 (fz_nil ?_) (fz_bool ?_)
  · rw [List.length_eq_zero_iff.1 (show w.length = 0 by omega)]; rfl
  · rw [List.length_eq_zero_iff.1 (show w.length = 0 by omega)]; rfl
 have hw : w ≠ [] := by intro e; subst e; simp at *
 refine W_seq_skip ?_
 refine W_seq_regc (fun T H => T 2 = (V.mp 2 1 0 0) ∧ T 3 = (V.mp 3 1 0 0) ∧ T 6 = (iV (fi (fun j => (fun t : Tr => hp t.ni w) (nth o.tr j)) 0 o.tr.length)) ∧ H 2 = (⟨1, true, false, 34, 2, [[(iV (o.i)), (V.sl (List.map cT (o.tr)))]]⟩ : Blk) ∧ H 3 = (⟨1, true, false, 35, 1, [[(V.sl (List.map cI (w)))]]⟩ : Blk) ∧ True) ?_ ?_
 ·
  unfold r34_3
  refine R_fld_mp (o' := 1) t2 h2 (by first | rfl | simp [okB, Blk.own]) rfl ?_
  refine R_load_mp (v := (V.sl (List.map cT (o.tr)))) (@rfl V (V.mp 2 1 0 1)) h2 (by first | rfl | simp [ldB, ldV, Blk.own, V.one]) ?_
  refine R_mkf (evcons t3 evnil) ?_
  refine R_call (evcons (@rfl V (V.sl (List.map cT (o.tr)))) (evcons (@rfl V (V.fn 75 [] [(V.mp 3 1 0 0)])) evnil)) (idxt_pure (fun t : Tr => hp t.ni w) o.tr 75 ([(V.pp [(V.sl (List.map cI (w)))])]) (by simp) (by simp) (fun j _ => answer1_pure (nth o.tr j) w)) (mcons (fzv_canon 6 _ (by simp [-List.map_take, -List.map_drop, -List.map_append, -List.map_reverse])) (mcons (by simp [fzv, Blk.own, h2, h3]) rfl)) (by simp [-List.map_take, -List.map_drop, -List.map_append, -List.map_reverse]) (Or.inr rfl) ?_
  refine R_mv (@rfl V (iV (fi (fun j => (fun t : Tr => hp t.ni w) (nth o.tr j)) 0 o.tr.length))) ?_
  exact R_nil ⟨t2, t3, rfl, h2, h3, trivial⟩
 intro T H ⟨t2, t3, t6, h2, h3, _⟩
 refine W_seq_seq ?_
 refine W_seq_regc (fun T H => T 2 = (V.mp 2 1 0 0) ∧ T 3 = (V.mp 3 1 0 0) ∧ T 6 = (iV (fi (fun j => (fun t : Tr => hp t.ni w) (nth o.tr j)) 0 o.tr.length)) ∧ T 16 = (V.bool (decide ((fi (fun j => (fun t : Tr => hp t.ni w) (nth o.tr j)) 0 o.tr.length) < (0 : Int)))) ∧ H 2 = (⟨1, true, false, 34, 2, [[(iV (o.i)), (V.sl (List.map cT (o.tr)))]]⟩ : Blk) ∧ H 3 = (⟨1, true, false, 35, 1, [[(V.sl (List.map cI (w)))]]⟩ : Blk) ∧ True) ?_ ?_
 ·
  unfold r34_4
  refine R_mv t6 ?_
  refine R_lss (x := (fi (fun j => (fun t : Tr => hp t.ni w) (nth o.tr j)) 0 o.tr.length)) (y := (0 : Int)) (@rfl V (iV (fi (fun j => (fun t : Tr => hp t.ni w) (nth o.tr j)) 0 o.tr.length))) (@rfl V (iV (0 : Int))) ?_
  exact R_nil ⟨t2, t3, t6, rfl, h2, h3, trivial⟩
 intro T H ⟨t2, t3, t6, t16, h2, h3, _⟩
 refine W_seq_if (p := (fi (fun j => (fun t : Tr => hp t.ni w) (nth o.tr j)) 0 o.tr.length) < (0 : Int)) t16 (fun c2 => ?_) (fun c2 => ?_)
 ·
  have d1 : ansL o.tr w = none := ansL_miss (l := o.tr) (w := w) c2
  refine W_seq_seq ?_
  refine W_seq_regc (fun T H => T 4 = V.nilsl ∧ T 5 = (V.bool false) ∧ H 2 = (⟨1, true, false, 34, 2, [[(iV (o.i)), (V.sl (List.map cT (o.tr)))]]⟩ : Blk) ∧ H 3 = (⟨1, true, false, 35, 1, [[(V.sl (List.map cI (w)))]]⟩ : Blk) ∧ True) ?_ ?_
  ·
   unfold r34_5
   refine R_mv (@rfl V V.nilsl) ?_
   refine R_mv (@rfl V (V.bool false)) ?_
   exact R_nil ⟨rfl, rfl, h2, h3, trivial⟩
  intro T H ⟨t4, t5, h2, h3, _⟩
  refine W_seq_ret ?_
  refine Ret_2 t4 t5 (fz_nil ?_) (fz_bool ?_)
  · rw [ans, if_neg hw, d1]; rfl
  · rw [ans, if_neg hw, d1]; rfl
 have d1 := ansL_hit (l := o.tr) (w := w) (by omega)
 have d2 := (u2.pr _ d1.1).1.len
 have d3 := (u2.pr _ d1.1).1.lel
 have d4 := hp_len d1.2.1
 refine W_seq_skip ?_
 refine W_seq_regc (fun T H => T 3 = (V.mp 3 1 0 0) ∧ T 7 = (V.sl (List.map cI ((nth (o.tr) (fi (fun j => (fun t : Tr => hp t.ni w) (nth o.tr j)) 0 o.tr.length).toNat).no))) ∧ H 2 = (⟨1, true, false, 34, 2, [[(iV (o.i)), (V.sl (List.map cT (o.tr)))]]⟩ : Blk) ∧ H 3 = (⟨1, true, false, 35, 1, [[(V.sl (List.map cI (w)))]]⟩ : Blk) ∧ True) ?_ ?_
 ·
  unfold r34_6
  refine R_fld_mp (o' := 1) t2 h2 (by first | rfl | simp [okB, Blk.own]) rfl ?_
  refine R_load_mp (v := (V.sl (List.map cT (o.tr)))) (@rfl V (V.mp 2 1 0 1)) h2 (by first | rfl | simp [ldB, ldV, Blk.own, V.one]) ?_
  refine R_mv t6 ?_
  refine R_idxI (i := (fi (fun j => (fun t : Tr => hp t.ni w) (nth o.tr j)) 0 o.tr.length)) (@rfl V (V.sl (List.map cT (o.tr)))) (@rfl V (iV (fi (fun j => (fun t : Tr => hp t.ni w) (nth o.tr j)) 0 o.tr.length))) (by omega) (by omega) rfl ?_
  refine R_fld_pp (cs' := [(V.sl (List.map cI ((nth (o.tr) (fi (fun j => (fun t : Tr => hp t.ni w) (nth o.tr j)) 0 o.tr.length).toNat).no)))]) (@rfl V (V.pp [(V.sl (List.map cI ((nth (o.tr) (fi (fun j => (fun t : Tr => hp t.ni w) (nth o.tr j)) 0 o.tr.length).toNat).ni))), (V.sl (List.map cI ((nth (o.tr) (fi (fun j => (fun t : Tr => hp t.ni w) (nth o.tr j)) 0 o.tr.length).toNat).no)))])) rfl ?_
  refine R_load_pp (v := (V.sl (List.map cI ((nth (o.tr) (fi (fun j => (fun t : Tr => hp t.ni w) (nth o.tr j)) 0 o.tr.length).toNat).no)))) (@rfl V (V.pp [(V.sl (List.map cI ((nth (o.tr) (fi (fun j => (fun t : Tr => hp t.ni w) (nth o.tr j)) 0 o.tr.length).toNat).no)))])) (by first | rfl | simp [ldV]) ?_
  refine R_mv (@rfl V (V.sl (List.map cI ((nth (o.tr) (fi (fun j => (fun t : Tr => hp t.ni w) (nth o.tr j)) 0 o.tr.length).toNat).no)))) ?_
  exact R_nil ⟨t3, rfl, h2, h3, trivial⟩
 intro T H ⟨t3, t7, h2, h3, _⟩
 refine W_seq_regc (fun T H => T 4 = (V.sl (List.map cI ((List.take (min w.length (((nth (o.tr) (fi (fun j => (fun t : Tr => hp t.ni w) (nth o.tr j)) 0 o.tr.length).toNat).no).length)) ((nth (o.tr) (fi (fun j => (fun t : Tr => hp t.ni w) (nth o.tr j)) 0 o.tr.length).toNat).no))))) ∧ T 5 = (V.bool true) ∧ H 2 = (⟨1, true, false, 34, 2, [[(iV (o.i)), (V.sl (List.map cT (o.tr)))]]⟩ : Blk) ∧ H 3 = (⟨1, true, false, 35, 1, [[(V.sl (List.map cI (w)))]]⟩ : Blk) ∧ True) ?_ ?_
 ·
  unfold r34_7
  refine R_mv t7 ?_
  refine R_load_mp (v := (V.sl (List.map cI (w)))) t3 h3 (by first | rfl | simp [ldB, ldV, Blk.own, V.one]) ?_
  refine R_len (@rfl V (V.sl (List.map cI (w)))) ?_
  refine R_mv t7 ?_
  refine R_len (@rfl V (V.sl (List.map cI ((nth (o.tr) (fi (fun j => (fun t : Tr => hp t.ni w) (nth o.tr j)) 0 o.tr.length).toNat).no)))) ?_
  refine R_mnN (m := w.length) (n := (((nth (o.tr) (fi (fun j => (fun t : Tr => hp t.ni w) (nth o.tr j)) 0 o.tr.length).toNat).no).length)) (@rfl V (iV ((w.length : Nat) : Int))) (@rfl V (iV ((((nth (o.tr) (fi (fun j => (fun t : Tr => hp t.ni w) (nth o.tr j)) 0 o.tr.length).toNat).no).length : Nat) : Int))) ?_
  refine R_slice_hi (n := (min w.length (((nth (o.tr) (fi (fun j => (fun t : Tr => hp t.ni w) (nth o.tr j)) 0 o.tr.length).toNat).no).length))) (@rfl V (V.sl (List.map cI ((nth (o.tr) (fi (fun j => (fun t : Tr => hp t.ni w) (nth o.tr j)) 0 o.tr.length).toNat).no)))) (@rfl V (iV ((min w.length (((nth (o.tr) (fi (fun j => (fun t : Tr => hp t.ni w) (nth o.tr j)) 0 o.tr.length).toNat).no).length) : Nat) : Int))) (by omega) (fun _ => rfl) ?_
  refine R_call (evcons (@rfl V (V.sl (List.map cI (List.take (min w.length (((nth (o.tr) (fi (fun j => (fun t : Tr => hp t.ni w) (nth o.tr j)) 0 o.tr.length).toNat).no).length)) ((nth (o.tr) (fi (fun j => (fun t : Tr => hp t.ni w) (nth o.tr j)) 0 o.tr.length).toNat).no))))) evnil) (clone_pure (List.take (min w.length (((nth (o.tr) (fi (fun j => (fun t : Tr => hp t.ni w) (nth o.tr j)) 0 o.tr.length).toNat).no).length)) ((nth (o.tr) (fi (fun j => (fun t : Tr => hp t.ni w) (nth o.tr j)) 0 o.tr.length).toNat).no)) (by simp; omega)) (fzv_mapcanon _ _ (by simp [-List.map_take, -List.map_drop, -List.map_append, -List.map_reverse])) (by simp [-List.map_take, -List.map_drop, -List.map_append, -List.map_reverse]) (Or.inl (by simp [-List.map_take, -List.map_drop, -List.map_append, -List.map_reverse])) ?_
  refine R_mv (@rfl V (V.sl (List.map cI ((List.take (min w.length (((nth (o.tr) (fi (fun j => (fun t : Tr => hp t.ni w) (nth o.tr j)) 0 o.tr.length).toNat).no).length)) ((nth (o.tr) (fi (fun j => (fun t : Tr => hp t.ni w) (nth o.tr j)) 0 o.tr.length).toNat).no)))))) ?_
  refine R_mv (@rfl V (V.bool true)) ?_
  exact R_nil ⟨rfl, rfl, h2, h3, trivial⟩
 intro T H ⟨t4, t5, h2, h3, _⟩
 refine W_ret ?_
 refine Ret_2 t4 t5 (fz_sl ?_ (fun _ => by simp)) (fz_bool ?_)
 · rw [ans, if_neg hw, d1.2.2, Nat.min_eq_left (by omega)]; rfl
 · rw [ans, if_neg hw, d1.2.2]; rfl
end Go.Proofs.Ytngkckefanbhgaa

namespace Go.Proofs.Ytngkckefanbhgaa
open Go Go.Proofs
def r37_0 : List SO := [
  ⟨none, some 2, .box 24 4 (.t 0)⟩,
  ⟨none, some 4, .mv (.c (.nilsl))⟩,
  ⟨none, some 5, .mv (.c (.int .i64 0))⟩]
def r37_1 : List SO := [
  ⟨none, some 10, .load true 4 (.t 2)⟩,
  ⟨none, some 11, .fld 1 (.t 2)⟩,
  ⟨none, some 12, .load false 1 (.t 11)⟩,
  ⟨none, some 13, .mv (.t 1)⟩,
  ⟨none, some 14, .call false 56 [.t 10, .t 12, .t 13]⟩,
  ⟨none, some 9, .mv (.t 14)⟩,
  ⟨none, some 15, .ext (.t 9) 0⟩,
  ⟨none, some 16, .ext (.t 9) 1⟩,
  ⟨none, some 17, .ext (.t 9) 2⟩,
  ⟨none, some 6, .mv (.t 15)⟩,
  ⟨none, some 7, .mv (.t 16)⟩,
  ⟨none, some 8, .mv (.t 17)⟩]
def r37_2 : List SO := [
  ⟨none, some 18, .mv (.t 6)⟩,
  ⟨none, some 19, .mv (.t 8)⟩,
  ⟨none, some 4, .mv (.t 18)⟩,
  ⟨none, some 5, .mv (.t 19)⟩]
def s37 : SF := ⟨20, [.tmp 4, .tmp 5], .seq (.reg r37_0) (.seq (.reg r37_1) (.seq (.reg r37_2) (.ret)))⟩
theorem s37_ok : slimF Try.prog ⟨[94, 102, 103, 108, 109, 116, 119, 121, 125], []⟩ Try.f37 = some s37 := by kernel_rfl
end Go.Proofs.Ytngkckefanbhgaa

namespace Go.Proofs.Ytngkckefanbhgaa
open Go Go.Proofs
def r56_0 : List SO := [
  ⟨none, some 3, .box 24 4 (.t 0)⟩,
  ⟨none, some 6, .mv (.c (.nilsl))⟩,
  ⟨none, some 7, .mv (.c (.int .i64 0))⟩,
  ⟨none, some 8, .mv (.c (.int .i64 0))⟩]
def r56_1 : List SO := [
  ⟨none, some 13, .load true 4 (.t 3)⟩,
  ⟨none, some 14, .mv (.t 1)⟩,
  ⟨none, some 15, .call false 93 [.t 13, .t 14]⟩,
  ⟨none, some 9, .mv (.t 15)⟩]
def r56_2 : List SO := [
  ⟨none, some 16, .mv (.t 9)⟩,
  ⟨none, some 17, .bin .neq (.t 16) (.c (.int .i64 0))⟩]
def r56_3 : List SO := [
  ⟨none, some 18, .mv (.t 9)⟩,
  ⟨none, some 6, .mv (.c (.nilsl))⟩,
  ⟨none, some 7, .mv (.c (.int .i64 0))⟩,
  ⟨none, some 8, .mv (.t 18)⟩]
def r56_4 : List SO := [
  ⟨none, some 19, .mv (.t 2)⟩,
  ⟨none, some 20, .fld 0 (.t 3)⟩,
  ⟨none, some 21, .load false 1 (.t 20)⟩,
  ⟨none, some 22, .call false 77 [.t 19, .t 21]⟩,
  ⟨none, some 10, .mv (.t 22)⟩]
def r56_5 : List SO := [
  ⟨none, some 23, .mv (.t 10)⟩,
  ⟨none, some 24, .bin .neq (.t 23) (.c (.int .i64 0))⟩]
def r56_6 : List SO := [
  ⟨none, some 25, .mv (.t 10)⟩,
  ⟨none, some 6, .mv (.c (.nilsl))⟩,
  ⟨none, some 7, .mv (.c (.int .i64 0))⟩,
  ⟨none, some 8, .mv (.t 25)⟩]
def r56_7 : List SO := [
  ⟨none, some 26, .load true 4 (.t 3)⟩,
  ⟨none, some 27, .build [.int .i64 0, .int .i64 0, .nilsl, .nilsl] [(0, 4, .t 26)]⟩,
  ⟨none, some 28, .mv (.t 1)⟩,
  ⟨none, some 29, .build [.int .i64 0, .int .i64 0, .nilsl, .nilsl, .int .i64 0] [(0, 4, .t 27), (4, 1, .t 28)]⟩,
  ⟨none, some 30, .box 122 5 (.t 29)⟩,
  ⟨none, some 11, .mv (.t 30)⟩]
def r56_8 : List SO := [
  ⟨none, some 31, .mv (.t 11)⟩,
  ⟨none, some 32, .mv (.t 2)⟩,
  ⟨none, some 33, .call true 94 [.t 31, .t 32]⟩,
  ⟨none, some 12, .mv (.t 33)⟩]
def r56_9 : List SO := [
  ⟨none, some 34, .mv (.t 12)⟩,
  ⟨none, some 35, .mv (.t 11)⟩,
  ⟨none, some 36, .nilck (.t 35)⟩,
  ⟨none, some 37, .fld 4 (.t 36)⟩,
  ⟨none, some 38, .load false 1 (.t 37)⟩,
  ⟨none, some 6, .mv (.t 34)⟩,
  ⟨none, some 7, .mv (.t 38)⟩,
  ⟨none, some 8, .mv (.c (.int .i64 0))⟩]
def s56 : SF := ⟨39, [.tmp 6, .tmp 7, .tmp 8], .seq (.reg r56_0) (.seq (.seq (.reg r56_1) (.seq (.reg r56_2) (.cond (.t 17) (.seq (.reg r56_3) (.ret)) (.skip)))) (.seq (.seq (.reg r56_4) (.seq (.reg r56_5) (.cond (.t 24) (.seq (.reg r56_6) (.ret)) (.skip)))) (.seq (.reg r56_7) (.seq (.reg r56_8) (.seq (.reg r56_9) (.ret))))))⟩
theorem s56_ok : slimF Try.prog ⟨[94, 102, 103, 108, 109, 116, 119, 121, 125], []⟩ Try.f56 = some s56 := by kernel_rfl
end Go.Proofs.Ytngkckefanbhgaa

namespace Go.Proofs.Ytngkckefanbhgaa
open Go Go.Proofs
def r93_0 : List SO := [
  ⟨none, some 2, .box 24 4 (.t 0)⟩,
  ⟨none, some 4, .mv (.c (.int .i64 0))⟩]
def r93_1 : List SO := [
  ⟨none, some 6, .load true 4 (.t 2)⟩,
  ⟨none, some 7, .call false 55 [.t 6]⟩,
  ⟨none, some 5, .mv (.t 7)⟩]
def r93_2 : List SO := [
  ⟨none, some 8, .mv (.t 5)⟩,
  ⟨none, some 9, .bin .neq (.t 8) (.c (.int .i64 0))⟩]
def r93_3 : List SO := [
  ⟨none, some 10, .mv (.t 5)⟩,
  ⟨none, some 4, .mv (.t 10)⟩]
def r93_4 : List SO := [
  ⟨none, some 11, .mv (.t 1)⟩,
  ⟨none, some 12, .bin .lss (.t 11) (.c (.int .i64 0))⟩,
  ⟨none, some 13, .mv (.t 12)⟩,
  ⟨some (13, false), some 14, .mv (.t 1)⟩,
  ⟨some (13, false), some 15, .fld 2 (.t 2)⟩,
  ⟨some (13, false), some 16, .load false 1 (.t 15)⟩,
  ⟨some (13, false), some 17, .len (.t 16)⟩,
  ⟨some (13, false), some 18, .bin .geq (.t 14) (.t 17)⟩,
  ⟨none, some 19, .pick (.t 13) (.c (.bool true)) (.t 18)⟩]
def r93_5 : List SO := [
  ⟨none, some 4, .mv (.c (.int .i64 2))⟩]
def r93_6 : List SO := [
  ⟨none, some 4, .mv (.c (.int .i64 0))⟩]
def s93 : SF := ⟨20, [.tmp 4], .seq (.reg r93_0) (.seq (.seq (.reg r93_1) (.seq (.reg r93_2) (.cond (.t 9) (.seq (.reg r93_3) (.ret)) (.skip)))) (.seq (.seq (.reg r93_4) (.cond (.t 19) (.seq (.reg r93_5) (.ret)) (.skip))) (.seq (.reg r93_6) (.ret))))⟩
theorem s93_ok : slimF Try.prog ⟨[94, 102, 103, 108, 109, 116, 119, 121, 125], []⟩ Try.f93 = some s93 := by kernel_rfl
end Go.Proofs.Ytngkckefanbhgaa

namespace Go.Proofs.Ytngkckefanbhgaa
open Go Go.Proofs
theorem state_pure (m : M) (s : Int) : PureC Try.prog 93 [(V.agg [(iV (m.i)), (iV (m.s)), (V.sl (List.map cL (m.nx))), (V.sl (List.map cL (m.ot)))]), (iV (s))] (iV (stE m s)) := by
 refine pure_of_Wb true 6 Try.func93 s93_ok (by kernel_rfl) (by simp [s93]) (by simp) (by simp) fun hB => ?_
 simp only [bnd_map, bnd_int, bnd_bool, bnd_str, bnd_agg, bnd_pp, bnd_nil, bnd_cons, implies_true, and_true, true_and] at hB
 unfold s93
 dsimp only
 refine W_seq_regc (fun T H => T 1 = (iV (s)) ∧ T 2 = (V.mp 2 1 0 0) ∧ H 2 = (⟨1, true, false, 24, 4, [[(iV (m.i)), (iV (m.s)), (V.sl (List.map cL (m.nx))), (V.sl (List.map cL (m.ot)))]]⟩ : Blk) ∧ True) ?_ ?_
 ·
  unfold r93_0
  refine R_box (i := 2) (n := 0) (m := 4) (cs := [(iV (m.i)), (iV (m.s)), (V.sl (List.map cL (m.nx))), (V.sl (List.map cL (m.ot)))]) rfl (congrArg Blk.ver rfl) (@rfl V (V.agg [(iV (m.i)), (iV (m.s)), (V.sl (List.map cL (m.nx))), (V.sl (List.map cL (m.ot)))])) rfl rfl ?_
  refine R_mv (@rfl V (iV (0 : Int))) ?_
  exact R_nil ⟨rfl, rfl, rfl, trivial⟩
 intro T H ⟨t1, t2, h2, _⟩
 refine W_seq_seq ?_
 refine W_seq_regc (fun T H => T 1 = (iV (s)) ∧ T 2 = (V.mp 2 1 0 0) ∧ T 5 = (iV (mval m)) ∧ H 2 = (⟨1, true, false, 24, 4, [[(iV (m.i)), (iV (m.s)), (V.sl (List.map cL (m.nx))), (V.sl (List.map cL (m.ot)))]]⟩ : Blk) ∧ True) ?_ ?_
 ·
  unfold r93_1
  refine R_load_mp (v := (V.agg [(iV (m.i)), (iV (m.s)), (V.sl (List.map cL (m.nx))), (V.sl (List.map cL (m.ot)))])) t2 h2 (by first | rfl | simp [ldB, ldV, Blk.own, V.one]) ?_
  refine R_call (evcons (@rfl V (V.agg [(iV (m.i)), (iV (m.s)), (V.sl (List.map cL (m.nx))), (V.sl (List.map cL (m.ot)))])) evnil) (mvalid_pure m) (fzv_mapcanon _ _ (by simp [-List.map_take, -List.map_drop, -List.map_append, -List.map_reverse])) (by simp [-List.map_take, -List.map_drop, -List.map_append, -List.map_reverse]) (Or.inl (by simp [-List.map_take, -List.map_drop, -List.map_append, -List.map_reverse])) ?_
  refine R_mv (@rfl V (iV (mval m))) ?_
  exact R_nil ⟨t1, t2, rfl, h2, trivial⟩
 intro T H ⟨t1, t2, t5, h2, _⟩
 refine W_seq_seq ?_
 refine W_seq_regc (fun T H => T 1 = (iV (s)) ∧ T 2 = (V.mp 2 1 0 0) ∧ T 5 = (iV (mval m)) ∧ T 9 = (V.bool (decide ((mval m) ≠ (0 : Int)))) ∧ H 2 = (⟨1, true, false, 24, 4, [[(iV (m.i)), (iV (m.s)), (V.sl (List.map cL (m.nx))), (V.sl (List.map cL (m.ot)))]]⟩ : Blk) ∧ True) ?_ ?_
 ·
  unfold r93_2
  refine R_mv t5 ?_
  refine R_neq (x := (mval m)) (y := (0 : Int)) (@rfl V (iV (mval m))) (@rfl V (iV (0 : Int))) ?_
  exact R_nil ⟨t1, t2, t5, rfl, h2, trivial⟩
 intro T H ⟨t1, t2, t5, t9, h2, _⟩
 refine W_seq_if (p := (mval m) ≠ (0 : Int)) t9 (fun c1 => ?_) (fun c1 => ?_)
 ·
  refine W_seq_seq ?_
  refine W_seq_regc (fun T H => T 4 = (iV (mval m)) ∧ H 2 = (⟨1, true, false, 24, 4, [[(iV (m.i)), (iV (m.s)), (V.sl (List.map cL (m.nx))), (V.sl (List.map cL (m.ot)))]]⟩ : Blk) ∧ True) ?_ ?_
  ·
   unfold r93_3
   refine R_mv t5 ?_
   refine R_mv (@rfl V (iV (mval m))) ?_
   exact R_nil ⟨rfl, h2, trivial⟩
  intro T H ⟨t4, h2, _⟩
  refine W_seq_ret ?_
  refine Ret_1 t4 (fz_int ?_)
  · rw [stE, if_pos (by omega)]
 refine W_seq_skip ?_
 refine W_seq_seq ?_
 refine W_seq_regc (fun T H => T 19 = (V.bool (decide (((s) < (0 : Int)) ∨ (((m.nx.length : Nat) : Int) ≤ (s))))) ∧ H 2 = (⟨1, true, false, 24, 4, [[(iV (m.i)), (iV (m.s)), (V.sl (List.map cL (m.nx))), (V.sl (List.map cL (m.ot)))]]⟩ : Blk) ∧ True) ?_ ?_
 ·
  unfold r93_4
  refine R_mv t1 ?_
  refine R_lss (x := (s)) (y := (0 : Int)) (@rfl V (iV (s))) (@rfl V (iV (0 : Int))) ?_
  refine R_mv (@rfl V (V.bool (decide ((s) < (0 : Int))))) ?_
  refine Ops_seg 6 (fun T H => T 19 = (V.bool (decide (((s) < (0 : Int)) ∨ (((m.nx.length : Nat) : Int) ≤ (s))))) ∧ H 2 = (⟨1, true, false, 24, 4, [[(iV (m.i)), (iV (m.s)), (V.sl (List.map cL (m.nx))), (V.sl (List.map cL (m.ot)))]]⟩ : Blk) ∧ True) ?_ ?_
  ·
   by_cases g2 : (s) < (0 : Int)
   ·
    refine G_no (Eq.trans (@rfl V (V.bool (decide ((s) < (0 : Int))))) (bdT g2)) (by decide) ?_
    refine G_no (Eq.trans (@rfl V (V.bool (decide ((s) < (0 : Int))))) (bdT g2)) (by decide) ?_
    refine G_no (Eq.trans (@rfl V (V.bool (decide ((s) < (0 : Int))))) (bdT g2)) (by decide) ?_
    refine G_no (Eq.trans (@rfl V (V.bool (decide ((s) < (0 : Int))))) (bdT g2)) (by decide) ?_
    refine G_no (Eq.trans (@rfl V (V.bool (decide ((s) < (0 : Int))))) (bdT g2)) (by decide) ?_
    refine R_pickT (Eq.trans (@rfl V (V.bool (decide ((s) < (0 : Int))))) (bdT g2)) (@rfl V (V.bool true)) ?_
    exact ⟨(Eq.trans (@rfl V (V.bool true)) (dec_orT g2)), h2, trivial⟩
   ·
    refine G_yes (Eq.trans (@rfl V (V.bool (decide ((s) < (0 : Int))))) (bdF g2)) ?_
    refine R_mv t1 ?_
    refine G_yes (Eq.trans (@rfl V (V.bool (decide ((s) < (0 : Int))))) (bdF g2)) ?_
    refine R_fld_mp (o' := 2) t2 h2 (by first | rfl | simp [okB, Blk.own]) rfl ?_
    refine G_yes (Eq.trans (@rfl V (V.bool (decide ((s) < (0 : Int))))) (bdF g2)) ?_
    refine R_load_mp (v := (V.sl (List.map cL (m.nx)))) (@rfl V (V.mp 2 1 0 2)) h2 (by first | rfl | simp [ldB, ldV, Blk.own, V.one]) ?_
    refine G_yes (Eq.trans (@rfl V (V.bool (decide ((s) < (0 : Int))))) (bdF g2)) ?_
    refine R_len (@rfl V (V.sl (List.map cL (m.nx)))) ?_
    refine G_yes (Eq.trans (@rfl V (V.bool (decide ((s) < (0 : Int))))) (bdF g2)) ?_
    refine R_geq (x := (s)) (y := ((m.nx.length : Nat) : Int)) (@rfl V (iV (s))) (@rfl V (iV ((m.nx.length : Nat) : Int))) ?_
    refine R_pickF (Eq.trans (@rfl V (V.bool (decide ((s) < (0 : Int))))) (bdF g2)) (@rfl V (V.bool (decide (((m.nx.length : Nat) : Int) ≤ (s))))) ?_
    exact ⟨(Eq.trans (@rfl V (V.bool (decide (((m.nx.length : Nat) : Int) ≤ (s))))) (dec_orF g2)), h2, trivial⟩
  intro T H ⟨t19, h2, _⟩
  exact R_nil ⟨t19, h2, trivial⟩
 intro T H ⟨t19, h2, _⟩
 refine W_seq_if (p := ((s) < (0 : Int)) ∨ (((m.nx.length : Nat) : Int) ≤ (s))) t19 (fun c3 => ?_) (fun c3 => ?_)
 ·
  refine W_seq_seq ?_
  refine W_seq_regc (fun T H => T 4 = (iV (2 : Int)) ∧ H 2 = (⟨1, true, false, 24, 4, [[(iV (m.i)), (iV (m.s)), (V.sl (List.map cL (m.nx))), (V.sl (List.map cL (m.ot)))]]⟩ : Blk) ∧ True) ?_ ?_
  ·
   unfold r93_5
   refine R_mv (@rfl V (iV (2 : Int))) ?_
   exact R_nil ⟨rfl, h2, trivial⟩
  intro T H ⟨t4, h2, _⟩
  refine W_seq_ret ?_
  refine Ret_1 t4 (fz_int ?_)
  · rw [stE, if_neg (by omega), if_pos (by omega)]
 refine W_seq_skip ?_
 refine W_seq_regc (fun T H => T 4 = (iV (0 : Int)) ∧ H 2 = (⟨1, true, false, 24, 4, [[(iV (m.i)), (iV (m.s)), (V.sl (List.map cL (m.nx))), (V.sl (List.map cL (m.ot)))]]⟩ : Blk) ∧ True) ?_ ?_
 ·
  unfold r93_6
  refine R_mv (@rfl V (iV (0 : Int))) ?_
  exact R_nil ⟨rfl, h2, trivial⟩
 intro T H ⟨t4, h2, _⟩
 refine W_ret ?_
 refine Ret_1 t4 (fz_int ?_)
 · rw [stE, if_neg (by omega), if_neg (by omega)]
end Go.Proofs.Ytngkckefanbhgaa

namespace Go.Proofs.Ytngkckefanbhgaa
open Go Go.Proofs
theorem from_pure (m : M) (s : Int) (w : List Int) : PureC Try.prog 56 [(V.agg [(iV (m.i)), (iV (m.s)), (V.sl (List.map cL (m.nx))), (V.sl (List.map cL (m.ot)))]), (iV (s)), (V.sl (List.map cI (w)))] (V.tup [(V.sl (List.map cI (frOut m s w))), (iV (frEnd m s w)), (iV (frE m s w))]) := by
 refine pure_of_Wb true 6 Try.func56 s56_ok (by kernel_rfl) (by simp [s56]) (by simp) (by simp) fun hB => ?_
 simp only [bnd_map, bnd_int, bnd_bool, bnd_str, bnd_agg, bnd_pp, bnd_nil, bnd_cons, implies_true, and_true, true_and] at hB
 unfold s56
 dsimp only
 refine W_seq_regc (fun T H => T 1 = (iV (s)) ∧ T 2 = (V.sl (List.map cI (w))) ∧ T 3 = (V.mp 3 1 0 0) ∧ H 3 = (⟨1, true, false, 24, 4, [[(iV (m.i)), (iV (m.s)), (V.sl (List.map cL (m.nx))), (V.sl (List.map cL (m.ot)))]]⟩ : Blk) ∧ H 30 = (⟨0, false, false, 0, 0, []⟩ : Blk) ∧ H 105 = (⟨0, false, false, 0, 0, []⟩ : Blk) ∧ True) ?_ ?_
 ·
  unfold r56_0
  refine R_box (i := 3) (n := 0) (m := 4) (cs := [(iV (m.i)), (iV (m.s)), (V.sl (List.map cL (m.nx))), (V.sl (List.map cL (m.ot)))]) rfl (congrArg Blk.ver rfl) (@rfl V (V.agg [(iV (m.i)), (iV (m.s)), (V.sl (List.map cL (m.nx))), (V.sl (List.map cL (m.ot)))])) rfl rfl ?_
  refine R_mv (@rfl V V.nilsl) ?_
  refine R_mv (@rfl V (iV (0 : Int))) ?_
  refine R_mv (@rfl V (iV (0 : Int))) ?_
  exact R_nil ⟨rfl, rfl, rfl, rfl, rfl, rfl, trivial⟩
 intro T H ⟨t1, t2, t3, h3, h30, h105, _⟩
 refine W_seq_seq ?_
 refine W_seq_regc (fun T H => T 1 = (iV (s)) ∧ T 2 = (V.sl (List.map cI (w))) ∧ T 3 = (V.mp 3 1 0 0) ∧ T 9 = (iV (stE m ((s)))) ∧ H 3 = (⟨1, true, false, 24, 4, [[(iV (m.i)), (iV (m.s)), (V.sl (List.map cL (m.nx))), (V.sl (List.map cL (m.ot)))]]⟩ : Blk) ∧ H 30 = (⟨0, false, false, 0, 0, []⟩ : Blk) ∧ H 105 = (⟨0, false, false, 0, 0, []⟩ : Blk) ∧ True) ?_ ?_
 ·
  unfold r56_1
  refine R_load_mp (v := (V.agg [(iV (m.i)), (iV (m.s)), (V.sl (List.map cL (m.nx))), (V.sl (List.map cL (m.ot)))])) t3 h3 (by first | rfl | simp [ldB, ldV, Blk.own, V.one]) ?_
  refine R_mv t1 ?_
  refine R_call (evcons (@rfl V (V.agg [(iV (m.i)), (iV (m.s)), (V.sl (List.map cL (m.nx))), (V.sl (List.map cL (m.ot)))])) (evcons (@rfl V (iV (s))) evnil)) (state_pure m ((s))) (fzv_mapcanon _ _ (by simp [-List.map_take, -List.map_drop, -List.map_append, -List.map_reverse])) (by simp [-List.map_take, -List.map_drop, -List.map_append, -List.map_reverse]) (Or.inl (by simp [-List.map_take, -List.map_drop, -List.map_append, -List.map_reverse])) ?_
  refine R_mv (@rfl V (iV (stE m ((s))))) ?_
  exact R_nil ⟨t1, t2, t3, rfl, h3, h30, h105, trivial⟩
 intro T H ⟨t1, t2, t3, t9, h3, h30, h105, _⟩
 refine W_seq_seq ?_
 refine W_seq_regc (fun T H => T 1 = (iV (s)) ∧ T 2 = (V.sl (List.map cI (w))) ∧ T 3 = (V.mp 3 1 0 0) ∧ T 9 = (iV (stE m ((s)))) ∧ T 17 = (V.bool (decide ((stE m ((s))) ≠ (0 : Int)))) ∧ H 3 = (⟨1, true, false, 24, 4, [[(iV (m.i)), (iV (m.s)), (V.sl (List.map cL (m.nx))), (V.sl (List.map cL (m.ot)))]]⟩ : Blk) ∧ H 30 = (⟨0, false, false, 0, 0, []⟩ : Blk) ∧ H 105 = (⟨0, false, false, 0, 0, []⟩ : Blk) ∧ True) ?_ ?_
 ·
  unfold r56_2
  refine R_mv t9 ?_
  refine R_neq (x := (stE m ((s)))) (y := (0 : Int)) (@rfl V (iV (stE m ((s))))) (@rfl V (iV (0 : Int))) ?_
  exact R_nil ⟨t1, t2, t3, t9, rfl, h3, h30, h105, trivial⟩
 intro T H ⟨t1, t2, t3, t9, t17, h3, h30, h105, _⟩
 refine W_seq_if (p := (stE m ((s))) ≠ (0 : Int)) t17 (fun c1 => ?_) (fun c1 => ?_)
 ·
  refine W_seq_seq ?_
  refine W_seq_regc (fun T H => T 6 = V.nilsl ∧ T 7 = (iV (0 : Int)) ∧ T 8 = (iV (stE m ((s)))) ∧ H 3 = (⟨1, true, false, 24, 4, [[(iV (m.i)), (iV (m.s)), (V.sl (List.map cL (m.nx))), (V.sl (List.map cL (m.ot)))]]⟩ : Blk) ∧ H 30 = (⟨0, false, false, 0, 0, []⟩ : Blk) ∧ H 105 = (⟨0, false, false, 0, 0, []⟩ : Blk) ∧ True) ?_ ?_
  ·
   unfold r56_3
   refine R_mv t9 ?_
   refine R_mv (@rfl V V.nilsl) ?_
   refine R_mv (@rfl V (iV (0 : Int))) ?_
   refine R_mv (@rfl V (iV (stE m ((s))))) ?_
   exact R_nil ⟨rfl, rfl, rfl, h3, h30, h105, trivial⟩
  intro T H ⟨t6, t7, t8, h3, h30, h105, _⟩
  refine W_seq_ret ?_
  refine Ret_3 t6 t7 t8 (fz_nil ?_) (fz_int ?_) (fz_int ?_)
  · rw [frOut, if_pos (by rw [frE, if_pos (by omega)]; omega)]
  · rw [frEnd, if_pos (by rw [frE, if_pos (by omega)]; omega)]
  · rw [frE, if_pos (by omega)]
 have hs := stE_ok (m := m) (s := s) (by omega)
 refine W_seq_skip ?_
 refine W_seq_seq ?_
 refine W_seq_regc (fun T H => T 1 = (iV (s)) ∧ T 2 = (V.sl (List.map cI (w))) ∧ T 3 = (V.mp 3 1 0 0) ∧ T 10 = (iV (wchk w ((m.i)))) ∧ H 3 = (⟨1, true, false, 24, 4, [[(iV (m.i)), (iV (m.s)), (V.sl (List.map cL (m.nx))), (V.sl (List.map cL (m.ot)))]]⟩ : Blk) ∧ H 30 = (⟨0, false, false, 0, 0, []⟩ : Blk) ∧ H 105 = (⟨0, false, false, 0, 0, []⟩ : Blk) ∧ True) ?_ ?_
 ·
  unfold r56_4
  refine R_mv t2 ?_
  refine R_fld_mp (o' := 0) t3 h3 (by first | rfl | simp [okB, Blk.own]) rfl ?_
  refine R_load_mp (v := (iV (m.i))) (@rfl V (V.mp 3 1 0 0)) h3 (by first | rfl | simp [ldB, ldV, Blk.own, V.one]) ?_
  refine R_call (evcons (@rfl V (V.sl (List.map cI (w)))) (evcons (@rfl V (iV (m.i))) evnil)) (check_pure w ((m.i))) (fzv_mapcanon _ _ (by simp [-List.map_take, -List.map_drop, -List.map_append, -List.map_reverse])) (by simp [-List.map_take, -List.map_drop, -List.map_append, -List.map_reverse]) (Or.inl (by simp [-List.map_take, -List.map_drop, -List.map_append, -List.map_reverse])) ?_
  refine R_mv (@rfl V (iV (wchk w ((m.i))))) ?_
  exact R_nil ⟨t1, t2, t3, rfl, h3, h30, h105, trivial⟩
 intro T H ⟨t1, t2, t3, t10, h3, h30, h105, _⟩
 refine W_seq_seq ?_
 refine W_seq_regc (fun T H => T 1 = (iV (s)) ∧ T 2 = (V.sl (List.map cI (w))) ∧ T 3 = (V.mp 3 1 0 0) ∧ T 10 = (iV (wchk w ((m.i)))) ∧ T 24 = (V.bool (decide ((wchk w ((m.i))) ≠ (0 : Int)))) ∧ H 3 = (⟨1, true, false, 24, 4, [[(iV (m.i)), (iV (m.s)), (V.sl (List.map cL (m.nx))), (V.sl (List.map cL (m.ot)))]]⟩ : Blk) ∧ H 30 = (⟨0, false, false, 0, 0, []⟩ : Blk) ∧ H 105 = (⟨0, false, false, 0, 0, []⟩ : Blk) ∧ True) ?_ ?_
 ·
  unfold r56_5
  refine R_mv t10 ?_
  refine R_neq (x := (wchk w ((m.i)))) (y := (0 : Int)) (@rfl V (iV (wchk w ((m.i))))) (@rfl V (iV (0 : Int))) ?_
  exact R_nil ⟨t1, t2, t3, t10, rfl, h3, h30, h105, trivial⟩
 intro T H ⟨t1, t2, t3, t10, t24, h3, h30, h105, _⟩
 refine W_seq_if (p := (wchk w ((m.i))) ≠ (0 : Int)) t24 (fun c2 => ?_) (fun c2 => ?_)
 ·
  refine W_seq_seq ?_
  refine W_seq_regc (fun T H => T 6 = V.nilsl ∧ T 7 = (iV (0 : Int)) ∧ T 8 = (iV (wchk w ((m.i)))) ∧ H 3 = (⟨1, true, false, 24, 4, [[(iV (m.i)), (iV (m.s)), (V.sl (List.map cL (m.nx))), (V.sl (List.map cL (m.ot)))]]⟩ : Blk) ∧ H 30 = (⟨0, false, false, 0, 0, []⟩ : Blk) ∧ H 105 = (⟨0, false, false, 0, 0, []⟩ : Blk) ∧ True) ?_ ?_
  ·
   unfold r56_6
   refine R_mv t10 ?_
   refine R_mv (@rfl V V.nilsl) ?_
   refine R_mv (@rfl V (iV (0 : Int))) ?_
   refine R_mv (@rfl V (iV (wchk w ((m.i))))) ?_
   exact R_nil ⟨rfl, rfl, rfl, h3, h30, h105, trivial⟩
  intro T H ⟨t6, t7, t8, h3, h30, h105, _⟩
  refine W_seq_ret ?_
  refine Ret_3 t6 t7 t8 (fz_nil ?_) (fz_int ?_) (fz_int ?_)
  · rw [frOut, if_pos (by rw [frE, if_neg (by omega)]; omega)]
  · rw [frEnd, if_pos (by rw [frE, if_neg (by omega)]; omega)]
  · rw [frE, if_neg (by omega)]
 have hw := wchk_ok (w := w) (n := m.i) (by omega)
 refine W_seq_skip ?_
 refine W_seq_regc (fun T H => T 2 = (V.sl (List.map cI (w))) ∧ T 11 = (V.mp 30 1 0 0) ∧ H 3 = (⟨1, true, false, 24, 4, [[(iV (m.i)), (iV (m.s)), (V.sl (List.map cL (m.nx))), (V.sl (List.map cL (m.ot)))]]⟩ : Blk) ∧ H 30 = (⟨1, true, false, 122, 5, [[(iV (m.i)), (iV (m.s)), (V.sl (List.map cL (m.nx))), (V.sl (List.map cL (m.ot))), (iV (s))]]⟩ : Blk) ∧ H 105 = (⟨0, false, false, 0, 0, []⟩ : Blk) ∧ True) ?_ ?_
 ·
  unfold r56_7
  refine R_load_mp (v := (V.agg [(iV (m.i)), (iV (m.s)), (V.sl (List.map cL (m.nx))), (V.sl (List.map cL (m.ot)))])) t3 h3 (by first | rfl | simp [ldB, ldV, Blk.own, V.one]) ?_
  refine R_build (qs := [(0, 4, (V.agg [(iV (m.i)), (iV (m.s)), (V.sl (List.map cL (m.nx))), (V.sl (List.map cL (m.ot)))]))]) (cs := [(iV (m.i)), (iV (m.s)), (V.sl (List.map cL (m.nx))), (V.sl (List.map cL (m.ot)))]) (mcons (congrArg (fun v => (0, 4, v)) (@rfl V (V.agg [(iV (m.i)), (iV (m.s)), (V.sl (List.map cL (m.nx))), (V.sl (List.map cL (m.ot)))]))) rfl) rfl ?_
  refine R_mv t1 ?_
  refine R_build (qs := [(0, 4, (V.agg [(iV (m.i)), (iV (m.s)), (V.sl (List.map cL (m.nx))), (V.sl (List.map cL (m.ot)))])), (4, 1, (iV (s)))]) (cs := [(iV (m.i)), (iV (m.s)), (V.sl (List.map cL (m.nx))), (V.sl (List.map cL (m.ot))), (iV (s))]) (mcons (congrArg (fun v => (0, 4, v)) (@rfl V (V.agg [(iV (m.i)), (iV (m.s)), (V.sl (List.map cL (m.nx))), (V.sl (List.map cL (m.ot)))]))) (mcons (congrArg (fun v => (4, 1, v)) (@rfl V (iV (s)))) rfl)) rfl ?_
  refine R_box (i := 30) (n := 0) (m := 5) (cs := [(iV (m.i)), (iV (m.s)), (V.sl (List.map cL (m.nx))), (V.sl (List.map cL (m.ot))), (iV (s))]) rfl (congrArg Blk.ver h30) (@rfl V (V.agg [(iV (m.i)), (iV (m.s)), (V.sl (List.map cL (m.nx))), (V.sl (List.map cL (m.ot))), (iV (s))])) rfl rfl ?_
  refine R_mv (@rfl V (V.mp 30 1 0 0)) ?_
  exact R_nil ⟨t2, rfl, h3, rfl, h105, trivial⟩
 intro T H ⟨t2, t11, h3, h30, h105, _⟩
 refine W_seq_regc (fun T H => T 11 = (V.mp 30 1 0 0) ∧ T 12 = (V.sl (List.map cI (outs m s w))) ∧ H 3 = (⟨1, true, false, 24, 4, [[(iV (m.i)), (iV (m.s)), (V.sl (List.map cL (m.nx))), (V.sl (List.map cL (m.ot)))]]⟩ : Blk) ∧ H 30 = (⟨1, true, false, 122, 5, [[(iV (m.i)), (iV (m.s)), (V.sl (List.map cL (m.nx))), (V.sl (List.map cL (m.ot))), (iV (goal m s w))]]⟩ : Blk) ∧ H 105 = (⟨0 + 1 + w.length, false, false, 0, 0, []⟩ : Blk) ∧ True) ?_ ?_
 ·
  unfold r56_8
  refine R_mv t11 ?_
  refine R_mv t2 ?_
  refine R_callE (evcons (@rfl V (V.mp 30 1 0 0)) (evcons (@rfl V (V.sl (List.map cI (w)))) evnil)) (run_E m s w 1 0 _ h30 (congrArg Blk.ver h105) hs.1 hs.2 hw.1 hw.2) ?_
  refine R_mv (@rfl V (V.sl (List.map cI (outs m s w)))) ?_
  exact R_nil ⟨t11, rfl, h3, rfl, rfl, trivial⟩
 intro T H ⟨t11, t12, h3, h30, h105, _⟩
 refine W_seq_regc (fun T H => T 6 = (V.sl (List.map cI (outs m s w))) ∧ T 7 = (iV (goal m s w)) ∧ T 8 = (iV (0 : Int)) ∧ H 3 = (⟨1, true, false, 24, 4, [[(iV (m.i)), (iV (m.s)), (V.sl (List.map cL (m.nx))), (V.sl (List.map cL (m.ot)))]]⟩ : Blk) ∧ H 30 = (⟨1, true, false, 122, 5, [[(iV (m.i)), (iV (m.s)), (V.sl (List.map cL (m.nx))), (V.sl (List.map cL (m.ot))), (iV (goal m s w))]]⟩ : Blk) ∧ H 105 = (⟨0 + 1 + w.length, false, false, 0, 0, []⟩ : Blk) ∧ True) ?_ ?_
 ·
  unfold r56_9
  refine R_mv t12 ?_
  refine R_mv t11 ?_
  refine R_nilck_mp (@rfl V (V.mp 30 1 0 0)) h30 (by first | rfl | simp [okB, Blk.own]) ?_
  refine R_fld_mp (o' := 4) (@rfl V (V.mp 30 1 0 0)) h30 (by first | rfl | simp [okB, Blk.own]) rfl ?_
  refine R_load_mp (v := (iV (goal m s w))) (@rfl V (V.mp 30 1 0 4)) h30 (by first | rfl | simp [ldB, ldV, Blk.own, V.one]) ?_
  refine R_mv (@rfl V (V.sl (List.map cI (outs m s w)))) ?_
  refine R_mv (@rfl V (iV (goal m s w))) ?_
  refine R_mv (@rfl V (iV (0 : Int))) ?_
  exact R_nil ⟨rfl, rfl, rfl, h3, h30, h105, trivial⟩
 intro T H ⟨t6, t7, t8, h3, h30, h105, _⟩
 refine W_ret ?_
 refine Ret_3 t6 t7 t8 (fz_sl ?_ (fun _ => by simp)) (fz_int ?_) (fz_int ?_)
 · rw [frOut, if_neg (by rw [frE, if_neg (by omega)]; omega)]
 · rw [frEnd, if_neg (by rw [frE, if_neg (by omega)]; omega)]
 · rw [frE, if_neg (by omega)]; omega
end Go.Proofs.Ytngkckefanbhgaa

namespace Go.Proofs.Ytngkckefanbhgaa
open Go Go.Proofs
theorem mrun_pure (m : M) (w : List Int) : PureC Try.prog 37 [(V.agg [(iV (m.i)), (iV (m.s)), (V.sl (List.map cL (m.nx))), (V.sl (List.map cL (m.ot)))]), (V.sl (List.map cI (w)))] (V.tup [(V.sl (List.map cI (frOut m m.s w))), (iV (frE m m.s w))]) := by
 refine pure_of_Wb true 6 Try.func37 s37_ok (by kernel_rfl) (by simp [s37]) (by simp) (by simp) fun hB => ?_
 simp only [bnd_map, bnd_int, bnd_bool, bnd_str, bnd_agg, bnd_pp, bnd_nil, bnd_cons, implies_true, and_true, true_and] at hB
 unfold s37
 dsimp only
 refine W_seq_regc (fun T H => T 1 = (V.sl (List.map cI (w))) ∧ T 2 = (V.mp 2 1 0 0) ∧ H 2 = (⟨1, true, false, 24, 4, [[(iV (m.i)), (iV (m.s)), (V.sl (List.map cL (m.nx))), (V.sl (List.map cL (m.ot)))]]⟩ : Blk) ∧ True) ?_ ?_
 ·
  unfold r37_0
  refine R_box (i := 2) (n := 0) (m := 4) (cs := [(iV (m.i)), (iV (m.s)), (V.sl (List.map cL (m.nx))), (V.sl (List.map cL (m.ot)))]) rfl (congrArg Blk.ver rfl) (@rfl V (V.agg [(iV (m.i)), (iV (m.s)), (V.sl (List.map cL (m.nx))), (V.sl (List.map cL (m.ot)))])) rfl rfl ?_
  refine R_mv (@rfl V V.nilsl) ?_
  refine R_mv (@rfl V (iV (0 : Int))) ?_
  exact R_nil ⟨rfl, rfl, rfl, trivial⟩
 intro T H ⟨t1, t2, h2, _⟩
 refine W_seq_regc (fun T H => T 6 = (V.sl (List.map cI (frOut m ((m.s)) w))) ∧ T 8 = (iV (frE m ((m.s)) w)) ∧ H 2 = (⟨1, true, false, 24, 4, [[(iV (m.i)), (iV (m.s)), (V.sl (List.map cL (m.nx))), (V.sl (List.map cL (m.ot)))]]⟩ : Blk) ∧ True) ?_ ?_
 ·
  unfold r37_1
  refine R_load_mp (v := (V.agg [(iV (m.i)), (iV (m.s)), (V.sl (List.map cL (m.nx))), (V.sl (List.map cL (m.ot)))])) t2 h2 (by first | rfl | simp [ldB, ldV, Blk.own, V.one]) ?_
  refine R_fld_mp (o' := 1) t2 h2 (by first | rfl | simp [okB, Blk.own]) rfl ?_
  refine R_load_mp (v := (iV (m.s))) (@rfl V (V.mp 2 1 0 1)) h2 (by first | rfl | simp [ldB, ldV, Blk.own, V.one]) ?_
  refine R_mv t1 ?_
  refine R_call (evcons (@rfl V (V.agg [(iV (m.i)), (iV (m.s)), (V.sl (List.map cL (m.nx))), (V.sl (List.map cL (m.ot)))])) (evcons (@rfl V (iV (m.s))) (evcons (@rfl V (V.sl (List.map cI (w)))) evnil))) (from_pure m ((m.s)) w) (fzv_mapcanon _ _ (by simp [-List.map_take, -List.map_drop, -List.map_append, -List.map_reverse])) (by simp [-List.map_take, -List.map_drop, -List.map_append, -List.map_reverse]) (Or.inl (by simp [-List.map_take, -List.map_drop, -List.map_append, -List.map_reverse])) ?_
  refine R_mv (@rfl V (V.tup [(V.sl (List.map cI (frOut m ((m.s)) w))), (iV (frEnd m ((m.s)) w)), (iV (frE m ((m.s)) w))])) ?_
  refine R_ext (v := (V.sl (List.map cI (frOut m ((m.s)) w)))) (@rfl V (V.tup [(V.sl (List.map cI (frOut m ((m.s)) w))), (iV (frEnd m ((m.s)) w)), (iV (frE m ((m.s)) w))])) rfl ?_
  refine R_ext (v := (iV (frEnd m ((m.s)) w))) (@rfl V (V.tup [(V.sl (List.map cI (frOut m ((m.s)) w))), (iV (frEnd m ((m.s)) w)), (iV (frE m ((m.s)) w))])) rfl ?_
  refine R_ext (v := (iV (frE m ((m.s)) w))) (@rfl V (V.tup [(V.sl (List.map cI (frOut m ((m.s)) w))), (iV (frEnd m ((m.s)) w)), (iV (frE m ((m.s)) w))])) rfl ?_
  refine R_mv (@rfl V (V.sl (List.map cI (frOut m ((m.s)) w)))) ?_
  refine R_mv (@rfl V (iV (frEnd m ((m.s)) w))) ?_
  refine R_mv (@rfl V (iV (frE m ((m.s)) w))) ?_
  exact R_nil ⟨rfl, rfl, h2, trivial⟩
 intro T H ⟨t6, t8, h2, _⟩
 refine W_seq_regc (fun T H => T 4 = (V.sl (List.map cI (frOut m ((m.s)) w))) ∧ T 5 = (iV (frE m ((m.s)) w)) ∧ H 2 = (⟨1, true, false, 24, 4, [[(iV (m.i)), (iV (m.s)), (V.sl (List.map cL (m.nx))), (V.sl (List.map cL (m.ot)))]]⟩ : Blk) ∧ True) ?_ ?_
 ·
  unfold r37_2
  refine R_mv t6 ?_
  refine R_mv t8 ?_
  refine R_mv (@rfl V (V.sl (List.map cI (frOut m ((m.s)) w)))) ?_
  refine R_mv (@rfl V (iV (frE m ((m.s)) w))) ?_
  exact R_nil ⟨rfl, rfl, h2, trivial⟩
 intro T H ⟨t4, t5, h2, _⟩
 refine W_ret ?_
 refine Ret_2 t4 t5 (fz_sl ?_ (fun _ => by simp)) (fz_int ?_)
 · rfl
 · rfl
end Go.Proofs.Ytngkckefanbhgaa

namespace Go.Proofs.Ytngkckefanbhgaa
open Go Go.Proofs
def r36_0 : List SO := [
  ⟨none, some 1, .box 34 2 (.t 0)⟩,
  ⟨none, some 2, .mv (.c (.int .i64 0))⟩]
def r36_1 : List SO := [
  ⟨none, some 10, .fld 0 (.t 1)⟩,
  ⟨none, some 11, .load false 1 (.t 10)⟩,
  ⟨none, some 12, .bin .lss (.t 11) (.c (.int .i64 1))⟩,
  ⟨none, some 13, .mv (.t 12)⟩,
  ⟨some (13, false), some 14, .fld 0 (.t 1)⟩,
  ⟨some (13, false), some 15, .load false 1 (.t 14)⟩,
  ⟨some (13, false), some 16, .bin .gtr (.t 15) (.c (.int .i64 64))⟩,
  ⟨none, some 17, .pick (.t 13) (.c (.bool true)) (.t 16)⟩]
def r36_2 : List SO := [
  ⟨none, some 2, .mv (.c (.int .i64 2))⟩]
def r36_3 : List SO := [
  ⟨none, some 18, .fld 1 (.t 1)⟩,
  ⟨none, some 19, .load false 1 (.t 18)⟩,
  ⟨none, some 20, .len (.t 19)⟩,
  ⟨none, some 21, .bin .gtr (.t 20) (.c (.int .i64 10000))⟩]
def r36_4 : List SO := [
  ⟨none, some 2, .mv (.c (.int .i64 11))⟩]
def r36_5 : List SO := [
  ⟨none, some 22, .fld 1 (.t 1)⟩,
  ⟨none, some 23, .load false 1 (.t 22)⟩,
  ⟨none, some 24, .len (.t 23)⟩,
  ⟨none, some 25, .mv (.c (.int .i64 0))⟩]
def r36_6 : List SO := [
  ⟨none, some 26, .bin .lss (.t 25) (.t 24)⟩]
def r36_7 : List SO := [
  ⟨none, some 27, .mv (.t 25)⟩,
  ⟨none, some 28, .idx 2 (.t 23) (.t 25)⟩,
  ⟨none, some 29, .load true 2 (.t 28)⟩,
  ⟨none, some 4, .alloc 63 [.nilsl, .nilsl]⟩,
  ⟨none, some 3, .mv (.t 27)⟩,
  ⟨none, none, .store 2 (.t 4) (.t 29)⟩]
def r36_8 : List SO := [
  ⟨none, some 30, .fld 0 (.t 4)⟩,
  ⟨none, some 31, .load false 1 (.t 30)⟩,
  ⟨none, some 32, .fld 0 (.t 1)⟩,
  ⟨none, some 33, .load false 1 (.t 32)⟩,
  ⟨none, some 34, .call false 77 [.t 31, .t 33]⟩,
  ⟨none, some 5, .mv (.t 34)⟩]
def r36_9 : List SO := [
  ⟨none, some 35, .mv (.t 5)⟩,
  ⟨none, some 36, .bin .neq (.t 35) (.c (.int .i64 0))⟩]
def r36_10 : List SO := [
  ⟨none, some 37, .mv (.t 5)⟩,
  ⟨none, some 2, .mv (.t 37)⟩]
def r36_11 : List SO := [
  ⟨none, some 38, .fld 0 (.t 4)⟩,
  ⟨none, some 39, .load false 1 (.t 38)⟩,
  ⟨none, some 40, .len (.t 39)⟩,
  ⟨none, some 41, .bin .eql (.t 40) (.c (.int .i64 0))⟩]
def r36_12 : List SO := [
  ⟨none, some 2, .mv (.c (.int .i64 19))⟩]
def r36_13 : List SO := [
  ⟨none, some 42, .load true 2 (.t 4)⟩,
  ⟨none, some 43, .fld 0 (.t 1)⟩,
  ⟨none, some 44, .load false 1 (.t 43)⟩,
  ⟨none, some 45, .call false 78 [.t 42, .t 44]⟩,
  ⟨none, some 6, .mv (.t 45)⟩]
def r36_14 : List SO := [
  ⟨none, some 46, .mv (.t 6)⟩,
  ⟨none, some 47, .bin .neq (.t 46) (.c (.int .i64 0))⟩]
def r36_15 : List SO := [
  ⟨none, some 48, .mv (.t 6)⟩,
  ⟨none, some 2, .mv (.t 48)⟩]
def r36_16 : List SO := [
  ⟨none, some 49, .mv (.t 3)⟩,
  ⟨none, some 50, .bin .gtr (.t 49) (.c (.int .i64 0))⟩,
  ⟨none, some 51, .mv (.t 50)⟩,
  ⟨some (51, true), some 52, .fld 1 (.t 1)⟩,
  ⟨some (51, true), some 53, .load false 1 (.t 52)⟩,
  ⟨some (51, true), some 54, .mv (.t 3)⟩,
  ⟨some (51, true), some 55, .bin .sub (.t 54) (.c (.int .i64 1))⟩,
  ⟨some (51, true), some 56, .idx 2 (.t 53) (.t 55)⟩,
  ⟨some (51, true), some 57, .load true 2 (.t 56)⟩,
  ⟨some (51, true), some 58, .load true 2 (.t 4)⟩,
  ⟨some (51, true), some 59, .call false 79 [.t 57, .t 58]⟩,
  ⟨some (51, true), some 60, .bin .geq (.t 59) (.c (.int .i64 0))⟩,
  ⟨none, some 61, .pick (.t 51) (.t 60) (.c (.bool false))⟩]
def r36_17 : List SO := [
  ⟨none, some 2, .mv (.c (.int .i64 10))⟩]
def r36_18 : List SO := [
  ⟨none, some 62, .bin .add (.t 25) (.c (.int .i64 1))⟩,
  ⟨none, some 25, .mv (.t 62)⟩]
def b36_0 : SC := .seq (.reg r36_6) (.seq (.cond (.t 26) (.skip) (.exit 0)) (.seq (.block 1 (.seq (.reg r36_7) (.seq (.seq (.reg r36_8) (.seq (.reg r36_9) (.cond (.t 36) (.seq (.reg r36_10) (.ret)) (.skip)))) (.seq (.seq (.reg r36_11) (.cond (.t 41) (.seq (.reg r36_12) (.ret)) (.skip))) (.seq (.seq (.reg r36_13) (.seq (.reg r36_14) (.cond (.t 47) (.seq (.reg r36_15) (.ret)) (.skip)))) (.seq (.reg r36_16) (.cond (.t 61) (.seq (.reg r36_17) (.ret)) (.skip)))))))) (.reg r36_18)))
def r36_19 : List SO := [
  ⟨none, some 63, .fld 1 (.t 1)⟩,
  ⟨none, some 64, .load false 1 (.t 63)⟩,
  ⟨none, some 65, .call false 80 [.t 64]⟩]
def r36_20 : List SO := [
  ⟨none, some 2, .mv (.c (.int .i64 0))⟩]
def r36_21 : List SO := [
  ⟨none, some 66, .fld 1 (.t 1)⟩,
  ⟨none, some 67, .load false 1 (.t 66)⟩,
  ⟨none, some 68, .len (.t 67)⟩,
  ⟨none, some 69, .mv (.c (.int .i64 0))⟩]
def r36_22 : List SO := [
  ⟨none, some 70, .bin .lss (.t 69) (.t 68)⟩]
def r36_23 : List SO := [
  ⟨none, some 71, .mv (.t 69)⟩,
  ⟨none, some 72, .idx 2 (.t 67) (.t 69)⟩,
  ⟨none, some 73, .load true 2 (.t 72)⟩,
  ⟨none, some 8, .alloc 63 [.nilsl, .nilsl]⟩,
  ⟨none, some 7, .mv (.t 71)⟩,
  ⟨none, none, .store 2 (.t 8) (.t 73)⟩]
def r36_24 : List SO := [
  ⟨none, some 74, .fld 1 (.t 1)⟩,
  ⟨none, some 75, .load false 1 (.t 74)⟩,
  ⟨none, some 76, .mv (.t 7)⟩,
  ⟨none, some 77, .bin .add (.t 76) (.c (.int .i64 1))⟩,
  ⟨none, some 78, .slice 2 (.t 75) (some (.t 77)) none⟩,
  ⟨none, some 9, .mv (.t 78)⟩]
def r36_25 : List SO := [
  ⟨none, some 79, .mv (.t 9)⟩,
  ⟨none, some 80, .mkf 82 [.t 8]⟩,
  ⟨none, some 81, .call false 81 [.t 79, .t 80]⟩]
def r36_26 : List SO := [
  ⟨none, some 2, .mv (.c (.int .i64 7))⟩]
def r36_27 : List SO := [
  ⟨none, some 82, .mv (.t 9)⟩,
  ⟨none, some 83, .mkf 83 [.t 8]⟩,
  ⟨none, some 84, .call false 81 [.t 82, .t 83]⟩]
def r36_28 : List SO := [
  ⟨none, some 2, .mv (.c (.int .i64 13))⟩]
def r36_29 : List SO := [
  ⟨none, some 85, .bin .add (.t 69) (.c (.int .i64 1))⟩,
  ⟨none, some 69, .mv (.t 85)⟩]
def b36_1 : SC := .seq (.reg r36_22) (.seq (.cond (.t 70) (.skip) (.exit 2)) (.seq (.block 3 (.seq (.reg r36_23) (.seq (.reg r36_24) (.seq (.seq (.reg r36_25) (.cond (.t 81) (.seq (.reg r36_26) (.ret)) (.skip))) (.seq (.reg r36_27) (.cond (.t 84) (.seq (.reg r36_28) (.ret)) (.skip))))))) (.reg r36_29)))
def r36_30 : List SO := [
  ⟨none, some 2, .mv (.c (.int .i64 0))⟩]
def s36 : SF := ⟨86, [.tmp 2], .seq (.reg r36_0) (.seq (.seq (.reg r36_1) (.cond (.t 17) (.seq (.reg r36_2) (.ret)) (.skip))) (.seq (.seq (.reg r36_3) (.cond (.t 21) (.seq (.reg r36_4) (.ret)) (.skip))) (.seq (.seq (.reg r36_5) (.block 0 (.loop b36_0))) (.seq (.seq (.reg r36_19) (.cond (.t 65) (.seq (.reg r36_20) (.ret)) (.skip))) (.seq (.seq (.reg r36_21) (.block 2 (.loop b36_1))) (.seq (.reg r36_30) (.ret)))))))⟩
theorem s36_ok : slimF Try.prog ⟨[94, 102, 103, 108, 109, 116, 119, 121, 125], []⟩ Try.f36 = some s36 := by kernel_rfl
end Go.Proofs.Ytngkckefanbhgaa

namespace Go.Proofs.Ytngkckefanbhgaa
open Go Go.Proofs
def r39_0 : List SO := [
  ⟨none, some 0, .mv (.c (.bool false))⟩]
def r39_1 : List SO := [
  ⟨none, some 13, .call false 50 [.c (.int .i64 2)]⟩,
  ⟨none, some 12, .mv (.t 13)⟩,
  ⟨none, some 14, .ext (.t 12) 0⟩,
  ⟨none, some 15, .ext (.t 12) 1⟩,
  ⟨none, some 1, .alloc 34 [.int .i64 0, .nilsl]⟩,
  ⟨none, none, .store 2 (.t 1) (.t 14)⟩,
  ⟨none, some 2, .mv (.t 15)⟩]
def r39_2 : List SO := [
  ⟨none, some 17, .load true 2 (.t 1)⟩,
  ⟨none, some 18, .bslice 3 1 false [.int .i64 0] 2 [(0, .c (.int .i64 0)), (1, .c (.int .i64 1))]⟩,
  ⟨none, some 19, .bslice 3 1 false [.int .i64 0] 2 [(0, .c (.int .i64 1)), (1, .c (.int .i64 2))]⟩,
  ⟨none, some 20, .build [.nilsl, .nilsl] [(0, 1, .t 18), (1, 1, .t 19)]⟩,
  ⟨none, some 21, .call false 45 [.t 17, .t 20]⟩,
  ⟨none, some 16, .mv (.t 21)⟩,
  ⟨none, some 22, .ext (.t 16) 0⟩,
  ⟨none, some 23, .ext (.t 16) 1⟩,
  ⟨none, none, .store 2 (.t 1) (.t 22)⟩,
  ⟨none, some 3, .mv (.t 23)⟩]
def r39_3 : List SO := [
  ⟨none, some 25, .load true 2 (.t 1)⟩,
  ⟨none, some 26, .bslice 3 1 false [.int .i64 0] 1 [(0, .c (.int .i64 0))]⟩,
  ⟨none, some 27, .bslice 3 1 false [.int .i64 0] 1 [(0, .c (.int .i64 1))]⟩,
  ⟨none, some 28, .build [.nilsl, .nilsl] [(0, 1, .t 26), (1, 1, .t 27)]⟩,
  ⟨none, some 29, .call false 45 [.t 25, .t 28]⟩,
  ⟨none, some 24, .mv (.t 29)⟩,
  ⟨none, some 30, .ext (.t 24) 0⟩,
  ⟨none, some 31, .ext (.t 24) 1⟩,
  ⟨none, none, .store 2 (.t 1) (.t 30)⟩,
  ⟨none, some 4, .mv (.t 31)⟩]
def r39_4 : List SO := [
  ⟨none, some 33, .load true 2 (.t 1)⟩,
  ⟨none, some 34, .bslice 3 1 false [.int .i64 0] 2 [(0, .c (.int .i64 0)), (1, .c (.int .i64 1))]⟩,
  ⟨none, some 35, .bslice 3 1 false [.int .i64 0] 2 [(0, .c (.int .i64 1)), (1, .c (.int .i64 0))]⟩,
  ⟨none, some 36, .build [.nilsl, .nilsl] [(0, 1, .t 34), (1, 1, .t 35)]⟩,
  ⟨none, some 37, .call false 45 [.t 33, .t 36]⟩,
  ⟨none, some 32, .mv (.t 37)⟩,
  ⟨none, some 38, .ext (.t 32) 0⟩,
  ⟨none, some 39, .ext (.t 32) 1⟩,
  ⟨none, some 5, .alloc 34 [.int .i64 0, .nilsl]⟩,
  ⟨none, none, .store 2 (.t 5) (.t 38)⟩,
  ⟨none, some 6, .mv (.t 39)⟩]
def r39_5 : List SO := [
  ⟨none, some 41, .load true 2 (.t 1)⟩,
  ⟨none, some 42, .bslice 3 1 false [.int .i64 0] 2 [(0, .c (.int .i64 0)), (1, .c (.int .i64 1))]⟩,
  ⟨none, some 43, .bslice 3 1 false [.int .i64 0] 2 [(0, .c (.int .i64 1)), (1, .c (.int .i64 0))]⟩,
  ⟨none, some 44, .build [.nilsl, .nilsl] [(0, 1, .t 42), (1, 1, .t 43)]⟩,
  ⟨none, some 45, .call false 41 [.t 41, .t 44]⟩,
  ⟨none, some 40, .mv (.t 45)⟩,
  ⟨none, some 46, .ext (.t 40) 0⟩,
  ⟨none, some 47, .ext (.t 40) 1⟩,
  ⟨none, some 7, .alloc 67 [.nilsl, .int .i64 0, .int .i64 0]⟩,
  ⟨none, none, .store 3 (.t 7) (.t 46)⟩,
  ⟨none, some 8, .mv (.t 47)⟩]
def r39_6 : List SO := [
  ⟨none, some 48, .load true 2 (.t 1)⟩,
  ⟨none, some 49, .bslice 3 1 false [.int .i64 0] 2 [(0, .c (.int .i64 0)), (1, .c (.int .i64 0))]⟩,
  ⟨none, some 50, .call false 43 [.t 48, .t 49]⟩,
  ⟨none, some 9, .mv (.t 50)⟩]
def r39_7 : List SO := [
  ⟨none, some 51, .mv (.t 2)⟩,
  ⟨none, some 52, .bin .neq (.t 51) (.c (.int .i64 0))⟩,
  ⟨none, some 53, .mv (.t 52)⟩,
  ⟨some (53, false), some 54, .mv (.t 3)⟩,
  ⟨some (53, false), some 55, .bin .neq (.t 54) (.c (.int .i64 0))⟩,
  ⟨none, some 56, .pick (.t 53) (.c (.bool true)) (.t 55)⟩,
  ⟨none, some 57, .mv (.t 56)⟩,
  ⟨some (57, false), some 58, .mv (.t 4)⟩,
  ⟨some (57, false), some 59, .bin .neq (.t 58) (.c (.int .i64 0))⟩,
  ⟨none, some 60, .pick (.t 57) (.c (.bool true)) (.t 59)⟩,
  ⟨none, some 61, .mv (.t 60)⟩,
  ⟨some (61, false), some 62, .mv (.t 6)⟩,
  ⟨some (61, false), some 63, .bin .neq (.t 62) (.c (.int .i64 13))⟩,
  ⟨none, some 64, .pick (.t 61) (.c (.bool true)) (.t 63)⟩,
  ⟨none, some 65, .mv (.t 64)⟩,
  ⟨some (65, false), some 66, .mv (.t 8)⟩,
  ⟨some (65, false), some 67, .un .not (.t 66)⟩,
  ⟨none, some 68, .pick (.t 65) (.c (.bool true)) (.t 67)⟩,
  ⟨none, some 69, .mv (.t 68)⟩,
  ⟨some (69, false), some 70, .fld 1 (.t 7)⟩,
  ⟨some (69, false), some 71, .load false 1 (.t 70)⟩,
  ⟨some (69, false), some 72, .bin .neq (.t 71) (.c (.int .i64 2))⟩,
  ⟨none, some 73, .pick (.t 69) (.c (.bool true)) (.t 72)⟩,
  ⟨none, some 74, .mv (.t 73)⟩,
  ⟨some (74, false), some 75, .fld 2 (.t 7)⟩,
  ⟨some (74, false), some 76, .load false 1 (.t 75)⟩,
  ⟨some (74, false), some 77, .bin .neq (.t 76) (.c (.int .i64 0))⟩,
  ⟨none, some 78, .pick (.t 74) (.c (.bool true)) (.t 77)⟩,
  ⟨none, some 79, .mv (.t 78)⟩,
  ⟨some (79, false), some 80, .fld 0 (.t 7)⟩,
  ⟨some (79, false), some 81, .load false 1 (.t 80)⟩,
  ⟨some (79, false), some 82, .len (.t 81)⟩,
  ⟨some (79, false), some 83, .bin .neq (.t 82) (.c (.int .i64 2))⟩,
  ⟨none, some 84, .pick (.t 79) (.c (.bool true)) (.t 83)⟩,
  ⟨none, some 85, .mv (.t 84)⟩,
  ⟨some (85, false), some 86, .fld 1 (.t 1)⟩,
  ⟨some (85, false), some 87, .load false 1 (.t 86)⟩,
  ⟨some (85, false), some 88, .len (.t 87)⟩,
  ⟨some (85, false), some 89, .bin .neq (.t 88) (.c (.int .i64 1))⟩,
  ⟨none, some 90, .pick (.t 85) (.c (.bool true)) (.t 89)⟩,
  ⟨none, some 91, .mv (.t 90)⟩,
  ⟨some (91, false), some 92, .mv (.t 9)⟩,
  ⟨some (91, false), some 93, .bin .neq (.t 92) (.c (.int .i64 1))⟩,
  ⟨none, some 94, .pick (.t 91) (.c (.bool true)) (.t 93)⟩]
def r39_8 : List SO := [
  ⟨none, some 0, .mv (.c (.bool false))⟩]
def r39_9 : List SO := [
  ⟨none, some 96, .load true 2 (.t 1)⟩,
  ⟨none, some 97, .bslice 3 1 false [.int .i64 0] 1 [(0, .c (.int .i64 1))]⟩,
  ⟨none, some 98, .bslice 3 1 false [.int .i64 0] 1 [(0, .c (.int .i64 0))]⟩,
  ⟨none, some 99, .build [.nilsl, .nilsl] [(0, 1, .t 97), (1, 1, .t 98)]⟩,
  ⟨none, some 100, .call false 45 [.t 96, .t 99]⟩,
  ⟨none, some 95, .mv (.t 100)⟩,
  ⟨none, some 101, .ext (.t 95) 0⟩,
  ⟨none, some 102, .ext (.t 95) 1⟩,
  ⟨none, none, .store 2 (.t 1) (.t 101)⟩,
  ⟨none, some 3, .mv (.t 102)⟩]
def r39_10 : List SO := [
  ⟨none, some 104, .load true 2 (.t 1)⟩,
  ⟨none, some 105, .bslice 3 1 false [.int .i64 0] 2 [(0, .c (.int .i64 0)), (1, .c (.int .i64 1))]⟩,
  ⟨none, some 106, .call false 34 [.t 104, .t 105]⟩,
  ⟨none, some 103, .mv (.t 106)⟩,
  ⟨none, some 107, .ext (.t 103) 0⟩,
  ⟨none, some 108, .ext (.t 103) 1⟩,
  ⟨none, some 10, .mv (.t 107)⟩,
  ⟨none, some 11, .mv (.t 108)⟩]
def r39_11 : List SO := [
  ⟨none, some 109, .mv (.t 3)⟩,
  ⟨none, some 110, .bin .eql (.t 109) (.c (.int .i64 0))⟩,
  ⟨none, some 111, .mv (.t 110)⟩,
  ⟨some (111, true), some 112, .fld 1 (.t 1)⟩,
  ⟨some (111, true), some 113, .load false 1 (.t 112)⟩,
  ⟨some (111, true), some 114, .len (.t 113)⟩,
  ⟨some (111, true), some 115, .bin .eql (.t 114) (.c (.int .i64 2))⟩,
  ⟨none, some 116, .pick (.t 111) (.t 115) (.c (.bool false))⟩,
  ⟨none, some 117, .mv (.t 116)⟩,
  ⟨some (117, true), some 118, .fld 1 (.t 1)⟩,
  ⟨some (117, true), some 119, .load false 1 (.t 118)⟩,
  ⟨some (117, true), some 120, .idx 2 (.t 119) (.c (.int .i64 0))⟩,
  ⟨some (117, true), some 121, .fld 0 (.t 120)⟩,
  ⟨some (117, true), some 122, .load false 1 (.t 121)⟩,
  ⟨some (117, true), some 123, .len (.t 122)⟩,
  ⟨some (117, true), some 124, .bin .eql (.t 123) (.c (.int .i64 1))⟩,
  ⟨none, some 125, .pick (.t 117) (.t 124) (.c (.bool false))⟩,
  ⟨none, some 126, .mv (.t 125)⟩,
  ⟨some (126, true), some 127, .mv (.t 11)⟩,
  ⟨none, some 128, .pick (.t 126) (.t 127) (.c (.bool false))⟩,
  ⟨none, some 129, .mv (.t 128)⟩,
  ⟨some (129, true), some 130, .mv (.t 10)⟩,
  ⟨some (129, true), some 131, .bslice 3 1 false [.int .i64 0] 2 [(0, .c (.int .i64 1)), (1, .c (.int .i64 2))]⟩,
  ⟨some (129, true), some 132, .call false 25 [.t 130, .t 131]⟩,
  ⟨none, some 133, .pick (.t 129) (.t 132) (.c (.bool false))⟩,
  ⟨none, some 134, .mv (.t 133)⟩,
  ⟨some (134, true), some 135, .load true 2 (.t 1)⟩,
  ⟨some (134, true), some 136, .call false 36 [.t 135]⟩,
  ⟨some (134, true), some 137, .bin .eql (.t 136) (.c (.int .i64 0))⟩,
  ⟨none, some 138, .pick (.t 134) (.t 137) (.c (.bool false))⟩,
  ⟨none, some 0, .mv (.t 138)⟩]
def s39 : SF := ⟨139, [.tmp 0], .seq (.reg r39_0) (.seq (.reg r39_1) (.seq (.reg r39_2) (.seq (.reg r39_3) (.seq (.reg r39_4) (.seq (.reg r39_5) (.seq (.reg r39_6) (.seq (.seq (.reg r39_7) (.cond (.t 94) (.seq (.reg r39_8) (.ret)) (.skip))) (.seq (.reg r39_9) (.seq (.reg r39_10) (.seq (.reg r39_11) (.ret)))))))))))⟩
theorem s39_ok : slimF Try.prog ⟨[94, 102, 103, 108, 109, 116, 119, 121, 125], []⟩ Try.f39 = some s39 := by kernel_rfl
end Go.Proofs.Ytngkckefanbhgaa

namespace Go.Proofs.Ytngkckefanbhgaa
open Go Go.Proofs
def r41_0 : List SO := [
  ⟨none, some 2, .box 34 2 (.t 0)⟩,
  ⟨none, some 3, .box 63 2 (.t 1)⟩,
  ⟨none, some 4, .alloc 67 [.nilsl, .int .i64 0, .int .i64 0]⟩,
  ⟨none, some 5, .mv (.c (.bool false))⟩]
def r41_1 : List SO := [
  ⟨none, some 11, .load true 2 (.t 3)⟩,
  ⟨none, some 12, .fld 0 (.t 2)⟩,
  ⟨none, some 13, .load false 1 (.t 12)⟩,
  ⟨none, some 14, .call false 78 [.t 11, .t 13]⟩,
  ⟨none, some 15, .bin .neq (.t 14) (.c (.int .i64 0))⟩]
def r41_2 : List SO := [
  ⟨none, some 16, .build [.nilsl, .int .i64 0, .int .i64 0] []⟩,
  ⟨none, none, .store 3 (.t 4) (.t 16)⟩,
  ⟨none, some 5, .mv (.c (.bool false))⟩]
def r41_3 : List SO := [
  ⟨none, some 17, .fld 0 (.t 3)⟩,
  ⟨none, some 18, .load false 1 (.t 17)⟩,
  ⟨none, some 19, .len (.t 18)⟩,
  ⟨none, some 6, .mv (.t 19)⟩,
  ⟨none, some 7, .mv (.c (.int .i64 0))⟩]
def r41_4 : List SO := [
  ⟨none, some 20, .fld 1 (.t 2)⟩,
  ⟨none, some 21, .load false 1 (.t 20)⟩,
  ⟨none, some 22, .len (.t 21)⟩,
  ⟨none, some 23, .mv (.c (.int .i64 0))⟩]
def r41_5 : List SO := [
  ⟨none, some 24, .bin .lss (.t 23) (.t 22)⟩]
def r41_6 : List SO := [
  ⟨none, some 25, .idx 2 (.t 21) (.t 23)⟩,
  ⟨none, some 26, .load true 2 (.t 25)⟩,
  ⟨none, some 9, .alloc 63 [.nilsl, .nilsl]⟩,
  ⟨none, none, .store 2 (.t 9) (.t 26)⟩]
def r41_7 : List SO := [
  ⟨none, some 27, .load true 2 (.t 9)⟩,
  ⟨none, some 28, .load true 2 (.t 3)⟩,
  ⟨none, some 29, .call false 84 [.t 27, .t 28]⟩,
  ⟨none, some 10, .mv (.t 29)⟩]
def r41_8 : List SO := [
  ⟨none, some 30, .mv (.t 10)⟩,
  ⟨none, some 31, .bin .geq (.t 30) (.c (.int .i64 0))⟩,
  ⟨none, some 32, .mv (.t 31)⟩,
  ⟨some (32, true), some 33, .mv (.t 10)⟩,
  ⟨some (32, true), some 34, .mv (.t 6)⟩,
  ⟨some (32, true), some 35, .bin .lss (.t 33) (.t 34)⟩,
  ⟨none, some 36, .pick (.t 32) (.t 35) (.c (.bool false))⟩]
def r41_9 : List SO := [
  ⟨none, some 37, .mv (.t 10)⟩,
  ⟨none, some 38, .fld 1 (.t 9)⟩,
  ⟨none, some 39, .load false 1 (.t 38)⟩,
  ⟨none, some 40, .mv (.t 10)⟩,
  ⟨none, some 41, .idx 1 (.t 39) (.t 40)⟩,
  ⟨none, some 42, .load false 1 (.t 41)⟩,
  ⟨none, some 6, .mv (.t 37)⟩,
  ⟨none, some 7, .mv (.t 42)⟩]
def r41_10 : List SO := [
  ⟨none, some 43, .bin .add (.t 23) (.c (.int .i64 1))⟩,
  ⟨none, some 23, .mv (.t 43)⟩]
def b41_0 : SC := .seq (.reg r41_5) (.seq (.cond (.t 24) (.skip) (.exit 0)) (.seq (.block 1 (.seq (.reg r41_6) (.seq (.reg r41_7) (.seq (.reg r41_8) (.cond (.t 36) (.reg r41_9) (.skip)))))) (.reg r41_10)))
def r41_11 : List SO := [
  ⟨none, some 44, .mv (.t 6)⟩,
  ⟨none, some 45, .fld 0 (.t 3)⟩,
  ⟨none, some 46, .load false 1 (.t 45)⟩,
  ⟨none, some 47, .len (.t 46)⟩,
  ⟨none, some 48, .bin .eql (.t 44) (.t 47)⟩]
def r41_12 : List SO := [
  ⟨none, some 49, .build [.nilsl, .int .i64 0, .int .i64 0] []⟩,
  ⟨none, none, .store 3 (.t 4) (.t 49)⟩,
  ⟨none, some 5, .mv (.c (.bool false))⟩]
def r41_13 : List SO := [
  ⟨none, some 50, .fld 0 (.t 3)⟩,
  ⟨none, some 51, .load false 1 (.t 50)⟩,
  ⟨none, some 52, .mv (.t 6)⟩,
  ⟨none, some 53, .bin .add (.t 52) (.c (.int .i64 1))⟩,
  ⟨none, some 54, .slice 1 (.t 51) none (some (.t 53))⟩,
  ⟨none, some 55, .call false 63 [.t 54]⟩,
  ⟨none, some 56, .mv (.t 7)⟩,
  ⟨none, some 57, .fld 1 (.t 3)⟩,
  ⟨none, some 58, .load false 1 (.t 57)⟩,
  ⟨none, some 59, .mv (.t 6)⟩,
  ⟨none, some 60, .idx 1 (.t 58) (.t 59)⟩,
  ⟨none, some 61, .load false 1 (.t 60)⟩,
  ⟨none, some 62, .build [.nilsl, .int .i64 0, .int .i64 0] [(0, 1, .t 55), (1, 1, .t 56), (2, 1, .t 61)]⟩,
  ⟨none, none, .store 3 (.t 4) (.t 62)⟩,
  ⟨none, some 5, .mv (.c (.bool true))⟩]
def s41 : SF := ⟨63, [.cell 4 true 3, .tmp 5], .seq (.reg r41_0) (.seq (.seq (.reg r41_1) (.cond (.t 15) (.seq (.reg r41_2) (.ret)) (.skip))) (.seq (.reg r41_3) (.seq (.seq (.reg r41_4) (.block 0 (.loop b41_0))) (.seq (.seq (.reg r41_11) (.cond (.t 48) (.seq (.reg r41_12) (.ret)) (.skip))) (.seq (.reg r41_13) (.ret))))))⟩
theorem s41_ok : slimF Try.prog ⟨[94, 102, 103, 108, 109, 116, 119, 121, 125], []⟩ Try.f41 = some s41 := by kernel_rfl
end Go.Proofs.Ytngkckefanbhgaa

namespace Go.Proofs.Ytngkckefanbhgaa
open Go Go.Proofs
def r43_0 : List SO := [
  ⟨none, some 2, .box 34 2 (.t 0)⟩,
  ⟨none, some 4, .mv (.c (.int .i64 0))⟩]
def r43_1 : List SO := [
  ⟨none, some 5, .mv (.c (.int .i64 0))⟩]
def r43_2 : List SO := [
  ⟨none, some 8, .fld 1 (.t 2)⟩,
  ⟨none, some 9, .load false 1 (.t 8)⟩,
  ⟨none, some 10, .len (.t 9)⟩,
  ⟨none, some 11, .mv (.c (.int .i64 0))⟩]
def r43_3 : List SO := [
  ⟨none, some 12, .bin .lss (.t 11) (.t 10)⟩]
def r43_4 : List SO := [
  ⟨none, some 13, .idx 2 (.t 9) (.t 11)⟩,
  ⟨none, some 14, .load true 2 (.t 13)⟩,
  ⟨none, some 7, .alloc 63 [.nilsl, .nilsl]⟩,
  ⟨none, none, .store 2 (.t 7) (.t 14)⟩]
def r43_5 : List SO := [
  ⟨none, some 15, .mv (.t 5)⟩,
  ⟨none, some 16, .fld 0 (.t 7)⟩,
  ⟨none, some 17, .load false 1 (.t 16)⟩,
  ⟨none, some 18, .mv (.t 1)⟩,
  ⟨none, some 19, .call false 69 [.t 17, .t 18]⟩,
  ⟨none, some 20, .mx (.t 15) (.t 19)⟩,
  ⟨none, some 5, .mv (.t 20)⟩]
def r43_6 : List SO := [
  ⟨none, some 21, .bin .add (.t 11) (.c (.int .i64 1))⟩,
  ⟨none, some 11, .mv (.t 21)⟩]
def b43_0 : SC := .seq (.reg r43_3) (.seq (.cond (.t 12) (.skip) (.exit 0)) (.seq (.block 1 (.seq (.reg r43_4) (.reg r43_5))) (.reg r43_6)))
def r43_7 : List SO := [
  ⟨none, some 22, .mv (.t 5)⟩,
  ⟨none, some 4, .mv (.t 22)⟩]
def s43 : SF := ⟨23, [.tmp 4], .seq (.reg r43_0) (.seq (.reg r43_1) (.seq (.seq (.reg r43_2) (.block 0 (.loop b43_0))) (.seq (.reg r43_7) (.ret))))⟩
theorem s43_ok : slimF Try.prog ⟨[94, 102, 103, 108, 109, 116, 119, 121, 125], []⟩ Try.f43 = some s43 := by kernel_rfl
end Go.Proofs.Ytngkckefanbhgaa

namespace Go.Proofs.Ytngkckefanbhgaa
open Go Go.Proofs
def r45_0 : List SO := [
  ⟨none, some 2, .box 34 2 (.t 0)⟩,
  ⟨none, some 3, .box 63 2 (.t 1)⟩,
  ⟨none, some 4, .alloc 34 [.int .i64 0, .nilsl]⟩,
  ⟨none, some 5, .mv (.c (.int .i64 0))⟩]
def r45_1 : List SO := [
  ⟨none, some 6, .load true 2 (.t 2)⟩,
  ⟨none, some 7, .load true 2 (.t 3)⟩,
  ⟨none, some 8, .bslice 63 2 false [.nilsl, .nilsl] 1 [(0, .t 7)]⟩,
  ⟨none, some 9, .call false 73 [.t 6, .t 8]⟩,
  ⟨none, some 10, .ext (.t 9) 0⟩,
  ⟨none, some 11, .ext (.t 9) 1⟩,
  ⟨none, none, .store 2 (.t 4) (.t 10)⟩,
  ⟨none, some 5, .mv (.t 11)⟩]
def s45 : SF := ⟨12, [.cell 4 true 2, .tmp 5], .seq (.reg r45_0) (.seq (.reg r45_1) (.ret))⟩
theorem s45_ok : slimF Try.prog ⟨[94, 102, 103, 108, 109, 116, 119, 121, 125], []⟩ Try.f45 = some s45 := by kernel_rfl
end Go.Proofs.Ytngkckefanbhgaa

namespace Go.Proofs.Ytngkckefanbhgaa
open Go Go.Proofs
def r50_0 : List SO := [
  ⟨none, some 2, .alloc 34 [.int .i64 0, .nilsl]⟩,
  ⟨none, some 3, .mv (.c (.int .i64 0))⟩]
def r50_1 : List SO := [
  ⟨none, some 4, .mv (.t 0)⟩,
  ⟨none, some 5, .bin .lss (.t 4) (.c (.int .i64 1))⟩,
  ⟨none, some 6, .mv (.t 5)⟩,
  ⟨some (6, false), some 7, .mv (.t 0)⟩,
  ⟨some (6, false), some 8, .bin .gtr (.t 7) (.c (.int .i64 64))⟩,
  ⟨none, some 9, .pick (.t 6) (.c (.bool true)) (.t 8)⟩]
def r50_2 : List SO := [
  ⟨none, some 10, .build [.int .i64 0, .nilsl] []⟩,
  ⟨none, none, .store 2 (.t 2) (.t 10)⟩,
  ⟨none, some 3, .mv (.c (.int .i64 2))⟩]
def r50_3 : List SO := [
  ⟨none, some 11, .mv (.t 0)⟩,
  ⟨none, some 12, .build [.int .i64 0, .nilsl] [(0, 1, .t 11)]⟩,
  ⟨none, none, .store 2 (.t 2) (.t 12)⟩,
  ⟨none, some 3, .mv (.c (.int .i64 0))⟩]
def s50 : SF := ⟨13, [.cell 2 true 2, .tmp 3], .seq (.reg r50_0) (.seq (.seq (.reg r50_1) (.cond (.t 9) (.seq (.reg r50_2) (.ret)) (.skip))) (.seq (.reg r50_3) (.ret)))⟩
theorem s50_ok : slimF Try.prog ⟨[94, 102, 103, 108, 109, 116, 119, 121, 125], []⟩ Try.f50 = some s50 := by kernel_rfl
end Go.Proofs.Ytngkckefanbhgaa

namespace Go.Proofs.Ytngkckefanbhgaa
open Go Go.Proofs
def r80_0 : List SO := [
  ⟨none, some 2, .mv (.c (.bool false))⟩]
def r80_1 : List SO := [
  ⟨none, some 4, .mv (.t 0)⟩,
  ⟨none, some 5, .call true 108 [.t 4]⟩,
  ⟨none, some 0, .mv (.t 5)⟩]
def r80_2 : List SO := [
  ⟨none, some 6, .mv (.t 0)⟩,
  ⟨none, some 7, .call true 109 [.t 6, .c (.fn 110 [] [])]⟩]
def r80_3 : List SO := [
  ⟨none, some 3, .mv (.c (.int .i64 1))⟩]
def r80_4 : List SO := [
  ⟨none, some 8, .mv (.t 3)⟩,
  ⟨none, some 9, .mv (.t 0)⟩,
  ⟨none, some 10, .len (.t 9)⟩,
  ⟨none, some 11, .bin .lss (.t 8) (.t 10)⟩]
def r80_6 : List SO := [
  ⟨none, some 14, .mv (.t 0)⟩,
  ⟨none, some 15, .mv (.t 3)⟩,
  ⟨none, some 16, .idx 2 (.t 14) (.t 15)⟩,
  ⟨none, some 17, .fld 0 (.t 16)⟩,
  ⟨none, some 18, .load false 1 (.t 17)⟩,
  ⟨none, some 19, .mv (.t 0)⟩,
  ⟨none, some 20, .mv (.t 3)⟩,
  ⟨none, some 21, .bin .sub (.t 20) (.c (.int .i64 1))⟩,
  ⟨none, some 22, .idx 2 (.t 19) (.t 21)⟩,
  ⟨none, some 23, .fld 0 (.t 22)⟩,
  ⟨none, some 24, .load false 1 (.t 23)⟩,
  ⟨none, some 25, .call false 76 [.t 18, .t 24]⟩,
  ⟨none, some 26, .mv (.t 25)⟩,
  ⟨some (26, false), some 27, .mv (.t 0)⟩,
  ⟨some (26, false), some 28, .mv (.t 3)⟩,
  ⟨some (26, false), some 29, .bin .sub (.t 28) (.c (.int .i64 1))⟩,
  ⟨some (26, false), some 30, .idx 2 (.t 27) (.t 29)⟩,
  ⟨some (26, false), some 31, .load true 2 (.t 30)⟩,
  ⟨some (26, false), some 32, .mv (.t 0)⟩,
  ⟨some (26, false), some 33, .mv (.t 3)⟩,
  ⟨some (26, false), some 34, .idx 2 (.t 32) (.t 33)⟩,
  ⟨some (26, false), some 35, .load true 2 (.t 34)⟩,
  ⟨some (26, false), some 36, .call false 84 [.t 31, .t 35]⟩,
  ⟨some (26, false), some 37, .bin .geq (.t 36) (.c (.int .i64 0))⟩,
  ⟨none, some 38, .pick (.t 26) (.c (.bool true)) (.t 37)⟩]
def r80_7 : List SO := [
  ⟨none, some 2, .mv (.c (.bool false))⟩]
def r80_5 : List SO := [
  ⟨none, some 12, .mv (.t 3)⟩,
  ⟨none, some 13, .bin .add (.t 12) (.c (.int .i64 1))⟩,
  ⟨none, some 3, .mv (.t 13)⟩]
def b80_0 : SC := .seq (.seq (.reg r80_4) (.cond (.t 11) (.skip) (.exit 0))) (.seq (.block 1 (.seq (.reg r80_6) (.cond (.t 38) (.seq (.reg r80_7) (.ret)) (.skip)))) (.reg r80_5))
def r80_8 : List SO := [
  ⟨none, some 2, .mv (.c (.bool true))⟩]
def s80 : SF := ⟨39, [.tmp 2], .seq (.reg r80_0) (.seq (.reg r80_1) (.seq (.reg r80_2) (.seq (.seq (.reg r80_3) (.block 0 (.loop b80_0))) (.seq (.reg r80_8) (.ret)))))⟩
theorem s80_ok : slimF Try.prog ⟨[94, 102, 103, 108, 109, 116, 119, 121, 125], []⟩ Try.f80 = some s80 := by kernel_rfl
end Go.Proofs.Ytngkckefanbhgaa

namespace Go.Proofs.Ytngkckefanbhgaa
open Go Go.Proofs
def r81_0 : List SO := [
  ⟨none, some 4, .mv (.c (.bool false))⟩]
def r81_1 : List SO := [
  ⟨none, some 5, .mv (.t 0)⟩,
  ⟨none, some 6, .mv (.t 1)⟩,
  ⟨none, some 7, .call false 74 [.t 5, .t 6]⟩,
  ⟨none, some 8, .bin .geq (.t 7) (.c (.int .i64 0))⟩,
  ⟨none, some 4, .mv (.t 8)⟩]
def s81 : SF := ⟨9, [.tmp 4], .seq (.reg r81_0) (.seq (.reg r81_1) (.ret))⟩
theorem s81_ok : slimF Try.prog ⟨[94, 102, 103, 108, 109, 116, 119, 121, 125], []⟩ Try.f81 = some s81 := by kernel_rfl
end Go.Proofs.Ytngkckefanbhgaa

namespace Go.Proofs.Ytngkckefanbhgaa
open Go Go.Proofs
def r82_0 : List SO := [
  ⟨none, some 2, .box 63 2 (.t 0)⟩,
  ⟨none, some 3, .mv (.c (.bool false))⟩]
def r82_1 : List SO := [
  ⟨none, some 4, .fld 0 (.t 2)⟩,
  ⟨none, some 5, .load false 1 (.t 4)⟩,
  ⟨none, some 6, .fld 0 (.t 1)⟩,
  ⟨none, some 7, .load false 1 (.t 6)⟩,
  ⟨none, some 8, .call false 76 [.t 5, .t 7]⟩,
  ⟨none, some 3, .mv (.t 8)⟩]
def s82 : SF := ⟨9, [.tmp 3], .seq (.reg r82_0) (.seq (.reg r82_1) (.ret))⟩
theorem s82_ok : slimF Try.prog ⟨[94, 102, 103, 108, 109, 116, 119, 121, 125], []⟩ Try.f82 = some s82 := by kernel_rfl
end Go.Proofs.Ytngkckefanbhgaa

namespace Go.Proofs.Ytngkckefanbhgaa
open Go Go.Proofs
def r83_0 : List SO := [
  ⟨none, some 2, .box 63 2 (.t 0)⟩,
  ⟨none, some 3, .mv (.c (.bool false))⟩]
def r83_1 : List SO := [
  ⟨none, some 4, .load true 2 (.t 1)⟩,
  ⟨none, some 5, .load true 2 (.t 2)⟩,
  ⟨none, some 6, .call false 84 [.t 4, .t 5]⟩,
  ⟨none, some 7, .bin .geq (.t 6) (.c (.int .i64 0))⟩,
  ⟨none, some 3, .mv (.t 7)⟩]
def s83 : SF := ⟨8, [.tmp 3], .seq (.reg r83_0) (.seq (.reg r83_1) (.ret))⟩
theorem s83_ok : slimF Try.prog ⟨[94, 102, 103, 108, 109, 116, 119, 121, 125], []⟩ Try.f83 = some s83 := by kernel_rfl
end Go.Proofs.Ytngkckefanbhgaa

namespace Go.Proofs.Ytngkckefanbhgaa
open Go Go.Proofs
def r108_0 : List SO := [
  ⟨none, some 2, .mv (.c (.nilsl))⟩]
def r108_1 : List SO := [
  ⟨none, some 3, .mv (.t 0)⟩,
  ⟨none, some 4, .isnil false (.t 3)⟩]
def r108_2 : List SO := [
  ⟨none, some 2, .mv (.c (.nilsl))⟩]
def r108_3 : List SO := [
  ⟨none, some 5, .bslice 63 2 true [.nilsl, .nilsl] 0 []⟩,
  ⟨none, some 6, .mv (.t 0)⟩,
  ⟨none, some 7, .append 63 2 48 (.t 5) (.t 6)⟩,
  ⟨none, some 2, .mv (.t 7)⟩]
def s108 : SF := ⟨8, [.tmp 2], .seq (.reg r108_0) (.seq (.seq (.reg r108_1) (.cond (.t 4) (.seq (.reg r108_2) (.ret)) (.skip))) (.seq (.reg r108_3) (.ret)))⟩
theorem s108_ok : slimF Try.prog ⟨[94, 102, 103, 108, 109, 116, 119, 121, 125], [5]⟩ Try.f108 = some s108 := by kernel_rfl
end Go.Proofs.Ytngkckefanbhgaa

namespace Go.Proofs.Ytngkckefanbhgaa
open Go Go.Proofs
def r109_0 : List SO := [
  ⟨none, some 5, .mv (.t 0)⟩,
  ⟨none, some 6, .len (.t 5)⟩,
  ⟨none, some 4, .mv (.t 6)⟩]
def r109_1 : List SO := [
  ⟨none, some 7, .mv (.t 0)⟩,
  ⟨none, some 8, .mv (.t 4)⟩,
  ⟨none, some 9, .mv (.t 4)⟩,
  ⟨none, some 10, .conv .u64 (.t 9)⟩,
  ⟨none, some 11, .call false 122 [.t 10]⟩,
  ⟨none, some 12, .mv (.t 1)⟩,
  ⟨none, some 13, .call true 121 [.t 7, .c (.int .i64 0), .t 8, .t 11, .t 12]⟩]
def s109 : SF := ⟨14, [], .seq (.reg r109_0) (.reg r109_1)⟩
theorem s109_ok : slimF Try.prog ⟨[94, 102, 103, 108, 109, 116, 119, 121, 125], []⟩ Try.f109 = some s109 := by kernel_rfl
end Go.Proofs.Ytngkckefanbhgaa

namespace Go.Proofs.Ytngkckefanbhgaa
open Go Go.Proofs
def r110_0 : List SO := [
  ⟨none, some 2, .box 63 2 (.t 0)⟩,
  ⟨none, some 3, .box 63 2 (.t 1)⟩,
  ⟨none, some 4, .mv (.c (.int .i64 0))⟩]
def r110_1 : List SO := [
  ⟨none, some 5, .fld 0 (.t 2)⟩,
  ⟨none, some 6, .load false 1 (.t 5)⟩,
  ⟨none, some 7, .fld 0 (.t 3)⟩,
  ⟨none, some 8, .load false 1 (.t 7)⟩,
  ⟨none, some 9, .call false 111 [.t 6, .t 8]⟩,
  ⟨none, some 4, .mv (.t 9)⟩]
def s110 : SF := ⟨10, [.tmp 4], .seq (.reg r110_0) (.seq (.reg r110_1) (.ret))⟩
theorem s110_ok : slimF Try.prog ⟨[94, 102, 103, 108, 109, 116, 119, 121, 125], []⟩ Try.f110 = some s110 := by kernel_rfl
end Go.Proofs.Ytngkckefanbhgaa

namespace Go.Proofs.Ytngkckefanbhgaa
open Go Go.Proofs
def r111_0 : List SO := [
  ⟨none, some 4, .mv (.c (.int .i64 0))⟩]
def r111_1 : List SO := [
  ⟨none, some 5, .mv (.t 0)⟩,
  ⟨none, some 6, .mv (.t 1)⟩,
  ⟨none, some 7, .call false 101 [.t 5, .t 6]⟩,
  ⟨none, some 4, .mv (.t 7)⟩]
def s111 : SF := ⟨8, [.tmp 4], .seq (.reg r111_0) (.seq (.reg r111_1) (.ret))⟩
theorem s111_ok : slimF Try.prog ⟨[94, 102, 103, 108, 109, 116, 119, 121, 125], []⟩ Try.f111 = some s111 := by kernel_rfl
end Go.Proofs.Ytngkckefanbhgaa

namespace Go.Proofs.Ytngkckefanbhgaa
open Go Go.Proofs
def r121_0 : List SO := [
  ⟨none, some 10, .mv (.c (.bool true))⟩]
def r121_1 : List SO := [
  ⟨none, some 11, .mv (.c (.bool true))⟩]
def r121_2 : List SO := [
  ⟨none, some 21, .mv (.t 2)⟩,
  ⟨none, some 22, .mv (.t 1)⟩,
  ⟨none, some 23, .bin .sub (.t 21) (.t 22)⟩,
  ⟨none, some 12, .mv (.t 23)⟩]
def r121_3 : List SO := [
  ⟨none, some 24, .mv (.t 12)⟩,
  ⟨none, some 25, .bin .leq (.t 24) (.c (.int .i64 12))⟩]
def r121_4 : List SO := [
  ⟨none, some 26, .mv (.t 0)⟩,
  ⟨none, some 27, .mv (.t 1)⟩,
  ⟨none, some 28, .mv (.t 2)⟩,
  ⟨none, some 29, .mv (.t 4)⟩,
  ⟨none, some 30, .call true 125 [.t 26, .t 27, .t 28, .t 29]⟩]
def r121_5 : List SO := [
  ⟨none, some 31, .mv (.t 3)⟩,
  ⟨none, some 32, .bin .eql (.t 31) (.c (.int .i64 0))⟩]
def r121_6 : List SO := [
  ⟨none, some 33, .mv (.t 0)⟩,
  ⟨none, some 34, .mv (.t 1)⟩,
  ⟨none, some 35, .mv (.t 2)⟩,
  ⟨none, some 36, .mv (.t 4)⟩,
  ⟨none, some 37, .call false 126 [.t 33, .t 34, .t 35, .t 36]⟩]
def r121_7 : List SO := [
  ⟨none, some 38, .mv (.t 10)⟩,
  ⟨none, some 39, .un .not (.t 38)⟩]
def r121_8 : List SO := [
  ⟨none, some 40, .mv (.t 0)⟩,
  ⟨none, some 41, .mv (.t 1)⟩,
  ⟨none, some 42, .mv (.t 2)⟩,
  ⟨none, some 43, .mv (.t 4)⟩,
  ⟨none, some 44, .call false 127 [.t 40, .t 41, .t 42, .t 43]⟩]
def r121_9 : List SO := [
  ⟨none, some 45, .mv (.t 3)⟩,
  ⟨none, some 46, .bin .sub (.t 45) (.c (.int .i64 1))⟩,
  ⟨none, some 3, .mv (.t 46)⟩]
def r121_10 : List SO := [
  ⟨none, some 48, .mv (.t 0)⟩,
  ⟨none, some 49, .mv (.t 1)⟩,
  ⟨none, some 50, .mv (.t 2)⟩,
  ⟨none, some 51, .mv (.t 4)⟩,
  ⟨none, some 52, .call false 128 [.t 48, .t 49, .t 50, .t 51]⟩,
  ⟨none, some 47, .mv (.t 52)⟩,
  ⟨none, some 53, .ext (.t 47) 0⟩,
  ⟨none, some 54, .ext (.t 47) 1⟩,
  ⟨none, some 13, .mv (.t 53)⟩,
  ⟨none, some 14, .mv (.t 54)⟩]
def r121_11 : List SO := [
  ⟨none, some 55, .mv (.t 14)⟩,
  ⟨none, some 56, .bin .eql (.t 55) (.c (.int .i64 2))⟩]
def r121_12 : List SO := [
  ⟨none, some 57, .mv (.t 0)⟩,
  ⟨none, some 58, .mv (.t 1)⟩,
  ⟨none, some 59, .mv (.t 2)⟩,
  ⟨none, some 60, .mv (.t 4)⟩,
  ⟨none, some 61, .call false 129 [.t 57, .t 58, .t 59, .t 60]⟩]
def r121_13 : List SO := [
  ⟨none, some 62, .mv (.t 2)⟩,
  ⟨none, some 63, .bin .sub (.t 62) (.c (.int .i64 1))⟩,
  ⟨none, some 64, .mv (.t 13)⟩,
  ⟨none, some 65, .mv (.t 1)⟩,
  ⟨none, some 66, .bin .sub (.t 64) (.t 65)⟩,
  ⟨none, some 67, .bin .sub (.t 63) (.t 66)⟩,
  ⟨none, some 13, .mv (.t 67)⟩]
def r121_14 : List SO := [
  ⟨none, some 14, .mv (.c (.int .i64 1))⟩]
def r121_15 : List SO := [
  ⟨none, some 68, .mv (.t 10)⟩,
  ⟨none, some 69, .mv (.t 68)⟩,
  ⟨some (69, true), some 70, .mv (.t 11)⟩,
  ⟨none, some 71, .pick (.t 69) (.t 70) (.c (.bool false))⟩,
  ⟨none, some 72, .mv (.t 71)⟩,
  ⟨some (72, true), some 73, .mv (.t 14)⟩,
  ⟨some (72, true), some 74, .bin .eql (.t 73) (.c (.int .i64 1))⟩,
  ⟨none, some 75, .pick (.t 72) (.t 74) (.c (.bool false))⟩]
def r121_16 : List SO := [
  ⟨none, some 76, .mv (.t 0)⟩,
  ⟨none, some 77, .mv (.t 1)⟩,
  ⟨none, some 78, .mv (.t 2)⟩,
  ⟨none, some 79, .mv (.t 4)⟩,
  ⟨none, some 80, .call false 130 [.t 76, .t 77, .t 78, .t 79]⟩]
def r121_17 : List SO := [
  ⟨none, some 81, .mv (.t 1)⟩,
  ⟨none, some 82, .bin .gtr (.t 81) (.c (.int .i64 0))⟩,
  ⟨none, some 83, .mv (.t 82)⟩,
  ⟨some (83, true), some 84, .mv (.t 4)⟩,
  ⟨some (83, true), some 85, .mv (.t 0)⟩,
  ⟨some (83, true), some 86, .mv (.t 1)⟩,
  ⟨some (83, true), some 87, .bin .sub (.t 86) (.c (.int .i64 1))⟩,
  ⟨some (83, true), some 88, .idx 2 (.t 85) (.t 87)⟩,
  ⟨some (83, true), some 89, .load true 2 (.t 88)⟩,
  ⟨some (83, true), some 90, .mv (.t 0)⟩,
  ⟨some (83, true), some 91, .mv (.t 13)⟩,
  ⟨some (83, true), some 92, .idx 2 (.t 90) (.t 91)⟩,
  ⟨some (83, true), some 93, .load true 2 (.t 92)⟩,
  ⟨some (83, true), some 94, .callv false (.t 84) [.t 89, .t 93]⟩,
  ⟨some (83, true), some 95, .bin .lss (.t 94) (.c (.int .i64 0))⟩,
  ⟨some (83, true), some 96, .un .not (.t 95)⟩,
  ⟨none, some 97, .pick (.t 83) (.t 96) (.c (.bool false))⟩]
def r121_18 : List SO := [
  ⟨none, some 98, .mv (.t 0)⟩,
  ⟨none, some 99, .mv (.t 1)⟩,
  ⟨none, some 100, .mv (.t 2)⟩,
  ⟨none, some 101, .mv (.t 13)⟩,
  ⟨none, some 102, .mv (.t 4)⟩,
  ⟨none, some 103, .call false 131 [.t 98, .t 99, .t 100, .t 101, .t 102]⟩,
  ⟨none, some 15, .mv (.t 103)⟩]
def r121_19 : List SO := [
  ⟨none, some 104, .mv (.t 15)⟩,
  ⟨none, some 1, .mv (.t 104)⟩]
def r121_20 : List SO := [
  ⟨none, some 106, .mv (.t 0)⟩,
  ⟨none, some 107, .mv (.t 1)⟩,
  ⟨none, some 108, .mv (.t 2)⟩,
  ⟨none, some 109, .mv (.t 13)⟩,
  ⟨none, some 110, .mv (.t 4)⟩,
  ⟨none, some 111, .call false 132 [.t 106, .t 107, .t 108, .t 109, .t 110]⟩,
  ⟨none, some 105, .mv (.t 111)⟩,
  ⟨none, some 112, .ext (.t 105) 0⟩,
  ⟨none, some 113, .ext (.t 105) 1⟩,
  ⟨none, some 16, .mv (.t 112)⟩,
  ⟨none, some 17, .mv (.t 113)⟩]
def r121_21 : List SO := [
  ⟨none, some 114, .mv (.t 17)⟩,
  ⟨none, some 11, .mv (.t 114)⟩]
def r121_22 : List SO := [
  ⟨none, some 115, .mv (.t 16)⟩,
  ⟨none, some 116, .mv (.t 1)⟩,
  ⟨none, some 117, .bin .sub (.t 115) (.t 116)⟩,
  ⟨none, some 118, .mv (.t 2)⟩,
  ⟨none, some 119, .mv (.t 16)⟩,
  ⟨none, some 120, .bin .sub (.t 118) (.t 119)⟩,
  ⟨none, some 18, .mv (.t 117)⟩,
  ⟨none, some 19, .mv (.t 120)⟩]
def r121_23 : List SO := [
  ⟨none, some 121, .mv (.t 12)⟩,
  ⟨none, some 122, .bin .quo (.t 121) (.c (.int .i64 8))⟩,
  ⟨none, some 20, .mv (.t 122)⟩]
def r121_24 : List SO := [
  ⟨none, some 123, .mv (.t 18)⟩,
  ⟨none, some 124, .mv (.t 19)⟩,
  ⟨none, some 125, .bin .lss (.t 123) (.t 124)⟩]
def r121_25 : List SO := [
  ⟨none, some 126, .mv (.t 18)⟩,
  ⟨none, some 127, .mv (.t 20)⟩,
  ⟨none, some 128, .bin .geq (.t 126) (.t 127)⟩,
  ⟨none, some 10, .mv (.t 128)⟩]
def r121_26 : List SO := [
  ⟨none, some 129, .mv (.t 0)⟩,
  ⟨none, some 130, .mv (.t 1)⟩,
  ⟨none, some 131, .mv (.t 16)⟩,
  ⟨none, some 132, .mv (.t 3)⟩,
  ⟨none, some 133, .mv (.t 4)⟩,
  ⟨none, some 134, .call true 121 [.t 129, .t 130, .t 131, .t 132, .t 133]⟩]
def r121_27 : List SO := [
  ⟨none, some 135, .mv (.t 16)⟩,
  ⟨none, some 136, .bin .add (.t 135) (.c (.int .i64 1))⟩,
  ⟨none, some 1, .mv (.t 136)⟩]
def r121_28 : List SO := [
  ⟨none, some 137, .mv (.t 19)⟩,
  ⟨none, some 138, .mv (.t 20)⟩,
  ⟨none, some 139, .bin .geq (.t 137) (.t 138)⟩,
  ⟨none, some 10, .mv (.t 139)⟩]
def r121_29 : List SO := [
  ⟨none, some 140, .mv (.t 0)⟩,
  ⟨none, some 141, .mv (.t 16)⟩,
  ⟨none, some 142, .bin .add (.t 141) (.c (.int .i64 1))⟩,
  ⟨none, some 143, .mv (.t 2)⟩,
  ⟨none, some 144, .mv (.t 3)⟩,
  ⟨none, some 145, .mv (.t 4)⟩,
  ⟨none, some 146, .call true 121 [.t 140, .t 142, .t 143, .t 144, .t 145]⟩]
def r121_30 : List SO := [
  ⟨none, some 147, .mv (.t 16)⟩,
  ⟨none, some 2, .mv (.t 147)⟩]
def b121_0 : SC := .block 1 (.seq (.reg r121_2) (.seq (.seq (.reg r121_3) (.cond (.t 25) (.seq (.reg r121_4) (.ret)) (.skip))) (.seq (.seq (.reg r121_5) (.cond (.t 32) (.seq (.reg r121_6) (.ret)) (.skip))) (.seq (.seq (.reg r121_7) (.cond (.t 39) (.seq (.reg r121_8) (.reg r121_9)) (.skip))) (.seq (.reg r121_10) (.seq (.seq (.reg r121_11) (.cond (.t 56) (.seq (.reg r121_12) (.seq (.reg r121_13) (.reg r121_14))) (.skip))) (.seq (.seq (.reg r121_15) (.cond (.t 75) (.seq (.reg r121_16) (.cond (.t 80) (.ret) (.skip))) (.skip))) (.seq (.seq (.reg r121_17) (.cond (.t 97) (.seq (.reg r121_18) (.seq (.reg r121_19) (.exit 1))) (.skip))) (.seq (.reg r121_20) (.seq (.reg r121_21) (.seq (.reg r121_22) (.seq (.reg r121_23) (.seq (.reg r121_24) (.cond (.t 125) (.seq (.reg r121_25) (.seq (.reg r121_26) (.reg r121_27))) (.seq (.reg r121_28) (.seq (.reg r121_29) (.reg r121_30)))))))))))))))))
def s121 : SF := ⟨148, [], .seq (.reg r121_0) (.seq (.reg r121_1) (.block 0 (.loop b121_0)))⟩
theorem s121_ok : slimF Try.prog ⟨[94, 102, 103, 108, 109, 116, 119, 121, 125], []⟩ Try.f121 = some s121 := by kernel_rfl
end Go.Proofs.Ytngkckefanbhgaa

namespace Go.Proofs.Ytngkckefanbhgaa
open Go Go.Proofs
def r122_0 : List SO := [
  ⟨none, some 2, .mv (.c (.int .i64 0))⟩]
def r122_1 : List SO := [
  ⟨none, some 3, .mv (.t 0)⟩,
  ⟨none, some 4, .conv .u32 (.t 3)⟩,
  ⟨none, some 5, .call false 133 [.t 4]⟩,
  ⟨none, some 2, .mv (.t 5)⟩]
def r122_2 : List SO := [
  ⟨none, some 6, .mv (.t 0)⟩,
  ⟨none, some 7, .call false 134 [.t 6]⟩,
  ⟨none, some 2, .mv (.t 7)⟩]
def s122 : SF := ⟨8, [.tmp 2], .seq (.reg r122_0) (.seq (.cond (.c (.bool false)) (.seq (.reg r122_1) (.ret)) (.skip)) (.seq (.reg r122_2) (.ret)))⟩
theorem s122_ok : slimF Try.prog ⟨[94, 102, 103, 108, 109, 116, 119, 121, 125], []⟩ Try.f122 = some s122 := by kernel_rfl
end Go.Proofs.Ytngkckefanbhgaa

namespace Go.Proofs.Ytngkckefanbhgaa
open Go Go.Proofs
def r125_0 : List SO := [
  ⟨none, some 10, .mv (.t 1)⟩,
  ⟨none, some 11, .bin .add (.t 10) (.c (.int .i64 1))⟩,
  ⟨none, some 8, .mv (.t 11)⟩]
def r125_1 : List SO := [
  ⟨none, some 12, .mv (.t 8)⟩,
  ⟨none, some 13, .mv (.t 2)⟩,
  ⟨none, some 14, .bin .lss (.t 12) (.t 13)⟩]
def r125_3 : List SO := [
  ⟨none, some 17, .mv (.t 8)⟩,
  ⟨none, some 9, .mv (.t 17)⟩]
def r125_4 : List SO := [
  ⟨none, some 18, .mv (.t 9)⟩,
  ⟨none, some 19, .mv (.t 1)⟩,
  ⟨none, some 20, .bin .gtr (.t 18) (.t 19)⟩,
  ⟨none, some 21, .mv (.t 20)⟩,
  ⟨some (21, true), some 22, .mv (.t 3)⟩,
  ⟨some (21, true), some 23, .mv (.t 0)⟩,
  ⟨some (21, true), some 24, .mv (.t 9)⟩,
  ⟨some (21, true), some 25, .idx 2 (.t 23) (.t 24)⟩,
  ⟨some (21, true), some 26, .load true 2 (.t 25)⟩,
  ⟨some (21, true), some 27, .mv (.t 0)⟩,
  ⟨some (21, true), some 28, .mv (.t 9)⟩,
  ⟨some (21, true), some 29, .bin .sub (.t 28) (.c (.int .i64 1))⟩,
  ⟨some (21, true), some 30, .idx 2 (.t 27) (.t 29)⟩,
  ⟨some (21, true), some 31, .load true 2 (.t 30)⟩,
  ⟨some (21, true), some 32, .callv false (.t 22) [.t 26, .t 31]⟩,
  ⟨some (21, true), some 33, .bin .lss (.t 32) (.c (.int .i64 0))⟩,
  ⟨none, some 34, .pick (.t 21) (.t 33) (.c (.bool false))⟩]
def r125_6 : List SO := [
  ⟨none, some 37, .mv (.t 0)⟩,
  ⟨none, some 38, .mv (.t 9)⟩,
  ⟨none, some 39, .mv (.t 0)⟩,
  ⟨none, some 40, .mv (.t 9)⟩,
  ⟨none, some 41, .bin .sub (.t 40) (.c (.int .i64 1))⟩,
  ⟨none, some 42, .mv (.t 0)⟩,
  ⟨none, some 43, .mv (.t 9)⟩,
  ⟨none, some 44, .bin .sub (.t 43) (.c (.int .i64 1))⟩,
  ⟨none, some 45, .idx 2 (.t 42) (.t 44)⟩,
  ⟨none, some 46, .load true 2 (.t 45)⟩,
  ⟨none, some 47, .mv (.t 0)⟩,
  ⟨none, some 48, .mv (.t 9)⟩,
  ⟨none, some 49, .idx 2 (.t 47) (.t 48)⟩,
  ⟨none, some 50, .load true 2 (.t 49)⟩,
  ⟨none, some 51, .idx 2 (.t 37) (.t 38)⟩,
  ⟨none, none, .store 2 (.t 51) (.t 46)⟩,
  ⟨none, some 52, .idx 2 (.t 39) (.t 41)⟩,
  ⟨none, none, .store 2 (.t 52) (.t 50)⟩]
def r125_5 : List SO := [
  ⟨none, some 35, .mv (.t 9)⟩,
  ⟨none, some 36, .bin .sub (.t 35) (.c (.int .i64 1))⟩,
  ⟨none, some 9, .mv (.t 36)⟩]
def b125_1 : SC := .seq (.seq (.reg r125_4) (.cond (.t 34) (.skip) (.exit 2))) (.seq (.block 3 (.reg r125_6)) (.reg r125_5))
def r125_2 : List SO := [
  ⟨none, some 15, .mv (.t 8)⟩,
  ⟨none, some 16, .bin .add (.t 15) (.c (.int .i64 1))⟩,
  ⟨none, some 8, .mv (.t 16)⟩]
def b125_0 : SC := .seq (.seq (.reg r125_1) (.cond (.t 14) (.skip) (.exit 0))) (.seq (.block 1 (.seq (.reg r125_3) (.block 2 (.loop b125_1)))) (.reg r125_2))
def s125 : SF := ⟨53, [], .seq (.reg r125_0) (.block 0 (.loop b125_0))⟩
theorem s125_ok : slimF Try.prog ⟨[94, 102, 103, 108, 109, 116, 119, 121, 125], []⟩ Try.f125 = some s125 := by kernel_rfl
end Go.Proofs.Ytngkckefanbhgaa

namespace Go.Proofs.Ytngkckefanbhgaa
open Go Go.Proofs
def r126_0 : List SO := [
  ⟨none, some 13, .mv (.t 1)⟩,
  ⟨none, some 8, .mv (.t 13)⟩]
def r126_1 : List SO := [
  ⟨none, some 9, .mv (.c (.int .i64 0))⟩]
def r126_2 : List SO := [
  ⟨none, some 14, .mv (.t 2)⟩,
  ⟨none, some 15, .mv (.t 1)⟩,
  ⟨none, some 16, .bin .sub (.t 14) (.t 15)⟩,
  ⟨none, some 10, .mv (.t 16)⟩]
def r126_3 : List SO := [
  ⟨none, some 17, .mv (.t 10)⟩,
  ⟨none, some 18, .bin .sub (.t 17) (.c (.int .i64 1))⟩,
  ⟨none, some 19, .bin .quo (.t 18) (.c (.int .i64 2))⟩,
  ⟨none, some 11, .mv (.t 19)⟩]
def r126_4 : List SO := [
  ⟨none, some 20, .mv (.t 11)⟩,
  ⟨none, some 21, .bin .geq (.t 20) (.c (.int .i64 0))⟩]
def r126_6 : List SO := [
  ⟨none, some 24, .mv (.t 0)⟩,
  ⟨none, some 25, .mv (.t 11)⟩,
  ⟨none, some 26, .mv (.t 10)⟩,
  ⟨none, some 27, .mv (.t 8)⟩,
  ⟨none, some 28, .mv (.t 3)⟩,
  ⟨none, some 29, .call false 136 [.t 24, .t 25, .t 26, .t 27, .t 28]⟩]
def r126_5 : List SO := [
  ⟨none, some 22, .mv (.t 11)⟩,
  ⟨none, some 23, .bin .sub (.t 22) (.c (.int .i64 1))⟩,
  ⟨none, some 11, .mv (.t 23)⟩]
def b126_0 : SC := .seq (.seq (.reg r126_4) (.cond (.t 21) (.skip) (.exit 0))) (.seq (.block 1 (.reg r126_6)) (.reg r126_5))
def r126_7 : List SO := [
  ⟨none, some 30, .mv (.t 10)⟩,
  ⟨none, some 31, .bin .sub (.t 30) (.c (.int .i64 1))⟩,
  ⟨none, some 12, .mv (.t 31)⟩]
def r126_8 : List SO := [
  ⟨none, some 32, .mv (.t 12)⟩,
  ⟨none, some 33, .bin .geq (.t 32) (.c (.int .i64 0))⟩]
def r126_10 : List SO := [
  ⟨none, some 36, .mv (.t 0)⟩,
  ⟨none, some 37, .mv (.t 8)⟩,
  ⟨none, some 38, .mv (.t 0)⟩,
  ⟨none, some 39, .mv (.t 8)⟩,
  ⟨none, some 40, .mv (.t 12)⟩,
  ⟨none, some 41, .bin .add (.t 39) (.t 40)⟩,
  ⟨none, some 42, .mv (.t 0)⟩,
  ⟨none, some 43, .mv (.t 8)⟩,
  ⟨none, some 44, .mv (.t 12)⟩,
  ⟨none, some 45, .bin .add (.t 43) (.t 44)⟩,
  ⟨none, some 46, .idx 2 (.t 42) (.t 45)⟩,
  ⟨none, some 47, .load true 2 (.t 46)⟩,
  ⟨none, some 48, .mv (.t 0)⟩,
  ⟨none, some 49, .mv (.t 8)⟩,
  ⟨none, some 50, .idx 2 (.t 48) (.t 49)⟩,
  ⟨none, some 51, .load true 2 (.t 50)⟩,
  ⟨none, some 52, .idx 2 (.t 36) (.t 37)⟩,
  ⟨none, none, .store 2 (.t 52) (.t 47)⟩,
  ⟨none, some 53, .idx 2 (.t 38) (.t 41)⟩,
  ⟨none, none, .store 2 (.t 53) (.t 51)⟩]
def r126_11 : List SO := [
  ⟨none, some 54, .mv (.t 0)⟩,
  ⟨none, some 55, .mv (.t 9)⟩,
  ⟨none, some 56, .mv (.t 12)⟩,
  ⟨none, some 57, .mv (.t 8)⟩,
  ⟨none, some 58, .mv (.t 3)⟩,
  ⟨none, some 59, .call false 136 [.t 54, .t 55, .t 56, .t 57, .t 58]⟩]
def r126_9 : List SO := [
  ⟨none, some 34, .mv (.t 12)⟩,
  ⟨none, some 35, .bin .sub (.t 34) (.c (.int .i64 1))⟩,
  ⟨none, some 12, .mv (.t 35)⟩]
def b126_1 : SC := .seq (.seq (.reg r126_8) (.cond (.t 33) (.skip) (.exit 2))) (.seq (.block 3 (.seq (.reg r126_10) (.reg r126_11))) (.reg r126_9))
def s126 : SF := ⟨60, [], .seq (.reg r126_0) (.seq (.reg r126_1) (.seq (.reg r126_2) (.seq (.seq (.reg r126_3) (.block 0 (.loop b126_0))) (.seq (.reg r126_7) (.block 2 (.loop b126_1))))))⟩
theorem s126_ok : slimF Try.prog ⟨[94, 102, 103, 108, 109, 116, 119, 121, 125], []⟩ Try.f126 = some s126 := by kernel_rfl
end Go.Proofs.Ytngkckefanbhgaa

namespace Go.Proofs.Ytngkckefanbhgaa
open Go Go.Proofs
def r127_0 : List SO := [
  ⟨none, some 13, .mv (.t 2)⟩,
  ⟨none, some 14, .mv (.t 1)⟩,
  ⟨none, some 15, .bin .sub (.t 13) (.t 14)⟩,
  ⟨none, some 8, .mv (.t 15)⟩]
def r127_1 : List SO := [
  ⟨none, some 16, .mv (.t 8)⟩,
  ⟨none, some 17, .bin .geq (.t 16) (.c (.int .i64 8))⟩]
def r127_2 : List SO := [
  ⟨none, some 18, .mv (.t 8)⟩,
  ⟨none, some 19, .conv .u64 (.t 18)⟩,
  ⟨none, some 9, .alloc 154 [.int .u64 0]⟩,
  ⟨none, none, .store 1 (.t 9) (.t 19)⟩]
def r127_3 : List SO := [
  ⟨none, some 20, .mv (.t 8)⟩,
  ⟨none, some 21, .call false 137 [.t 20]⟩,
  ⟨none, some 10, .mv (.t 21)⟩]
def r127_4 : List SO := [
  ⟨none, some 22, .mv (.t 1)⟩,
  ⟨none, some 23, .mv (.t 8)⟩,
  ⟨none, some 24, .bin .quo (.t 23) (.c (.int .i64 4))⟩,
  ⟨none, some 25, .bin .mul (.t 24) (.c (.int .i64 2))⟩,
  ⟨none, some 26, .bin .add (.t 22) (.t 25)⟩,
  ⟨none, some 27, .bin .sub (.t 26) (.c (.int .i64 1))⟩,
  ⟨none, some 11, .mv (.t 27)⟩]
def r127_5 : List SO := [
  ⟨none, some 28, .mv (.t 11)⟩,
  ⟨none, some 29, .mv (.t 1)⟩,
  ⟨none, some 30, .mv (.t 8)⟩,
  ⟨none, some 31, .bin .quo (.t 30) (.c (.int .i64 4))⟩,
  ⟨none, some 32, .bin .mul (.t 31) (.c (.int .i64 2))⟩,
  ⟨none, some 33, .bin .add (.t 29) (.t 32)⟩,
  ⟨none, some 34, .bin .add (.t 33) (.c (.int .i64 1))⟩,
  ⟨none, some 35, .bin .leq (.t 28) (.t 34)⟩]
def r127_7 : List SO := [
  ⟨none, some 38, .call false 138 [.t 9]⟩,
  ⟨none, some 39, .mv (.t 10)⟩,
  ⟨none, some 40, .bin .sub (.t 39) (.c (.int .u64 1))⟩,
  ⟨none, some 41, .bin .and (.t 38) (.t 40)⟩,
  ⟨none, some 42, .conv .i64 (.t 41)⟩,
  ⟨none, some 12, .mv (.t 42)⟩]
def r127_8 : List SO := [
  ⟨none, some 43, .mv (.t 12)⟩,
  ⟨none, some 44, .mv (.t 8)⟩,
  ⟨none, some 45, .bin .geq (.t 43) (.t 44)⟩]
def r127_9 : List SO := [
  ⟨none, some 46, .mv (.t 12)⟩,
  ⟨none, some 47, .mv (.t 8)⟩,
  ⟨none, some 48, .bin .sub (.t 46) (.t 47)⟩,
  ⟨none, some 12, .mv (.t 48)⟩]
def r127_10 : List SO := [
  ⟨none, some 49, .mv (.t 0)⟩,
  ⟨none, some 50, .mv (.t 11)⟩,
  ⟨none, some 51, .mv (.t 0)⟩,
  ⟨none, some 52, .mv (.t 1)⟩,
  ⟨none, some 53, .mv (.t 12)⟩,
  ⟨none, some 54, .bin .add (.t 52) (.t 53)⟩,
  ⟨none, some 55, .mv (.t 0)⟩,
  ⟨none, some 56, .mv (.t 1)⟩,
  ⟨none, some 57, .mv (.t 12)⟩,
  ⟨none, some 58, .bin .add (.t 56) (.t 57)⟩,
  ⟨none, some 59, .idx 2 (.t 55) (.t 58)⟩,
  ⟨none, some 60, .load true 2 (.t 59)⟩,
  ⟨none, some 61, .mv (.t 0)⟩,
  ⟨none, some 62, .mv (.t 11)⟩,
  ⟨none, some 63, .idx 2 (.t 61) (.t 62)⟩,
  ⟨none, some 64, .load true 2 (.t 63)⟩,
  ⟨none, some 65, .idx 2 (.t 49) (.t 50)⟩,
  ⟨none, none, .store 2 (.t 65) (.t 60)⟩,
  ⟨none, some 66, .idx 2 (.t 51) (.t 54)⟩,
  ⟨none, none, .store 2 (.t 66) (.t 64)⟩]
def r127_6 : List SO := [
  ⟨none, some 36, .mv (.t 11)⟩,
  ⟨none, some 37, .bin .add (.t 36) (.c (.int .i64 1))⟩,
  ⟨none, some 11, .mv (.t 37)⟩]
def b127_0 : SC := .seq (.seq (.reg r127_5) (.cond (.t 35) (.skip) (.exit 0))) (.seq (.block 1 (.seq (.reg r127_7) (.seq (.seq (.reg r127_8) (.cond (.t 45) (.reg r127_9) (.skip))) (.reg r127_10)))) (.reg r127_6))
def s127 : SF := ⟨67, [], .seq (.reg r127_0) (.seq (.reg r127_1) (.cond (.t 17) (.seq (.reg r127_2) (.seq (.reg r127_3) (.seq (.reg r127_4) (.block 0 (.loop b127_0))))) (.skip)))⟩
theorem s127_ok : slimF Try.prog ⟨[94, 102, 103, 108, 109, 116, 119, 121, 125], []⟩ Try.f127 = some s127 := by kernel_rfl
end Go.Proofs.Ytngkckefanbhgaa

namespace Go.Proofs.Ytngkckefanbhgaa
open Go Go.Proofs
def r128_0 : List SO := [
  ⟨none, some 8, .mv (.c (.int .i64 0))⟩,
  ⟨none, some 9, .mv (.c (.int .i64 0))⟩]
def r128_1 : List SO := [
  ⟨none, some 15, .mv (.t 2)⟩,
  ⟨none, some 16, .mv (.t 1)⟩,
  ⟨none, some 17, .bin .sub (.t 15) (.t 16)⟩,
  ⟨none, some 10, .mv (.t 17)⟩]
def r128_2 : List SO := [
  ⟨none, some 11, .alloc 3 [.int .i64 0]⟩]
def r128_3 : List SO := [
  ⟨none, some 18, .mv (.t 1)⟩,
  ⟨none, some 19, .mv (.t 10)⟩,
  ⟨none, some 20, .bin .quo (.t 19) (.c (.int .i64 4))⟩,
  ⟨none, some 21, .bin .mul (.t 20) (.c (.int .i64 1))⟩,
  ⟨none, some 22, .bin .add (.t 18) (.t 21)⟩,
  ⟨none, some 12, .mv (.t 22)⟩]
def r128_4 : List SO := [
  ⟨none, some 23, .mv (.t 1)⟩,
  ⟨none, some 24, .mv (.t 10)⟩,
  ⟨none, some 25, .bin .quo (.t 24) (.c (.int .i64 4))⟩,
  ⟨none, some 26, .bin .mul (.t 25) (.c (.int .i64 2))⟩,
  ⟨none, some 27, .bin .add (.t 23) (.t 26)⟩,
  ⟨none, some 13, .mv (.t 27)⟩]
def r128_5 : List SO := [
  ⟨none, some 28, .mv (.t 1)⟩,
  ⟨none, some 29, .mv (.t 10)⟩,
  ⟨none, some 30, .bin .quo (.t 29) (.c (.int .i64 4))⟩,
  ⟨none, some 31, .bin .mul (.t 30) (.c (.int .i64 3))⟩,
  ⟨none, some 32, .bin .add (.t 28) (.t 31)⟩,
  ⟨none, some 14, .mv (.t 32)⟩]
def r128_6 : List SO := [
  ⟨none, some 33, .mv (.t 10)⟩,
  ⟨none, some 34, .bin .geq (.t 33) (.c (.int .i64 8))⟩]
def r128_7 : List SO := [
  ⟨none, some 35, .mv (.t 10)⟩,
  ⟨none, some 36, .bin .geq (.t 35) (.c (.int .i64 50))⟩]
def r128_8 : List SO := [
  ⟨none, some 37, .mv (.t 0)⟩,
  ⟨none, some 38, .mv (.t 12)⟩,
  ⟨none, some 39, .mv (.t 3)⟩,
  ⟨none, some 40, .call false 139 [.t 37, .t 38, .t 11, .t 39]⟩,
  ⟨none, some 12, .mv (.t 40)⟩]
def r128_9 : List SO := [
  ⟨none, some 41, .mv (.t 0)⟩,
  ⟨none, some 42, .mv (.t 13)⟩,
  ⟨none, some 43, .mv (.t 3)⟩,
  ⟨none, some 44, .call false 139 [.t 41, .t 42, .t 11, .t 43]⟩,
  ⟨none, some 13, .mv (.t 44)⟩]
def r128_10 : List SO := [
  ⟨none, some 45, .mv (.t 0)⟩,
  ⟨none, some 46, .mv (.t 14)⟩,
  ⟨none, some 47, .mv (.t 3)⟩,
  ⟨none, some 48, .call false 139 [.t 45, .t 46, .t 11, .t 47]⟩,
  ⟨none, some 14, .mv (.t 48)⟩]
def r128_11 : List SO := [
  ⟨none, some 49, .mv (.t 0)⟩,
  ⟨none, some 50, .mv (.t 12)⟩,
  ⟨none, some 51, .mv (.t 13)⟩,
  ⟨none, some 52, .mv (.t 14)⟩,
  ⟨none, some 53, .mv (.t 3)⟩,
  ⟨none, some 54, .call false 140 [.t 49, .t 50, .t 51, .t 52, .t 11, .t 53]⟩,
  ⟨none, some 13, .mv (.t 54)⟩]
def r128_12 : List SO := [
  ⟨none, some 55, .load false 1 (.t 11)⟩]
def r128_14 : List SO := [
  ⟨none, some 58, .bin .eql (.t 55) (.c (.int .i64 0))⟩,
  ⟨none, some 57, .mv (.t 58)⟩]
def r128_15 : List SO := [
  ⟨none, some 59, .mv (.t 13)⟩,
  ⟨none, some 8, .mv (.t 59)⟩,
  ⟨none, some 9, .mv (.c (.int .i64 1))⟩]
def r128_16 : List SO := [
  ⟨none, some 61, .bin .eql (.t 55) (.c (.int .i64 12))⟩,
  ⟨none, some 60, .mv (.t 61)⟩]
def r128_17 : List SO := [
  ⟨none, some 62, .mv (.t 13)⟩,
  ⟨none, some 8, .mv (.t 62)⟩,
  ⟨none, some 9, .mv (.c (.int .i64 2))⟩]
def r128_13 : List SO := [
  ⟨none, some 56, .mv (.t 13)⟩,
  ⟨none, some 8, .mv (.t 56)⟩,
  ⟨none, some 9, .mv (.c (.int .i64 0))⟩]
def s128 : SF := ⟨63, [.tmp 8, .tmp 9], .seq (.reg r128_0) (.seq (.reg r128_1) (.seq (.reg r128_2) (.seq (.reg r128_3) (.seq (.reg r128_4) (.seq (.reg r128_5) (.seq (.seq (.reg r128_6) (.cond (.t 34) (.seq (.seq (.reg r128_7) (.cond (.t 36) (.seq (.reg r128_8) (.seq (.reg r128_9) (.reg r128_10))) (.skip))) (.reg r128_11)) (.skip))) (.seq (.reg r128_12) (.block 0 (.seq (.reg r128_14) (.cond (.t 57) (.seq (.reg r128_15) (.ret)) (.seq (.reg r128_16) (.cond (.t 60) (.seq (.reg r128_17) (.ret)) (.seq (.reg r128_13) (.ret))))))))))))))⟩
theorem s128_ok : slimF Try.prog ⟨[94, 102, 103, 108, 109, 116, 119, 121, 125], []⟩ Try.f128 = some s128 := by kernel_rfl
end Go.Proofs.Ytngkckefanbhgaa

namespace Go.Proofs.Ytngkckefanbhgaa
open Go Go.Proofs
def r129_0 : List SO := [
  ⟨none, some 10, .mv (.t 1)⟩,
  ⟨none, some 8, .mv (.t 10)⟩]
def r129_1 : List SO := [
  ⟨none, some 11, .mv (.t 2)⟩,
  ⟨none, some 12, .bin .sub (.t 11) (.c (.int .i64 1))⟩,
  ⟨none, some 9, .mv (.t 12)⟩]
def r129_2 : List SO := [
  ⟨none, some 13, .mv (.t 8)⟩,
  ⟨none, some 14, .mv (.t 9)⟩,
  ⟨none, some 15, .bin .lss (.t 13) (.t 14)⟩]
def r129_3 : List SO := [
  ⟨none, some 16, .mv (.t 0)⟩,
  ⟨none, some 17, .mv (.t 8)⟩,
  ⟨none, some 18, .mv (.t 0)⟩,
  ⟨none, some 19, .mv (.t 9)⟩,
  ⟨none, some 20, .mv (.t 0)⟩,
  ⟨none, some 21, .mv (.t 9)⟩,
  ⟨none, some 22, .idx 2 (.t 20) (.t 21)⟩,
  ⟨none, some 23, .load true 2 (.t 22)⟩,
  ⟨none, some 24, .mv (.t 0)⟩,
  ⟨none, some 25, .mv (.t 8)⟩,
  ⟨none, some 26, .idx 2 (.t 24) (.t 25)⟩,
  ⟨none, some 27, .load true 2 (.t 26)⟩,
  ⟨none, some 28, .idx 2 (.t 16) (.t 17)⟩,
  ⟨none, none, .store 2 (.t 28) (.t 23)⟩,
  ⟨none, some 29, .idx 2 (.t 18) (.t 19)⟩,
  ⟨none, none, .store 2 (.t 29) (.t 27)⟩]
def r129_4 : List SO := [
  ⟨none, some 30, .mv (.t 8)⟩,
  ⟨none, some 31, .bin .add (.t 30) (.c (.int .i64 1))⟩,
  ⟨none, some 8, .mv (.t 31)⟩]
def r129_5 : List SO := [
  ⟨none, some 32, .mv (.t 9)⟩,
  ⟨none, some 33, .bin .sub (.t 32) (.c (.int .i64 1))⟩,
  ⟨none, some 9, .mv (.t 33)⟩]
def b129_0 : SC := .seq (.seq (.reg r129_2) (.cond (.t 15) (.skip) (.exit 0))) (.block 1 (.seq (.reg r129_3) (.seq (.reg r129_4) (.reg r129_5))))
def s129 : SF := ⟨34, [], .seq (.reg r129_0) (.seq (.reg r129_1) (.block 0 (.loop b129_0)))⟩
theorem s129_ok : slimF Try.prog ⟨[94, 102, 103, 108, 109, 116, 119, 121, 125], []⟩ Try.f129 = some s129 := by kernel_rfl
end Go.Proofs.Ytngkckefanbhgaa

namespace Go.Proofs.Ytngkckefanbhgaa
open Go Go.Proofs
def r130_0 : List SO := [
  ⟨none, some 8, .mv (.c (.bool false))⟩]
def r130_1 : List SO := [
  ⟨none, some 13, .mv (.t 1)⟩,
  ⟨none, some 14, .bin .add (.t 13) (.c (.int .i64 1))⟩,
  ⟨none, some 9, .mv (.t 14)⟩]
def r130_2 : List SO := [
  ⟨none, some 10, .mv (.c (.int .i64 0))⟩]
def r130_3 : List SO := [
  ⟨none, some 15, .mv (.t 10)⟩,
  ⟨none, some 16, .bin .lss (.t 15) (.c (.int .i64 5))⟩]
def r130_5 : List SO := [
  ⟨none, some 19, .mv (.t 9)⟩,
  ⟨none, some 20, .mv (.t 2)⟩,
  ⟨none, some 21, .bin .lss (.t 19) (.t 20)⟩,
  ⟨none, some 22, .mv (.t 21)⟩,
  ⟨some (22, true), some 23, .mv (.t 3)⟩,
  ⟨some (22, true), some 24, .mv (.t 0)⟩,
  ⟨some (22, true), some 25, .mv (.t 9)⟩,
  ⟨some (22, true), some 26, .idx 2 (.t 24) (.t 25)⟩,
  ⟨some (22, true), some 27, .load true 2 (.t 26)⟩,
  ⟨some (22, true), some 28, .mv (.t 0)⟩,
  ⟨some (22, true), some 29, .mv (.t 9)⟩,
  ⟨some (22, true), some 30, .bin .sub (.t 29) (.c (.int .i64 1))⟩,
  ⟨some (22, true), some 31, .idx 2 (.t 28) (.t 30)⟩,
  ⟨some (22, true), some 32, .load true 2 (.t 31)⟩,
  ⟨some (22, true), some 33, .callv false (.t 23) [.t 27, .t 32]⟩,
  ⟨some (22, true), some 34, .bin .lss (.t 33) (.c (.int .i64 0))⟩,
  ⟨some (22, true), some 35, .un .not (.t 34)⟩,
  ⟨none, some 36, .pick (.t 22) (.t 35) (.c (.bool false))⟩]
def r130_6 : List SO := [
  ⟨none, some 37, .mv (.t 9)⟩,
  ⟨none, some 38, .bin .add (.t 37) (.c (.int .i64 1))⟩,
  ⟨none, some 9, .mv (.t 38)⟩]
def b130_1 : SC := .seq (.seq (.reg r130_5) (.cond (.t 36) (.skip) (.exit 2))) (.block 3 (.reg r130_6))
def r130_7 : List SO := [
  ⟨none, some 39, .mv (.t 9)⟩,
  ⟨none, some 40, .mv (.t 2)⟩,
  ⟨none, some 41, .bin .eql (.t 39) (.t 40)⟩]
def r130_8 : List SO := [
  ⟨none, some 8, .mv (.c (.bool true))⟩]
def r130_9 : List SO := [
  ⟨none, some 42, .mv (.t 2)⟩,
  ⟨none, some 43, .mv (.t 1)⟩,
  ⟨none, some 44, .bin .sub (.t 42) (.t 43)⟩,
  ⟨none, some 45, .bin .lss (.t 44) (.c (.int .i64 50))⟩]
def r130_10 : List SO := [
  ⟨none, some 8, .mv (.c (.bool false))⟩]
def r130_11 : List SO := [
  ⟨none, some 46, .mv (.t 0)⟩,
  ⟨none, some 47, .mv (.t 9)⟩,
  ⟨none, some 48, .mv (.t 0)⟩,
  ⟨none, some 49, .mv (.t 9)⟩,
  ⟨none, some 50, .bin .sub (.t 49) (.c (.int .i64 1))⟩,
  ⟨none, some 51, .mv (.t 0)⟩,
  ⟨none, some 52, .mv (.t 9)⟩,
  ⟨none, some 53, .bin .sub (.t 52) (.c (.int .i64 1))⟩,
  ⟨none, some 54, .idx 2 (.t 51) (.t 53)⟩,
  ⟨none, some 55, .load true 2 (.t 54)⟩,
  ⟨none, some 56, .mv (.t 0)⟩,
  ⟨none, some 57, .mv (.t 9)⟩,
  ⟨none, some 58, .idx 2 (.t 56) (.t 57)⟩,
  ⟨none, some 59, .load true 2 (.t 58)⟩,
  ⟨none, some 60, .idx 2 (.t 46) (.t 47)⟩,
  ⟨none, none, .store 2 (.t 60) (.t 55)⟩,
  ⟨none, some 61, .idx 2 (.t 48) (.t 50)⟩,
  ⟨none, none, .store 2 (.t 61) (.t 59)⟩]
def r130_12 : List SO := [
  ⟨none, some 62, .mv (.t 9)⟩,
  ⟨none, some 63, .mv (.t 1)⟩,
  ⟨none, some 64, .bin .sub (.t 62) (.t 63)⟩,
  ⟨none, some 65, .bin .geq (.t 64) (.c (.int .i64 2))⟩]
def r130_13 : List SO := [
  ⟨none, some 66, .mv (.t 9)⟩,
  ⟨none, some 67, .bin .sub (.t 66) (.c (.int .i64 1))⟩,
  ⟨none, some 11, .mv (.t 67)⟩]
def r130_14 : List SO := [
  ⟨none, some 68, .mv (.t 11)⟩,
  ⟨none, some 69, .bin .geq (.t 68) (.c (.int .i64 1))⟩]
def r130_16 : List SO := [
  ⟨none, some 72, .mv (.t 3)⟩,
  ⟨none, some 73, .mv (.t 0)⟩,
  ⟨none, some 74, .mv (.t 11)⟩,
  ⟨none, some 75, .idx 2 (.t 73) (.t 74)⟩,
  ⟨none, some 76, .load true 2 (.t 75)⟩,
  ⟨none, some 77, .mv (.t 0)⟩,
  ⟨none, some 78, .mv (.t 11)⟩,
  ⟨none, some 79, .bin .sub (.t 78) (.c (.int .i64 1))⟩,
  ⟨none, some 80, .idx 2 (.t 77) (.t 79)⟩,
  ⟨none, some 81, .load true 2 (.t 80)⟩,
  ⟨none, some 82, .callv false (.t 72) [.t 76, .t 81]⟩,
  ⟨none, some 83, .bin .lss (.t 82) (.c (.int .i64 0))⟩,
  ⟨none, some 84, .un .not (.t 83)⟩]
def r130_17 : List SO := [
  ⟨none, some 85, .mv (.t 0)⟩,
  ⟨none, some 86, .mv (.t 11)⟩,
  ⟨none, some 87, .mv (.t 0)⟩,
  ⟨none, some 88, .mv (.t 11)⟩,
  ⟨none, some 89, .bin .sub (.t 88) (.c (.int .i64 1))⟩,
  ⟨none, some 90, .mv (.t 0)⟩,
  ⟨none, some 91, .mv (.t 11)⟩,
  ⟨none, some 92, .bin .sub (.t 91) (.c (.int .i64 1))⟩,
  ⟨none, some 93, .idx 2 (.t 90) (.t 92)⟩,
  ⟨none, some 94, .load true 2 (.t 93)⟩,
  ⟨none, some 95, .mv (.t 0)⟩,
  ⟨none, some 96, .mv (.t 11)⟩,
  ⟨none, some 97, .idx 2 (.t 95) (.t 96)⟩,
  ⟨none, some 98, .load true 2 (.t 97)⟩,
  ⟨none, some 99, .idx 2 (.t 85) (.t 86)⟩,
  ⟨none, none, .store 2 (.t 99) (.t 94)⟩,
  ⟨none, some 100, .idx 2 (.t 87) (.t 89)⟩,
  ⟨none, none, .store 2 (.t 100) (.t 98)⟩]
def r130_15 : List SO := [
  ⟨none, some 70, .mv (.t 11)⟩,
  ⟨none, some 71, .bin .sub (.t 70) (.c (.int .i64 1))⟩,
  ⟨none, some 11, .mv (.t 71)⟩]
def b130_2 : SC := .seq (.seq (.reg r130_14) (.cond (.t 69) (.skip) (.exit 4))) (.seq (.block 5 (.seq (.seq (.reg r130_16) (.cond (.t 84) (.exit 4) (.skip))) (.reg r130_17))) (.reg r130_15))
def r130_18 : List SO := [
  ⟨none, some 101, .mv (.t 2)⟩,
  ⟨none, some 102, .mv (.t 9)⟩,
  ⟨none, some 103, .bin .sub (.t 101) (.t 102)⟩,
  ⟨none, some 104, .bin .geq (.t 103) (.c (.int .i64 2))⟩]
def r130_19 : List SO := [
  ⟨none, some 105, .mv (.t 9)⟩,
  ⟨none, some 106, .bin .add (.t 105) (.c (.int .i64 1))⟩,
  ⟨none, some 12, .mv (.t 106)⟩]
def r130_20 : List SO := [
  ⟨none, some 107, .mv (.t 12)⟩,
  ⟨none, some 108, .mv (.t 2)⟩,
  ⟨none, some 109, .bin .lss (.t 107) (.t 108)⟩]
def r130_22 : List SO := [
  ⟨none, some 112, .mv (.t 3)⟩,
  ⟨none, some 113, .mv (.t 0)⟩,
  ⟨none, some 114, .mv (.t 12)⟩,
  ⟨none, some 115, .idx 2 (.t 113) (.t 114)⟩,
  ⟨none, some 116, .load true 2 (.t 115)⟩,
  ⟨none, some 117, .mv (.t 0)⟩,
  ⟨none, some 118, .mv (.t 12)⟩,
  ⟨none, some 119, .bin .sub (.t 118) (.c (.int .i64 1))⟩,
  ⟨none, some 120, .idx 2 (.t 117) (.t 119)⟩,
  ⟨none, some 121, .load true 2 (.t 120)⟩,
  ⟨none, some 122, .callv false (.t 112) [.t 116, .t 121]⟩,
  ⟨none, some 123, .bin .lss (.t 122) (.c (.int .i64 0))⟩,
  ⟨none, some 124, .un .not (.t 123)⟩]
def r130_23 : List SO := [
  ⟨none, some 125, .mv (.t 0)⟩,
  ⟨none, some 126, .mv (.t 12)⟩,
  ⟨none, some 127, .mv (.t 0)⟩,
  ⟨none, some 128, .mv (.t 12)⟩,
  ⟨none, some 129, .bin .sub (.t 128) (.c (.int .i64 1))⟩,
  ⟨none, some 130, .mv (.t 0)⟩,
  ⟨none, some 131, .mv (.t 12)⟩,
  ⟨none, some 132, .bin .sub (.t 131) (.c (.int .i64 1))⟩,
  ⟨none, some 133, .idx 2 (.t 130) (.t 132)⟩,
  ⟨none, some 134, .load true 2 (.t 133)⟩,
  ⟨none, some 135, .mv (.t 0)⟩,
  ⟨none, some 136, .mv (.t 12)⟩,
  ⟨none, some 137, .idx 2 (.t 135) (.t 136)⟩,
  ⟨none, some 138, .load true 2 (.t 137)⟩,
  ⟨none, some 139, .idx 2 (.t 125) (.t 126)⟩,
  ⟨none, none, .store 2 (.t 139) (.t 134)⟩,
  ⟨none, some 140, .idx 2 (.t 127) (.t 129)⟩,
  ⟨none, none, .store 2 (.t 140) (.t 138)⟩]
def r130_21 : List SO := [
  ⟨none, some 110, .mv (.t 12)⟩,
  ⟨none, some 111, .bin .add (.t 110) (.c (.int .i64 1))⟩,
  ⟨none, some 12, .mv (.t 111)⟩]
def b130_3 : SC := .seq (.seq (.reg r130_20) (.cond (.t 109) (.skip) (.exit 6))) (.seq (.block 7 (.seq (.seq (.reg r130_22) (.cond (.t 124) (.exit 6) (.skip))) (.reg r130_23))) (.reg r130_21))
def r130_4 : List SO := [
  ⟨none, some 17, .mv (.t 10)⟩,
  ⟨none, some 18, .bin .add (.t 17) (.c (.int .i64 1))⟩,
  ⟨none, some 10, .mv (.t 18)⟩]
def b130_0 : SC := .seq (.seq (.reg r130_3) (.cond (.t 16) (.skip) (.exit 0))) (.seq (.block 1 (.seq (.block 2 (.loop b130_1)) (.seq (.seq (.reg r130_7) (.cond (.t 41) (.seq (.reg r130_8) (.ret)) (.skip))) (.seq (.seq (.reg r130_9) (.cond (.t 45) (.seq (.reg r130_10) (.ret)) (.skip))) (.seq (.reg r130_11) (.seq (.seq (.reg r130_12) (.cond (.t 65) (.seq (.reg r130_13) (.block 4 (.loop b130_2))) (.skip))) (.seq (.reg r130_18) (.cond (.t 104) (.seq (.reg r130_19) (.block 6 (.loop b130_3))) (.skip))))))))) (.reg r130_4))
def r130_24 : List SO := [
  ⟨none, some 8, .mv (.c (.bool false))⟩]
def s130 : SF := ⟨141, [.tmp 8], .seq (.reg r130_0) (.seq (.reg r130_1) (.seq (.seq (.reg r130_2) (.block 0 (.loop b130_0))) (.seq (.reg r130_24) (.ret))))⟩
theorem s130_ok : slimF Try.prog ⟨[94, 102, 103, 108, 109, 116, 119, 121, 125], []⟩ Try.f130 = some s130 := by kernel_rfl
end Go.Proofs.Ytngkckefanbhgaa

namespace Go.Proofs.Ytngkckefanbhgaa
open Go Go.Proofs
def r131_0 : List SO := [
  ⟨none, some 10, .mv (.c (.int .i64 0))⟩]
def r131_1 : List SO := [
  ⟨none, some 13, .mv (.t 0)⟩,
  ⟨none, some 14, .mv (.t 1)⟩,
  ⟨none, some 15, .mv (.t 0)⟩,
  ⟨none, some 16, .mv (.t 3)⟩,
  ⟨none, some 17, .mv (.t 0)⟩,
  ⟨none, some 18, .mv (.t 3)⟩,
  ⟨none, some 19, .idx 2 (.t 17) (.t 18)⟩,
  ⟨none, some 20, .load true 2 (.t 19)⟩,
  ⟨none, some 21, .mv (.t 0)⟩,
  ⟨none, some 22, .mv (.t 1)⟩,
  ⟨none, some 23, .idx 2 (.t 21) (.t 22)⟩,
  ⟨none, some 24, .load true 2 (.t 23)⟩,
  ⟨none, some 25, .idx 2 (.t 13) (.t 14)⟩,
  ⟨none, none, .store 2 (.t 25) (.t 20)⟩,
  ⟨none, some 26, .idx 2 (.t 15) (.t 16)⟩,
  ⟨none, none, .store 2 (.t 26) (.t 24)⟩]
def r131_2 : List SO := [
  ⟨none, some 27, .mv (.t 1)⟩,
  ⟨none, some 28, .bin .add (.t 27) (.c (.int .i64 1))⟩,
  ⟨none, some 29, .mv (.t 2)⟩,
  ⟨none, some 30, .bin .sub (.t 29) (.c (.int .i64 1))⟩,
  ⟨none, some 11, .mv (.t 28)⟩,
  ⟨none, some 12, .mv (.t 30)⟩]
def r131_3 : List SO := [
  ⟨none, some 31, .mv (.t 11)⟩,
  ⟨none, some 32, .mv (.t 12)⟩,
  ⟨none, some 33, .bin .leq (.t 31) (.t 32)⟩,
  ⟨none, some 34, .mv (.t 33)⟩,
  ⟨some (34, true), some 35, .mv (.t 4)⟩,
  ⟨some (34, true), some 36, .mv (.t 0)⟩,
  ⟨some (34, true), some 37, .mv (.t 1)⟩,
  ⟨some (34, true), some 38, .idx 2 (.t 36) (.t 37)⟩,
  ⟨some (34, true), some 39, .load true 2 (.t 38)⟩,
  ⟨some (34, true), some 40, .mv (.t 0)⟩,
  ⟨some (34, true), some 41, .mv (.t 11)⟩,
  ⟨some (34, true), some 42, .idx 2 (.t 40) (.t 41)⟩,
  ⟨some (34, true), some 43, .load true 2 (.t 42)⟩,
  ⟨some (34, true), some 44, .callv false (.t 35) [.t 39, .t 43]⟩,
  ⟨some (34, true), some 45, .bin .lss (.t 44) (.c (.int .i64 0))⟩,
  ⟨some (34, true), some 46, .un .not (.t 45)⟩,
  ⟨none, some 47, .pick (.t 34) (.t 46) (.c (.bool false))⟩]
def r131_4 : List SO := [
  ⟨none, some 48, .mv (.t 11)⟩,
  ⟨none, some 49, .bin .add (.t 48) (.c (.int .i64 1))⟩,
  ⟨none, some 11, .mv (.t 49)⟩]
def b131_1 : SC := .seq (.seq (.reg r131_3) (.cond (.t 47) (.skip) (.exit 2))) (.block 3 (.reg r131_4))
def r131_5 : List SO := [
  ⟨none, some 50, .mv (.t 11)⟩,
  ⟨none, some 51, .mv (.t 12)⟩,
  ⟨none, some 52, .bin .leq (.t 50) (.t 51)⟩,
  ⟨none, some 53, .mv (.t 52)⟩,
  ⟨some (53, true), some 54, .mv (.t 4)⟩,
  ⟨some (53, true), some 55, .mv (.t 0)⟩,
  ⟨some (53, true), some 56, .mv (.t 1)⟩,
  ⟨some (53, true), some 57, .idx 2 (.t 55) (.t 56)⟩,
  ⟨some (53, true), some 58, .load true 2 (.t 57)⟩,
  ⟨some (53, true), some 59, .mv (.t 0)⟩,
  ⟨some (53, true), some 60, .mv (.t 12)⟩,
  ⟨some (53, true), some 61, .idx 2 (.t 59) (.t 60)⟩,
  ⟨some (53, true), some 62, .load true 2 (.t 61)⟩,
  ⟨some (53, true), some 63, .callv false (.t 54) [.t 58, .t 62]⟩,
  ⟨some (53, true), some 64, .bin .lss (.t 63) (.c (.int .i64 0))⟩,
  ⟨none, some 65, .pick (.t 53) (.t 64) (.c (.bool false))⟩]
def r131_6 : List SO := [
  ⟨none, some 66, .mv (.t 12)⟩,
  ⟨none, some 67, .bin .sub (.t 66) (.c (.int .i64 1))⟩,
  ⟨none, some 12, .mv (.t 67)⟩]
def b131_2 : SC := .seq (.seq (.reg r131_5) (.cond (.t 65) (.skip) (.exit 4))) (.block 5 (.reg r131_6))
def r131_7 : List SO := [
  ⟨none, some 68, .mv (.t 11)⟩,
  ⟨none, some 69, .mv (.t 12)⟩,
  ⟨none, some 70, .bin .gtr (.t 68) (.t 69)⟩]
def r131_8 : List SO := [
  ⟨none, some 71, .mv (.t 0)⟩,
  ⟨none, some 72, .mv (.t 11)⟩,
  ⟨none, some 73, .mv (.t 0)⟩,
  ⟨none, some 74, .mv (.t 12)⟩,
  ⟨none, some 75, .mv (.t 0)⟩,
  ⟨none, some 76, .mv (.t 12)⟩,
  ⟨none, some 77, .idx 2 (.t 75) (.t 76)⟩,
  ⟨none, some 78, .load true 2 (.t 77)⟩,
  ⟨none, some 79, .mv (.t 0)⟩,
  ⟨none, some 80, .mv (.t 11)⟩,
  ⟨none, some 81, .idx 2 (.t 79) (.t 80)⟩,
  ⟨none, some 82, .load true 2 (.t 81)⟩,
  ⟨none, some 83, .idx 2 (.t 71) (.t 72)⟩,
  ⟨none, none, .store 2 (.t 83) (.t 78)⟩,
  ⟨none, some 84, .idx 2 (.t 73) (.t 74)⟩,
  ⟨none, none, .store 2 (.t 84) (.t 82)⟩]
def r131_9 : List SO := [
  ⟨none, some 85, .mv (.t 11)⟩,
  ⟨none, some 86, .bin .add (.t 85) (.c (.int .i64 1))⟩,
  ⟨none, some 11, .mv (.t 86)⟩]
def r131_10 : List SO := [
  ⟨none, some 87, .mv (.t 12)⟩,
  ⟨none, some 88, .bin .sub (.t 87) (.c (.int .i64 1))⟩,
  ⟨none, some 12, .mv (.t 88)⟩]
def b131_0 : SC := .block 1 (.seq (.block 2 (.loop b131_1)) (.seq (.block 4 (.loop b131_2)) (.seq (.seq (.reg r131_7) (.cond (.t 70) (.exit 0) (.skip))) (.seq (.reg r131_8) (.seq (.reg r131_9) (.reg r131_10))))))
def r131_11 : List SO := [
  ⟨none, some 89, .mv (.t 11)⟩,
  ⟨none, some 10, .mv (.t 89)⟩]
def s131 : SF := ⟨90, [.tmp 10], .seq (.reg r131_0) (.seq (.reg r131_1) (.seq (.reg r131_2) (.seq (.block 0 (.loop b131_0)) (.seq (.reg r131_11) (.ret)))))⟩
theorem s131_ok : slimF Try.prog ⟨[94, 102, 103, 108, 109, 116, 119, 121, 125], []⟩ Try.f131 = some s131 := by kernel_rfl
end Go.Proofs.Ytngkckefanbhgaa

namespace Go.Proofs.Ytngkckefanbhgaa
open Go Go.Proofs
def r132_0 : List SO := [
  ⟨none, some 10, .mv (.c (.int .i64 0))⟩,
  ⟨none, some 11, .mv (.c (.bool false))⟩]
def r132_1 : List SO := [
  ⟨none, some 14, .mv (.t 0)⟩,
  ⟨none, some 15, .mv (.t 1)⟩,
  ⟨none, some 16, .mv (.t 0)⟩,
  ⟨none, some 17, .mv (.t 3)⟩,
  ⟨none, some 18, .mv (.t 0)⟩,
  ⟨none, some 19, .mv (.t 3)⟩,
  ⟨none, some 20, .idx 2 (.t 18) (.t 19)⟩,
  ⟨none, some 21, .load true 2 (.t 20)⟩,
  ⟨none, some 22, .mv (.t 0)⟩,
  ⟨none, some 23, .mv (.t 1)⟩,
  ⟨none, some 24, .idx 2 (.t 22) (.t 23)⟩,
  ⟨none, some 25, .load true 2 (.t 24)⟩,
  ⟨none, some 26, .idx 2 (.t 14) (.t 15)⟩,
  ⟨none, none, .store 2 (.t 26) (.t 21)⟩,
  ⟨none, some 27, .idx 2 (.t 16) (.t 17)⟩,
  ⟨none, none, .store 2 (.t 27) (.t 25)⟩]
def r132_2 : List SO := [
  ⟨none, some 28, .mv (.t 1)⟩,
  ⟨none, some 29, .bin .add (.t 28) (.c (.int .i64 1))⟩,
  ⟨none, some 30, .mv (.t 2)⟩,
  ⟨none, some 31, .bin .sub (.t 30) (.c (.int .i64 1))⟩,
  ⟨none, some 12, .mv (.t 29)⟩,
  ⟨none, some 13, .mv (.t 31)⟩]
def r132_3 : List SO := [
  ⟨none, some 32, .mv (.t 12)⟩,
  ⟨none, some 33, .mv (.t 13)⟩,
  ⟨none, some 34, .bin .leq (.t 32) (.t 33)⟩,
  ⟨none, some 35, .mv (.t 34)⟩,
  ⟨some (35, true), some 36, .mv (.t 4)⟩,
  ⟨some (35, true), some 37, .mv (.t 0)⟩,
  ⟨some (35, true), some 38, .mv (.t 12)⟩,
  ⟨some (35, true), some 39, .idx 2 (.t 37) (.t 38)⟩,
  ⟨some (35, true), some 40, .load true 2 (.t 39)⟩,
  ⟨some (35, true), some 41, .mv (.t 0)⟩,
  ⟨some (35, true), some 42, .mv (.t 1)⟩,
  ⟨some (35, true), some 43, .idx 2 (.t 41) (.t 42)⟩,
  ⟨some (35, true), some 44, .load true 2 (.t 43)⟩,
  ⟨some (35, true), some 45, .callv false (.t 36) [.t 40, .t 44]⟩,
  ⟨some (35, true), some 46, .bin .lss (.t 45) (.c (.int .i64 0))⟩,
  ⟨none, some 47, .pick (.t 35) (.t 46) (.c (.bool false))⟩]
def r132_4 : List SO := [
  ⟨none, some 48, .mv (.t 12)⟩,
  ⟨none, some 49, .bin .add (.t 48) (.c (.int .i64 1))⟩,
  ⟨none, some 12, .mv (.t 49)⟩]
def b132_0 : SC := .seq (.seq (.reg r132_3) (.cond (.t 47) (.skip) (.exit 0))) (.block 1 (.reg r132_4))
def r132_5 : List SO := [
  ⟨none, some 50, .mv (.t 12)⟩,
  ⟨none, some 51, .mv (.t 13)⟩,
  ⟨none, some 52, .bin .leq (.t 50) (.t 51)⟩,
  ⟨none, some 53, .mv (.t 52)⟩,
  ⟨some (53, true), some 54, .mv (.t 4)⟩,
  ⟨some (53, true), some 55, .mv (.t 0)⟩,
  ⟨some (53, true), some 56, .mv (.t 13)⟩,
  ⟨some (53, true), some 57, .idx 2 (.t 55) (.t 56)⟩,
  ⟨some (53, true), some 58, .load true 2 (.t 57)⟩,
  ⟨some (53, true), some 59, .mv (.t 0)⟩,
  ⟨some (53, true), some 60, .mv (.t 1)⟩,
  ⟨some (53, true), some 61, .idx 2 (.t 59) (.t 60)⟩,
  ⟨some (53, true), some 62, .load true 2 (.t 61)⟩,
  ⟨some (53, true), some 63, .callv false (.t 54) [.t 58, .t 62]⟩,
  ⟨some (53, true), some 64, .bin .lss (.t 63) (.c (.int .i64 0))⟩,
  ⟨some (53, true), some 65, .un .not (.t 64)⟩,
  ⟨none, some 66, .pick (.t 53) (.t 65) (.c (.bool false))⟩]
def r132_6 : List SO := [
  ⟨none, some 67, .mv (.t 13)⟩,
  ⟨none, some 68, .bin .sub (.t 67) (.c (.int .i64 1))⟩,
  ⟨none, some 13, .mv (.t 68)⟩]
def b132_1 : SC := .seq (.seq (.reg r132_5) (.cond (.t 66) (.skip) (.exit 2))) (.block 3 (.reg r132_6))
def r132_7 : List SO := [
  ⟨none, some 69, .mv (.t 12)⟩,
  ⟨none, some 70, .mv (.t 13)⟩,
  ⟨none, some 71, .bin .gtr (.t 69) (.t 70)⟩]
def r132_8 : List SO := [
  ⟨none, some 72, .mv (.t 0)⟩,
  ⟨none, some 73, .mv (.t 13)⟩,
  ⟨none, some 74, .mv (.t 0)⟩,
  ⟨none, some 75, .mv (.t 1)⟩,
  ⟨none, some 76, .mv (.t 0)⟩,
  ⟨none, some 77, .mv (.t 1)⟩,
  ⟨none, some 78, .idx 2 (.t 76) (.t 77)⟩,
  ⟨none, some 79, .load true 2 (.t 78)⟩,
  ⟨none, some 80, .mv (.t 0)⟩,
  ⟨none, some 81, .mv (.t 13)⟩,
  ⟨none, some 82, .idx 2 (.t 80) (.t 81)⟩,
  ⟨none, some 83, .load true 2 (.t 82)⟩,
  ⟨none, some 84, .idx 2 (.t 72) (.t 73)⟩,
  ⟨none, none, .store 2 (.t 84) (.t 79)⟩,
  ⟨none, some 85, .idx 2 (.t 74) (.t 75)⟩,
  ⟨none, none, .store 2 (.t 85) (.t 83)⟩]
def r132_9 : List SO := [
  ⟨none, some 86, .mv (.t 13)⟩,
  ⟨none, some 10, .mv (.t 86)⟩,
  ⟨none, some 11, .mv (.c (.bool true))⟩]
def r132_10 : List SO := [
  ⟨none, some 87, .mv (.t 0)⟩,
  ⟨none, some 88, .mv (.t 12)⟩,
  ⟨none, some 89, .mv (.t 0)⟩,
  ⟨none, some 90, .mv (.t 13)⟩,
  ⟨none, some 91, .mv (.t 0)⟩,
  ⟨none, some 92, .mv (.t 13)⟩,
  ⟨none, some 93, .idx 2 (.t 91) (.t 92)⟩,
  ⟨none, some 94, .load true 2 (.t 93)⟩,
  ⟨none, some 95, .mv (.t 0)⟩,
  ⟨none, some 96, .mv (.t 12)⟩,
  ⟨none, some 97, .idx 2 (.t 95) (.t 96)⟩,
  ⟨none, some 98, .load true 2 (.t 97)⟩,
  ⟨none, some 99, .idx 2 (.t 87) (.t 88)⟩,
  ⟨none, none, .store 2 (.t 99) (.t 94)⟩,
  ⟨none, some 100, .idx 2 (.t 89) (.t 90)⟩,
  ⟨none, none, .store 2 (.t 100) (.t 98)⟩]
def r132_11 : List SO := [
  ⟨none, some 101, .mv (.t 12)⟩,
  ⟨none, some 102, .bin .add (.t 101) (.c (.int .i64 1))⟩,
  ⟨none, some 12, .mv (.t 102)⟩]
def r132_12 : List SO := [
  ⟨none, some 103, .mv (.t 13)⟩,
  ⟨none, some 104, .bin .sub (.t 103) (.c (.int .i64 1))⟩,
  ⟨none, some 13, .mv (.t 104)⟩]
def r132_13 : List SO := [
  ⟨none, some 105, .mv (.t 12)⟩,
  ⟨none, some 106, .mv (.t 13)⟩,
  ⟨none, some 107, .bin .leq (.t 105) (.t 106)⟩,
  ⟨none, some 108, .mv (.t 107)⟩,
  ⟨some (108, true), some 109, .mv (.t 4)⟩,
  ⟨some (108, true), some 110, .mv (.t 0)⟩,
  ⟨some (108, true), some 111, .mv (.t 12)⟩,
  ⟨some (108, true), some 112, .idx 2 (.t 110) (.t 111)⟩,
  ⟨some (108, true), some 113, .load true 2 (.t 112)⟩,
  ⟨some (108, true), some 114, .mv (.t 0)⟩,
  ⟨some (108, true), some 115, .mv (.t 1)⟩,
  ⟨some (108, true), some 116, .idx 2 (.t 114) (.t 115)⟩,
  ⟨some (108, true), some 117, .load true 2 (.t 116)⟩,
  ⟨some (108, true), some 118, .callv false (.t 109) [.t 113, .t 117]⟩,
  ⟨some (108, true), some 119, .bin .lss (.t 118) (.c (.int .i64 0))⟩,
  ⟨none, some 120, .pick (.t 108) (.t 119) (.c (.bool false))⟩]
def r132_14 : List SO := [
  ⟨none, some 121, .mv (.t 12)⟩,
  ⟨none, some 122, .bin .add (.t 121) (.c (.int .i64 1))⟩,
  ⟨none, some 12, .mv (.t 122)⟩]
def b132_3 : SC := .seq (.seq (.reg r132_13) (.cond (.t 120) (.skip) (.exit 6))) (.block 7 (.reg r132_14))
def r132_15 : List SO := [
  ⟨none, some 123, .mv (.t 12)⟩,
  ⟨none, some 124, .mv (.t 13)⟩,
  ⟨none, some 125, .bin .leq (.t 123) (.t 124)⟩,
  ⟨none, some 126, .mv (.t 125)⟩,
  ⟨some (126, true), some 127, .mv (.t 4)⟩,
  ⟨some (126, true), some 128, .mv (.t 0)⟩,
  ⟨some (126, true), some 129, .mv (.t 13)⟩,
  ⟨some (126, true), some 130, .idx 2 (.t 128) (.t 129)⟩,
  ⟨some (126, true), some 131, .load true 2 (.t 130)⟩,
  ⟨some (126, true), some 132, .mv (.t 0)⟩,
  ⟨some (126, true), some 133, .mv (.t 1)⟩,
  ⟨some (126, true), some 134, .idx 2 (.t 132) (.t 133)⟩,
  ⟨some (126, true), some 135, .load true 2 (.t 134)⟩,
  ⟨some (126, true), some 136, .callv false (.t 127) [.t 131, .t 135]⟩,
  ⟨some (126, true), some 137, .bin .lss (.t 136) (.c (.int .i64 0))⟩,
  ⟨some (126, true), some 138, .un .not (.t 137)⟩,
  ⟨none, some 139, .pick (.t 126) (.t 138) (.c (.bool false))⟩]
def r132_16 : List SO := [
  ⟨none, some 140, .mv (.t 13)⟩,
  ⟨none, some 141, .bin .sub (.t 140) (.c (.int .i64 1))⟩,
  ⟨none, some 13, .mv (.t 141)⟩]
def b132_4 : SC := .seq (.seq (.reg r132_15) (.cond (.t 139) (.skip) (.exit 8))) (.block 9 (.reg r132_16))
def r132_17 : List SO := [
  ⟨none, some 142, .mv (.t 12)⟩,
  ⟨none, some 143, .mv (.t 13)⟩,
  ⟨none, some 144, .bin .gtr (.t 142) (.t 143)⟩]
def r132_18 : List SO := [
  ⟨none, some 145, .mv (.t 0)⟩,
  ⟨none, some 146, .mv (.t 12)⟩,
  ⟨none, some 147, .mv (.t 0)⟩,
  ⟨none, some 148, .mv (.t 13)⟩,
  ⟨none, some 149, .mv (.t 0)⟩,
  ⟨none, some 150, .mv (.t 13)⟩,
  ⟨none, some 151, .idx 2 (.t 149) (.t 150)⟩,
  ⟨none, some 152, .load true 2 (.t 151)⟩,
  ⟨none, some 153, .mv (.t 0)⟩,
  ⟨none, some 154, .mv (.t 12)⟩,
  ⟨none, some 155, .idx 2 (.t 153) (.t 154)⟩,
  ⟨none, some 156, .load true 2 (.t 155)⟩,
  ⟨none, some 157, .idx 2 (.t 145) (.t 146)⟩,
  ⟨none, none, .store 2 (.t 157) (.t 152)⟩,
  ⟨none, some 158, .idx 2 (.t 147) (.t 148)⟩,
  ⟨none, none, .store 2 (.t 158) (.t 156)⟩]
def r132_19 : List SO := [
  ⟨none, some 159, .mv (.t 12)⟩,
  ⟨none, some 160, .bin .add (.t 159) (.c (.int .i64 1))⟩,
  ⟨none, some 12, .mv (.t 160)⟩]
def r132_20 : List SO := [
  ⟨none, some 161, .mv (.t 13)⟩,
  ⟨none, some 162, .bin .sub (.t 161) (.c (.int .i64 1))⟩,
  ⟨none, some 13, .mv (.t 162)⟩]
def b132_2 : SC := .block 5 (.seq (.block 6 (.loop b132_3)) (.seq (.block 8 (.loop b132_4)) (.seq (.seq (.reg r132_17) (.cond (.t 144) (.exit 4) (.skip))) (.seq (.reg r132_18) (.seq (.reg r132_19) (.reg r132_20))))))
def r132_21 : List SO := [
  ⟨none, some 163, .mv (.t 0)⟩,
  ⟨none, some 164, .mv (.t 13)⟩,
  ⟨none, some 165, .mv (.t 0)⟩,
  ⟨none, some 166, .mv (.t 1)⟩,
  ⟨none, some 167, .mv (.t 0)⟩,
  ⟨none, some 168, .mv (.t 1)⟩,
  ⟨none, some 169, .idx 2 (.t 167) (.t 168)⟩,
  ⟨none, some 170, .load true 2 (.t 169)⟩,
  ⟨none, some 171, .mv (.t 0)⟩,
  ⟨none, some 172, .mv (.t 13)⟩,
  ⟨none, some 173, .idx 2 (.t 171) (.t 172)⟩,
  ⟨none, some 174, .load true 2 (.t 173)⟩,
  ⟨none, some 175, .idx 2 (.t 163) (.t 164)⟩,
  ⟨none, none, .store 2 (.t 175) (.t 170)⟩,
  ⟨none, some 176, .idx 2 (.t 165) (.t 166)⟩,
  ⟨none, none, .store 2 (.t 176) (.t 174)⟩]
def r132_22 : List SO := [
  ⟨none, some 177, .mv (.t 13)⟩,
  ⟨none, some 10, .mv (.t 177)⟩,
  ⟨none, some 11, .mv (.c (.bool false))⟩]
def s132 : SF := ⟨178, [.tmp 10, .tmp 11], .seq (.reg r132_0) (.seq (.reg r132_1) (.seq (.reg r132_2) (.seq (.block 0 (.loop b132_0)) (.seq (.block 2 (.loop b132_1)) (.seq (.seq (.reg r132_7) (.cond (.t 71) (.seq (.reg r132_8) (.seq (.reg r132_9) (.ret))) (.skip))) (.seq (.reg r132_10) (.seq (.reg r132_11) (.seq (.reg r132_12) (.seq (.block 4 (.loop b132_2)) (.seq (.reg r132_21) (.seq (.reg r132_22) (.ret))))))))))))⟩
theorem s132_ok : slimF Try.prog ⟨[94, 102, 103, 108, 109, 116, 119, 121, 125], []⟩ Try.f132 = some s132 := by kernel_rfl
end Go.Proofs.Ytngkckefanbhgaa

namespace Go.Proofs.Ytngkckefanbhgaa
open Go Go.Proofs
def r133_0 : List SO := [
  ⟨none, some 2, .mv (.c (.int .i64 0))⟩]
def r133_1 : List SO := [
  ⟨none, some 3, .mv (.t 0)⟩,
  ⟨none, some 4, .bin .geq (.t 3) (.c (.int .u32 65536))⟩]
def r133_2 : List SO := [
  ⟨none, some 5, .mv (.t 0)⟩,
  ⟨none, some 6, .bin .shr (.t 5) (.c (.int .u64 16))⟩,
  ⟨none, some 0, .mv (.t 6)⟩]
def r133_3 : List SO := [
  ⟨none, some 2, .mv (.c (.int .i64 16))⟩]
def r133_4 : List SO := [
  ⟨none, some 7, .mv (.t 0)⟩,
  ⟨none, some 8, .bin .geq (.t 7) (.c (.int .u32 256))⟩]
def r133_5 : List SO := [
  ⟨none, some 9, .mv (.t 0)⟩,
  ⟨none, some 10, .bin .shr (.t 9) (.c (.int .u64 8))⟩,
  ⟨none, some 0, .mv (.t 10)⟩]
def r133_6 : List SO := [
  ⟨none, some 11, .mv (.t 2)⟩,
  ⟨none, some 12, .bin .add (.t 11) (.c (.int .i64 8))⟩,
  ⟨none, some 2, .mv (.t 12)⟩]
def r133_7 : List SO := [
  ⟨none, some 13, .mv (.t 2)⟩,
  ⟨none, some 14, .mv (.t 0)⟩,
  ⟨none, some 15, .conv .u8 (.t 14)⟩,
  ⟨none, some 16, .sidx (.c (.str [0, 1, 2, 2, 3, 3, 3, 3, 4, 4, 4, 4, 4, 4, 4, 4, 5, 5, 5, 5, 5, 5, 5, 5, 5, 5, 5, 5, 5, 5, 5, 5, 6, 6, 6, 6, 6, 6, 6, 6, 6, 6, 6, 6, 6, 6, 6, 6, 6, 6, 6, 6, 6, 6, 6, 6, 6, 6, 6, 6, 6, 6, 6, 6, 7, 7, 7, 7, 7, 7, 7, 7, 7, 7, 7, 7, 7, 7, 7, 7, 7, 7, 7, 7, 7, 7, 7, 7, 7, 7, 7, 7, 7, 7, 7, 7, 7, 7, 7, 7, 7, 7, 7, 7, 7, 7, 7, 7, 7, 7, 7, 7, 7, 7, 7, 7, 7, 7, 7, 7, 7, 7, 7, 7, 7, 7, 7, 7, 8, 8, 8, 8, 8, 8, 8, 8, 8, 8, 8, 8, 8, 8, 8, 8, 8, 8, 8, 8, 8, 8, 8, 8, 8, 8, 8, 8, 8, 8, 8, 8, 8, 8, 8, 8, 8, 8, 8, 8, 8, 8, 8, 8, 8, 8, 8, 8, 8, 8, 8, 8, 8, 8, 8, 8, 8, 8, 8, 8, 8, 8, 8, 8, 8, 8, 8, 8, 8, 8, 8, 8, 8, 8, 8, 8, 8, 8, 8, 8, 8, 8, 8, 8, 8, 8, 8, 8, 8, 8, 8, 8, 8, 8, 8, 8, 8, 8, 8, 8, 8, 8, 8, 8, 8, 8, 8, 8, 8, 8, 8, 8, 8, 8, 8, 8, 8, 8, 8, 8, 8, 8, 8, 8, 8, 8, 8, 8])) (.t 15)⟩,
  ⟨none, some 17, .conv .i64 (.t 16)⟩,
  ⟨none, some 18, .bin .add (.t 13) (.t 17)⟩,
  ⟨none, some 2, .mv (.t 18)⟩]
def s133 : SF := ⟨19, [.tmp 2], .seq (.reg r133_0) (.seq (.seq (.reg r133_1) (.cond (.t 4) (.seq (.reg r133_2) (.reg r133_3)) (.skip))) (.seq (.seq (.reg r133_4) (.cond (.t 8) (.seq (.reg r133_5) (.reg r133_6)) (.skip))) (.seq (.reg r133_7) (.ret))))⟩
theorem s133_ok : slimF Try.prog ⟨[94, 102, 103, 108, 109, 116, 119, 121, 125], []⟩ Try.f133 = some s133 := by kernel_rfl
end Go.Proofs.Ytngkckefanbhgaa

namespace Go.Proofs.Ytngkckefanbhgaa
open Go Go.Proofs
def r134_0 : List SO := [
  ⟨none, some 2, .mv (.c (.int .i64 0))⟩]
def r134_1 : List SO := [
  ⟨none, some 3, .mv (.t 0)⟩,
  ⟨none, some 4, .bin .geq (.t 3) (.c (.int .u64 4294967296))⟩]
def r134_2 : List SO := [
  ⟨none, some 5, .mv (.t 0)⟩,
  ⟨none, some 6, .bin .shr (.t 5) (.c (.int .u64 32))⟩,
  ⟨none, some 0, .mv (.t 6)⟩]
def r134_3 : List SO := [
  ⟨none, some 2, .mv (.c (.int .i64 32))⟩]
def r134_4 : List SO := [
  ⟨none, some 7, .mv (.t 0)⟩,
  ⟨none, some 8, .bin .geq (.t 7) (.c (.int .u64 65536))⟩]
def r134_5 : List SO := [
  ⟨none, some 9, .mv (.t 0)⟩,
  ⟨none, some 10, .bin .shr (.t 9) (.c (.int .u64 16))⟩,
  ⟨none, some 0, .mv (.t 10)⟩]
def r134_6 : List SO := [
  ⟨none, some 11, .mv (.t 2)⟩,
  ⟨none, some 12, .bin .add (.t 11) (.c (.int .i64 16))⟩,
  ⟨none, some 2, .mv (.t 12)⟩]
def r134_7 : List SO := [
  ⟨none, some 13, .mv (.t 0)⟩,
  ⟨none, some 14, .bin .geq (.t 13) (.c (.int .u64 256))⟩]
def r134_8 : List SO := [
  ⟨none, some 15, .mv (.t 0)⟩,
  ⟨none, some 16, .bin .shr (.t 15) (.c (.int .u64 8))⟩,
  ⟨none, some 0, .mv (.t 16)⟩]
def r134_9 : List SO := [
  ⟨none, some 17, .mv (.t 2)⟩,
  ⟨none, some 18, .bin .add (.t 17) (.c (.int .i64 8))⟩,
  ⟨none, some 2, .mv (.t 18)⟩]
def r134_10 : List SO := [
  ⟨none, some 19, .mv (.t 2)⟩,
  ⟨none, some 20, .mv (.t 0)⟩,
  ⟨none, some 21, .conv .u8 (.t 20)⟩,
  ⟨none, some 22, .sidx (.c (.str [0, 1, 2, 2, 3, 3, 3, 3, 4, 4, 4, 4, 4, 4, 4, 4, 5, 5, 5, 5, 5, 5, 5, 5, 5, 5, 5, 5, 5, 5, 5, 5, 6, 6, 6, 6, 6, 6, 6, 6, 6, 6, 6, 6, 6, 6, 6, 6, 6, 6, 6, 6, 6, 6, 6, 6, 6, 6, 6, 6, 6, 6, 6, 6, 7, 7, 7, 7, 7, 7, 7, 7, 7, 7, 7, 7, 7, 7, 7, 7, 7, 7, 7, 7, 7, 7, 7, 7, 7, 7, 7, 7, 7, 7, 7, 7, 7, 7, 7, 7, 7, 7, 7, 7, 7, 7, 7, 7, 7, 7, 7, 7, 7, 7, 7, 7, 7, 7, 7, 7, 7, 7, 7, 7, 7, 7, 7, 7, 8, 8, 8, 8, 8, 8, 8, 8, 8, 8, 8, 8, 8, 8, 8, 8, 8, 8, 8, 8, 8, 8, 8, 8, 8, 8, 8, 8, 8, 8, 8, 8, 8, 8, 8, 8, 8, 8, 8, 8, 8, 8, 8, 8, 8, 8, 8, 8, 8, 8, 8, 8, 8, 8, 8, 8, 8, 8, 8, 8, 8, 8, 8, 8, 8, 8, 8, 8, 8, 8, 8, 8, 8, 8, 8, 8, 8, 8, 8, 8, 8, 8, 8, 8, 8, 8, 8, 8, 8, 8, 8, 8, 8, 8, 8, 8, 8, 8, 8, 8, 8, 8, 8, 8, 8, 8, 8, 8, 8, 8, 8, 8, 8, 8, 8, 8, 8, 8, 8, 8, 8, 8, 8, 8, 8, 8, 8, 8])) (.t 21)⟩,
  ⟨none, some 23, .conv .i64 (.t 22)⟩,
  ⟨none, some 24, .bin .add (.t 19) (.t 23)⟩,
  ⟨none, some 2, .mv (.t 24)⟩]
def s134 : SF := ⟨25, [.tmp 2], .seq (.reg r134_0) (.seq (.seq (.reg r134_1) (.cond (.t 4) (.seq (.reg r134_2) (.reg r134_3)) (.skip))) (.seq (.seq (.reg r134_4) (.cond (.t 8) (.seq (.reg r134_5) (.reg r134_6)) (.skip))) (.seq (.seq (.reg r134_7) (.cond (.t 14) (.seq (.reg r134_8) (.reg r134_9)) (.skip))) (.seq (.reg r134_10) (.ret)))))⟩
theorem s134_ok : slimF Try.prog ⟨[94, 102, 103, 108, 109, 116, 119, 121, 125], []⟩ Try.f134 = some s134 := by kernel_rfl
end Go.Proofs.Ytngkckefanbhgaa

namespace Go.Proofs.Ytngkckefanbhgaa
open Go Go.Proofs
def r136_0 : List SO := [
  ⟨none, some 12, .mv (.t 1)⟩,
  ⟨none, some 10, .mv (.t 12)⟩]
def r136_1 : List SO := [
  ⟨none, some 13, .mv (.t 10)⟩,
  ⟨none, some 14, .bin .mul (.c (.int .i64 2)) (.t 13)⟩,
  ⟨none, some 15, .bin .add (.t 14) (.c (.int .i64 1))⟩,
  ⟨none, some 11, .mv (.t 15)⟩]
def r136_2 : List SO := [
  ⟨none, some 16, .mv (.t 11)⟩,
  ⟨none, some 17, .mv (.t 2)⟩,
  ⟨none, some 18, .bin .geq (.t 16) (.t 17)⟩]
def r136_3 : List SO := [
  ⟨none, some 19, .mv (.t 11)⟩,
  ⟨none, some 20, .bin .add (.t 19) (.c (.int .i64 1))⟩,
  ⟨none, some 21, .mv (.t 2)⟩,
  ⟨none, some 22, .bin .lss (.t 20) (.t 21)⟩,
  ⟨none, some 23, .mv (.t 22)⟩,
  ⟨some (23, true), some 24, .mv (.t 4)⟩,
  ⟨some (23, true), some 25, .mv (.t 0)⟩,
  ⟨some (23, true), some 26, .mv (.t 3)⟩,
  ⟨some (23, true), some 27, .mv (.t 11)⟩,
  ⟨some (23, true), some 28, .bin .add (.t 26) (.t 27)⟩,
  ⟨some (23, true), some 29, .idx 2 (.t 25) (.t 28)⟩,
  ⟨some (23, true), some 30, .load true 2 (.t 29)⟩,
  ⟨some (23, true), some 31, .mv (.t 0)⟩,
  ⟨some (23, true), some 32, .mv (.t 3)⟩,
  ⟨some (23, true), some 33, .mv (.t 11)⟩,
  ⟨some (23, true), some 34, .bin .add (.t 32) (.t 33)⟩,
  ⟨some (23, true), some 35, .bin .add (.t 34) (.c (.int .i64 1))⟩,
  ⟨some (23, true), some 36, .idx 2 (.t 31) (.t 35)⟩,
  ⟨some (23, true), some 37, .load true 2 (.t 36)⟩,
  ⟨some (23, true), some 38, .callv false (.t 24) [.t 30, .t 37]⟩,
  ⟨some (23, true), some 39, .bin .lss (.t 38) (.c (.int .i64 0))⟩,
  ⟨none, some 40, .pick (.t 23) (.t 39) (.c (.bool false))⟩]
def r136_4 : List SO := [
  ⟨none, some 41, .mv (.t 11)⟩,
  ⟨none, some 42, .bin .add (.t 41) (.c (.int .i64 1))⟩,
  ⟨none, some 11, .mv (.t 42)⟩]
def r136_5 : List SO := [
  ⟨none, some 43, .mv (.t 4)⟩,
  ⟨none, some 44, .mv (.t 0)⟩,
  ⟨none, some 45, .mv (.t 3)⟩,
  ⟨none, some 46, .mv (.t 10)⟩,
  ⟨none, some 47, .bin .add (.t 45) (.t 46)⟩,
  ⟨none, some 48, .idx 2 (.t 44) (.t 47)⟩,
  ⟨none, some 49, .load true 2 (.t 48)⟩,
  ⟨none, some 50, .mv (.t 0)⟩,
  ⟨none, some 51, .mv (.t 3)⟩,
  ⟨none, some 52, .mv (.t 11)⟩,
  ⟨none, some 53, .bin .add (.t 51) (.t 52)⟩,
  ⟨none, some 54, .idx 2 (.t 50) (.t 53)⟩,
  ⟨none, some 55, .load true 2 (.t 54)⟩,
  ⟨none, some 56, .callv false (.t 43) [.t 49, .t 55]⟩,
  ⟨none, some 57, .bin .lss (.t 56) (.c (.int .i64 0))⟩,
  ⟨none, some 58, .un .not (.t 57)⟩]
def r136_6 : List SO := [
  ⟨none, some 59, .mv (.t 0)⟩,
  ⟨none, some 60, .mv (.t 3)⟩,
  ⟨none, some 61, .mv (.t 10)⟩,
  ⟨none, some 62, .bin .add (.t 60) (.t 61)⟩,
  ⟨none, some 63, .mv (.t 0)⟩,
  ⟨none, some 64, .mv (.t 3)⟩,
  ⟨none, some 65, .mv (.t 11)⟩,
  ⟨none, some 66, .bin .add (.t 64) (.t 65)⟩,
  ⟨none, some 67, .mv (.t 0)⟩,
  ⟨none, some 68, .mv (.t 3)⟩,
  ⟨none, some 69, .mv (.t 11)⟩,
  ⟨none, some 70, .bin .add (.t 68) (.t 69)⟩,
  ⟨none, some 71, .idx 2 (.t 67) (.t 70)⟩,
  ⟨none, some 72, .load true 2 (.t 71)⟩,
  ⟨none, some 73, .mv (.t 0)⟩,
  ⟨none, some 74, .mv (.t 3)⟩,
  ⟨none, some 75, .mv (.t 10)⟩,
  ⟨none, some 76, .bin .add (.t 74) (.t 75)⟩,
  ⟨none, some 77, .idx 2 (.t 73) (.t 76)⟩,
  ⟨none, some 78, .load true 2 (.t 77)⟩,
  ⟨none, some 79, .idx 2 (.t 59) (.t 62)⟩,
  ⟨none, none, .store 2 (.t 79) (.t 72)⟩,
  ⟨none, some 80, .idx 2 (.t 63) (.t 66)⟩,
  ⟨none, none, .store 2 (.t 80) (.t 78)⟩]
def r136_7 : List SO := [
  ⟨none, some 81, .mv (.t 11)⟩,
  ⟨none, some 10, .mv (.t 81)⟩]
def b136_0 : SC := .block 1 (.seq (.reg r136_1) (.seq (.seq (.reg r136_2) (.cond (.t 18) (.exit 0) (.skip))) (.seq (.seq (.reg r136_3) (.cond (.t 40) (.reg r136_4) (.skip))) (.seq (.seq (.reg r136_5) (.cond (.t 58) (.ret) (.skip))) (.seq (.reg r136_6) (.reg r136_7))))))
def s136 : SF := ⟨82, [], .seq (.reg r136_0) (.block 0 (.loop b136_0))⟩
theorem s136_ok : slimF Try.prog ⟨[94, 102, 103, 108, 109, 116, 119, 121, 125], []⟩ Try.f136 = some s136 := by kernel_rfl
end Go.Proofs.Ytngkckefanbhgaa

namespace Go.Proofs.Ytngkckefanbhgaa
open Go Go.Proofs
def r137_0 : List SO := [
  ⟨none, some 2, .mv (.c (.int .u64 0))⟩]
def r137_1 : List SO := [
  ⟨none, some 3, .mv (.t 0)⟩,
  ⟨none, some 4, .conv .u64 (.t 3)⟩,
  ⟨none, some 5, .call false 122 [.t 4]⟩,
  ⟨none, some 6, .bin .shl (.c (.int .u64 1)) (.t 5)⟩,
  ⟨none, some 2, .mv (.t 6)⟩]
def s137 : SF := ⟨7, [.tmp 2], .seq (.reg r137_0) (.seq (.reg r137_1) (.ret))⟩
theorem s137_ok : slimF Try.prog ⟨[94, 102, 103, 108, 109, 116, 119, 121, 125], []⟩ Try.f137 = some s137 := by kernel_rfl
end Go.Proofs.Ytngkckefanbhgaa

namespace Go.Proofs.Ytngkckefanbhgaa
open Go Go.Proofs
def r138_0 : List SO := [
  ⟨none, some 2, .mv (.c (.int .u64 0))⟩]
def r138_1 : List SO := [
  ⟨none, some 3, .mv (.t 0)⟩,
  ⟨none, some 4, .nilck (.t 3)⟩,
  ⟨none, some 5, .load false 1 (.t 4)⟩,
  ⟨none, some 6, .mv (.t 0)⟩,
  ⟨none, some 7, .nilck (.t 6)⟩,
  ⟨none, some 8, .load false 1 (.t 7)⟩,
  ⟨none, some 9, .bin .shl (.t 8) (.c (.int .u64 13))⟩,
  ⟨none, some 10, .bin .xor (.t 5) (.t 9)⟩,
  ⟨none, some 11, .nilck (.t 3)⟩,
  ⟨none, none, .store 1 (.t 11) (.t 10)⟩]
def r138_2 : List SO := [
  ⟨none, some 12, .mv (.t 0)⟩,
  ⟨none, some 13, .nilck (.t 12)⟩,
  ⟨none, some 14, .load false 1 (.t 13)⟩,
  ⟨none, some 15, .mv (.t 0)⟩,
  ⟨none, some 16, .nilck (.t 15)⟩,
  ⟨none, some 17, .load false 1 (.t 16)⟩,
  ⟨none, some 18, .bin .shr (.t 17) (.c (.int .u64 7))⟩,
  ⟨none, some 19, .bin .xor (.t 14) (.t 18)⟩,
  ⟨none, some 20, .nilck (.t 12)⟩,
  ⟨none, none, .store 1 (.t 20) (.t 19)⟩]
def r138_3 : List SO := [
  ⟨none, some 21, .mv (.t 0)⟩,
  ⟨none, some 22, .nilck (.t 21)⟩,
  ⟨none, some 23, .load false 1 (.t 22)⟩,
  ⟨none, some 24, .mv (.t 0)⟩,
  ⟨none, some 25, .nilck (.t 24)⟩,
  ⟨none, some 26, .load false 1 (.t 25)⟩,
  ⟨none, some 27, .bin .shl (.t 26) (.c (.int .u64 17))⟩,
  ⟨none, some 28, .bin .xor (.t 23) (.t 27)⟩,
  ⟨none, some 29, .nilck (.t 21)⟩,
  ⟨none, none, .store 1 (.t 29) (.t 28)⟩]
def r138_4 : List SO := [
  ⟨none, some 30, .mv (.t 0)⟩,
  ⟨none, some 31, .nilck (.t 30)⟩,
  ⟨none, some 32, .load false 1 (.t 31)⟩,
  ⟨none, some 2, .mv (.t 32)⟩]
def s138 : SF := ⟨33, [.tmp 2], .seq (.reg r138_0) (.seq (.reg r138_1) (.seq (.reg r138_2) (.seq (.reg r138_3) (.seq (.reg r138_4) (.ret)))))⟩
theorem s138_ok : slimF Try.prog ⟨[94, 102, 103, 108, 109, 116, 119, 121, 125], []⟩ Try.f138 = some s138 := by kernel_rfl
end Go.Proofs.Ytngkckefanbhgaa

namespace Go.Proofs.Ytngkckefanbhgaa
open Go Go.Proofs
def r139_0 : List SO := [
  ⟨none, some 8, .mv (.c (.int .i64 0))⟩]
def r139_1 : List SO := [
  ⟨none, some 9, .mv (.t 0)⟩,
  ⟨none, some 10, .mv (.t 1)⟩,
  ⟨none, some 11, .bin .sub (.t 10) (.c (.int .i64 1))⟩,
  ⟨none, some 12, .mv (.t 1)⟩,
  ⟨none, some 13, .mv (.t 1)⟩,
  ⟨none, some 14, .bin .add (.t 13) (.c (.int .i64 1))⟩,
  ⟨none, some 15, .mv (.t 2)⟩,
  ⟨none, some 16, .mv (.t 3)⟩,
  ⟨none, some 17, .call false 140 [.t 9, .t 11, .t 12, .t 14, .t 15, .t 16]⟩,
  ⟨none, some 8, .mv (.t 17)⟩]
def s139 : SF := ⟨18, [.tmp 8], .seq (.reg r139_0) (.seq (.reg r139_1) (.ret))⟩
theorem s139_ok : slimF Try.prog ⟨[94, 102, 103, 108, 109, 116, 119, 121, 125], []⟩ Try.f139 = some s139 := by kernel_rfl
end Go.Proofs.Ytngkckefanbhgaa

namespace Go.Proofs.Ytngkckefanbhgaa
open Go Go.Proofs
def r140_0 : List SO := [
  ⟨none, some 12, .mv (.c (.int .i64 0))⟩]
def r140_1 : List SO := [
  ⟨none, some 14, .mv (.t 0)⟩,
  ⟨none, some 15, .mv (.t 1)⟩,
  ⟨none, some 16, .mv (.t 2)⟩,
  ⟨none, some 17, .mv (.t 4)⟩,
  ⟨none, some 18, .mv (.t 5)⟩,
  ⟨none, some 19, .call false 142 [.t 14, .t 15, .t 16, .t 17, .t 18]⟩,
  ⟨none, some 13, .mv (.t 19)⟩,
  ⟨none, some 20, .ext (.t 13) 0⟩,
  ⟨none, some 21, .ext (.t 13) 1⟩,
  ⟨none, some 1, .mv (.t 20)⟩,
  ⟨none, some 2, .mv (.t 21)⟩]
def r140_2 : List SO := [
  ⟨none, some 23, .mv (.t 0)⟩,
  ⟨none, some 24, .mv (.t 2)⟩,
  ⟨none, some 25, .mv (.t 3)⟩,
  ⟨none, some 26, .mv (.t 4)⟩,
  ⟨none, some 27, .mv (.t 5)⟩,
  ⟨none, some 28, .call false 142 [.t 23, .t 24, .t 25, .t 26, .t 27]⟩,
  ⟨none, some 22, .mv (.t 28)⟩,
  ⟨none, some 29, .ext (.t 22) 0⟩,
  ⟨none, some 30, .ext (.t 22) 1⟩,
  ⟨none, some 2, .mv (.t 29)⟩,
  ⟨none, some 3, .mv (.t 30)⟩]
def r140_3 : List SO := [
  ⟨none, some 32, .mv (.t 0)⟩,
  ⟨none, some 33, .mv (.t 1)⟩,
  ⟨none, some 34, .mv (.t 2)⟩,
  ⟨none, some 35, .mv (.t 4)⟩,
  ⟨none, some 36, .mv (.t 5)⟩,
  ⟨none, some 37, .call false 142 [.t 32, .t 33, .t 34, .t 35, .t 36]⟩,
  ⟨none, some 31, .mv (.t 37)⟩,
  ⟨none, some 38, .ext (.t 31) 0⟩,
  ⟨none, some 39, .ext (.t 31) 1⟩,
  ⟨none, some 1, .mv (.t 38)⟩,
  ⟨none, some 2, .mv (.t 39)⟩]
def r140_4 : List SO := [
  ⟨none, some 40, .mv (.t 2)⟩,
  ⟨none, some 12, .mv (.t 40)⟩]
def s140 : SF := ⟨41, [.tmp 12], .seq (.reg r140_0) (.seq (.reg r140_1) (.seq (.reg r140_2) (.seq (.reg r140_3) (.seq (.reg r140_4) (.ret)))))⟩
theorem s140_ok : slimF Try.prog ⟨[94, 102, 103, 108, 109, 116, 119, 121, 125], []⟩ Try.f140 = some s140 := by kernel_rfl
end Go.Proofs.Ytngkckefanbhgaa

namespace Go.Proofs.Ytngkckefanbhgaa
open Go Go.Proofs
def r142_0 : List SO := [
  ⟨none, some 10, .mv (.c (.int .i64 0))⟩,
  ⟨none, some 11, .mv (.c (.int .i64 0))⟩]
def r142_1 : List SO := [
  ⟨none, some 12, .mv (.t 4)⟩,
  ⟨none, some 13, .mv (.t 0)⟩,
  ⟨none, some 14, .mv (.t 2)⟩,
  ⟨none, some 15, .idx 2 (.t 13) (.t 14)⟩,
  ⟨none, some 16, .load true 2 (.t 15)⟩,
  ⟨none, some 17, .mv (.t 0)⟩,
  ⟨none, some 18, .mv (.t 1)⟩,
  ⟨none, some 19, .idx 2 (.t 17) (.t 18)⟩,
  ⟨none, some 20, .load true 2 (.t 19)⟩,
  ⟨none, some 21, .callv false (.t 12) [.t 16, .t 20]⟩,
  ⟨none, some 22, .bin .lss (.t 21) (.c (.int .i64 0))⟩]
def r142_2 : List SO := [
  ⟨none, some 23, .mv (.t 3)⟩,
  ⟨none, some 24, .nilck (.t 23)⟩,
  ⟨none, some 25, .load false 1 (.t 24)⟩,
  ⟨none, some 26, .bin .add (.t 25) (.c (.int .i64 1))⟩,
  ⟨none, some 27, .nilck (.t 23)⟩,
  ⟨none, none, .store 1 (.t 27) (.t 26)⟩]
def r142_3 : List SO := [
  ⟨none, some 28, .mv (.t 2)⟩,
  ⟨none, some 29, .mv (.t 1)⟩,
  ⟨none, some 10, .mv (.t 28)⟩,
  ⟨none, some 11, .mv (.t 29)⟩]
def r142_4 : List SO := [
  ⟨none, some 30, .mv (.t 1)⟩,
  ⟨none, some 31, .mv (.t 2)⟩,
  ⟨none, some 10, .mv (.t 30)⟩,
  ⟨none, some 11, .mv (.t 31)⟩]
def s142 : SF := ⟨32, [.tmp 10, .tmp 11], .seq (.reg r142_0) (.seq (.seq (.reg r142_1) (.cond (.t 22) (.seq (.reg r142_2) (.seq (.reg r142_3) (.ret))) (.skip))) (.seq (.reg r142_4) (.ret)))⟩
theorem s142_ok : slimF Try.prog ⟨[94, 102, 103, 108, 109, 116, 119, 121, 125], []⟩ Try.f142 = some s142 := by kernel_rfl
end Go.Proofs.Ytngkckefanbhgaa

namespace Go.Proofs.Ytngkckefanbhgaa
open Go Go.Proofs
def tab39 : List (Nat × XF) := [(25, ⟨s25, []⟩), (34, ⟨s34, []⟩), (36, ⟨s36, []⟩), (39, ⟨s39, []⟩), (41, ⟨s41, []⟩), (43, ⟨s43, []⟩), (45, ⟨s45, []⟩), (50, ⟨s50, []⟩), (63, ⟨s63, []⟩), (66, ⟨s66, []⟩), (69, ⟨s69, []⟩), (73, ⟨s73, []⟩), (74, ⟨s74, []⟩), (75, ⟨s75, []⟩), (76, ⟨s76, []⟩), (77, ⟨s77, []⟩), (78, ⟨s78, []⟩), (79, ⟨s79, []⟩), (80, ⟨s80, []⟩), (81, ⟨s81, []⟩), (82, ⟨s82, []⟩), (83, ⟨s83, []⟩), (84, ⟨s84, []⟩), (99, ⟨s99, []⟩), (100, ⟨s100, []⟩), (101, ⟨s101, []⟩), (102, ⟨s102, []⟩), (103, ⟨s103, []⟩), (104, ⟨s104, []⟩), (105, ⟨s105, []⟩), (106, ⟨s106, []⟩), (107, ⟨s107, []⟩), (108, ⟨s108, []⟩), (109, ⟨s109, []⟩), (110, ⟨s110, []⟩), (111, ⟨s111, []⟩), (114, ⟨s114, []⟩), (115, ⟨s115, []⟩), (116, ⟨s116, []⟩), (117, ⟨s117, []⟩), (118, ⟨s118, []⟩), (120, ⟨s120, []⟩), (121, ⟨s121, []⟩), (122, ⟨s122, []⟩), (125, ⟨s125, []⟩), (126, ⟨s126, []⟩), (127, ⟨s127, []⟩), (128, ⟨s128, []⟩), (129, ⟨s129, []⟩), (130, ⟨s130, []⟩), (131, ⟨s131, []⟩), (132, ⟨s132, []⟩), (133, ⟨s133, []⟩), (134, ⟨s134, []⟩), (136, ⟨s136, []⟩), (137, ⟨s137, []⟩), (138, ⟨s138, []⟩), (139, ⟨s139, []⟩), (140, ⟨s140, []⟩), (142, ⟨s142, []⟩)]
theorem tab39_ok : ∀ p ∈ tab39, Good1 Try.prog p := by
  intro p hp
  simp only [tab39, List.mem_cons, List.not_mem_nil, or_false] at hp
  rcases hp with rfl | rfl | rfl | rfl | rfl | rfl | rfl | rfl | rfl | rfl | rfl | rfl | rfl | rfl | rfl | rfl | rfl | rfl | rfl | rfl | rfl | rfl | rfl | rfl | rfl | rfl | rfl | rfl | rfl | rfl | rfl | rfl | rfl | rfl | rfl | rfl | rfl | rfl | rfl | rfl | rfl | rfl | rfl | rfl | rfl | rfl | rfl | rfl | rfl | rfl | rfl | rfl | rfl | rfl | rfl | rfl | rfl | rfl | rfl | rfl
  · exact ⟨_, _, Try.func25, s25_ok, by kernel_rfl⟩
  · exact ⟨_, _, Try.func34, s34_ok, by kernel_rfl⟩
  · exact ⟨_, _, Try.func36, s36_ok, by kernel_rfl⟩
  · exact ⟨_, _, Try.func39, s39_ok, by kernel_rfl⟩
  · exact ⟨_, _, Try.func41, s41_ok, by kernel_rfl⟩
  · exact ⟨_, _, Try.func43, s43_ok, by kernel_rfl⟩
  · exact ⟨_, _, Try.func45, s45_ok, by kernel_rfl⟩
  · exact ⟨_, _, Try.func50, s50_ok, by kernel_rfl⟩
  · exact ⟨_, _, Try.func63, s63_ok, by kernel_rfl⟩
  · exact ⟨_, _, Try.func66, s66_ok, by kernel_rfl⟩
  · exact ⟨_, _, Try.func69, s69_ok, by kernel_rfl⟩
  · exact ⟨_, _, Try.func73, s73_ok, by kernel_rfl⟩
  · exact ⟨_, _, Try.func74, s74_ok, by kernel_rfl⟩
  · exact ⟨_, _, Try.func75, s75_ok, by kernel_rfl⟩
  · exact ⟨_, _, Try.func76, s76_ok, by kernel_rfl⟩
  · exact ⟨_, _, Try.func77, s77_ok, by kernel_rfl⟩
  · exact ⟨_, _, Try.func78, s78_ok, by kernel_rfl⟩
  · exact ⟨_, _, Try.func79, s79_ok, by kernel_rfl⟩
  · exact ⟨_, _, Try.func80, s80_ok, by kernel_rfl⟩
  · exact ⟨_, _, Try.func81, s81_ok, by kernel_rfl⟩
  · exact ⟨_, _, Try.func82, s82_ok, by kernel_rfl⟩
  · exact ⟨_, _, Try.func83, s83_ok, by kernel_rfl⟩
  · exact ⟨_, _, Try.func84, s84_ok, by kernel_rfl⟩
  · exact ⟨_, _, Try.func99, s99_ok, by kernel_rfl⟩
  · exact ⟨_, _, Try.func100, s100_ok, by kernel_rfl⟩
  · exact ⟨_, _, Try.func101, s101_ok, by kernel_rfl⟩
  · exact ⟨_, _, Try.func102, s102_ok, by kernel_rfl⟩
  · exact ⟨_, _, Try.func103, s103_ok, by kernel_rfl⟩
  · exact ⟨_, _, Try.func104, s104_ok, by kernel_rfl⟩
  · exact ⟨_, _, Try.func105, s105_ok, by kernel_rfl⟩
  · exact ⟨_, _, Try.func106, s106_ok, by kernel_rfl⟩
  · exact ⟨_, _, Try.func107, s107_ok, by kernel_rfl⟩
  · exact ⟨_, _, Try.func108, s108_ok, by kernel_rfl⟩
  · exact ⟨_, _, Try.func109, s109_ok, by kernel_rfl⟩
  · exact ⟨_, _, Try.func110, s110_ok, by kernel_rfl⟩
  · exact ⟨_, _, Try.func111, s111_ok, by kernel_rfl⟩
  · exact ⟨_, _, Try.func114, s114_ok, by kernel_rfl⟩
  · exact ⟨_, _, Try.func115, s115_ok, by kernel_rfl⟩
  · exact ⟨_, _, Try.func116, s116_ok, by kernel_rfl⟩
  · exact ⟨_, _, Try.func117, s117_ok, by kernel_rfl⟩
  · exact ⟨_, _, Try.func118, s118_ok, by kernel_rfl⟩
  · exact ⟨_, _, Try.func120, s120_ok, by kernel_rfl⟩
  · exact ⟨_, _, Try.func121, s121_ok, by kernel_rfl⟩
  · exact ⟨_, _, Try.func122, s122_ok, by kernel_rfl⟩
  · exact ⟨_, _, Try.func125, s125_ok, by kernel_rfl⟩
  · exact ⟨_, _, Try.func126, s126_ok, by kernel_rfl⟩
  · exact ⟨_, _, Try.func127, s127_ok, by kernel_rfl⟩
  · exact ⟨_, _, Try.func128, s128_ok, by kernel_rfl⟩
  · exact ⟨_, _, Try.func129, s129_ok, by kernel_rfl⟩
  · exact ⟨_, _, Try.func130, s130_ok, by kernel_rfl⟩
  · exact ⟨_, _, Try.func131, s131_ok, by kernel_rfl⟩
  · exact ⟨_, _, Try.func132, s132_ok, by kernel_rfl⟩
  · exact ⟨_, _, Try.func133, s133_ok, by kernel_rfl⟩
  · exact ⟨_, _, Try.func134, s134_ok, by kernel_rfl⟩
  · exact ⟨_, _, Try.func136, s136_ok, by kernel_rfl⟩
  · exact ⟨_, _, Try.func137, s137_ok, by kernel_rfl⟩
  · exact ⟨_, _, Try.func138, s138_ok, by kernel_rfl⟩
  · exact ⟨_, _, Try.func139, s139_ok, by kernel_rfl⟩
  · exact ⟨_, _, Try.func140, s140_ok, by kernel_rfl⟩
  · exact ⟨_, _, Try.func142, s142_ok, by kernel_rfl⟩
theorem aw_learnerlaw16_awake_pure : PureC Try.prog 39 [] (.bool true) := pure_of_runQ insPrim119_ok (Good_of tab39_ok) 400 rfl (by kernel_rfl)
end Go.Proofs.Ytngkckefanbhgaa

namespace Go.Proofs.Ytngkckefanbhgaa
open Go Go.Proofs
def r53_0 : List SO := [
  ⟨none, some 2, .box 24 4 (.t 0)⟩,
  ⟨none, some 4, .mv (.c (.bool false))⟩]
def r53_1 : List SO := [
  ⟨none, some 6, .mv (.t 1)⟩,
  ⟨none, some 7, .len (.t 6)⟩,
  ⟨none, some 8, .bin .gtr (.t 7) (.c (.int .i64 60))⟩,
  ⟨none, some 9, .mv (.t 8)⟩,
  ⟨some (9, false), some 10, .fld 2 (.t 2)⟩,
  ⟨some (9, false), some 11, .load false 1 (.t 10)⟩,
  ⟨some (9, false), some 12, .len (.t 11)⟩,
  ⟨some (9, false), some 13, .bin .gtr (.t 12) (.c (.int .i64 40))⟩,
  ⟨none, some 14, .pick (.t 9) (.c (.bool true)) (.t 13)⟩,
  ⟨none, some 15, .mv (.t 14)⟩,
  ⟨some (15, false), some 16, .fld 0 (.t 2)⟩,
  ⟨some (15, false), some 17, .load false 1 (.t 16)⟩,
  ⟨some (15, false), some 18, .bin .gtr (.t 17) (.c (.int .i64 20))⟩,
  ⟨none, some 19, .pick (.t 15) (.c (.bool true)) (.t 18)⟩]
def r53_2 : List SO := [
  ⟨none, some 4, .mv (.c (.bool true))⟩]
def r53_3 : List SO := [
  ⟨none, some 5, .mv (.c (.int .i64 0))⟩]
def r53_4 : List SO := [
  ⟨none, some 20, .mv (.t 5)⟩,
  ⟨none, some 21, .mv (.t 1)⟩,
  ⟨none, some 22, .len (.t 21)⟩,
  ⟨none, some 23, .bin .lss (.t 20) (.t 22)⟩]
def r53_6 : List SO := [
  ⟨none, some 26, .mv (.t 1)⟩,
  ⟨none, some 27, .mv (.t 5)⟩,
  ⟨none, some 28, .idx 1 (.t 26) (.t 27)⟩,
  ⟨none, some 29, .load false 1 (.t 28)⟩,
  ⟨none, some 30, .len (.t 29)⟩,
  ⟨none, some 31, .bin .gtr (.t 30) (.c (.int .i64 100))⟩]
def r53_7 : List SO := [
  ⟨none, some 4, .mv (.c (.bool true))⟩]
def r53_5 : List SO := [
  ⟨none, some 24, .mv (.t 5)⟩,
  ⟨none, some 25, .bin .add (.t 24) (.c (.int .i64 1))⟩,
  ⟨none, some 5, .mv (.t 25)⟩]
def b53_0 : SC := .seq (.seq (.reg r53_4) (.cond (.t 23) (.skip) (.exit 0))) (.seq (.block 1 (.seq (.reg r53_6) (.cond (.t 31) (.seq (.reg r53_7) (.ret)) (.skip)))) (.reg r53_5))
def r53_8 : List SO := [
  ⟨none, some 4, .mv (.c (.bool false))⟩]
def s53 : SF := ⟨32, [.tmp 4], .seq (.reg r53_0) (.seq (.seq (.reg r53_1) (.cond (.t 19) (.seq (.reg r53_2) (.ret)) (.skip))) (.seq (.seq (.reg r53_3) (.block 0 (.loop b53_0))) (.seq (.reg r53_8) (.ret))))⟩
theorem s53_ok : slimF Try.prog ⟨[94, 102, 103, 108, 109, 116, 119, 121, 125], []⟩ Try.f53 = some s53 := by kernel_rfl
end Go.Proofs.Ytngkckefanbhgaa

namespace Go.Proofs.Ytngkckefanbhgaa
open Go Go.Proofs
theorem many_pure (m : M) (ws : List (List Int)) : PureC Try.prog 53 [(V.agg [(iV (m.i)), (iV (m.s)), (V.sl (List.map cL (m.nx))), (V.sl (List.map cL (m.ot)))]), (V.sl (List.map cL (ws)))] (V.bool (decide (60 < ws.length ∨ 40 < m.nx.length ∨ 20 < m.i ∨ fe (mnyE ws) 0 ws.length ≠ 0))) := by
 refine pure_of_Wb true 6 Try.func53 s53_ok (by kernel_rfl) (by simp [s53]) (by simp) (by simp) fun hB => ?_
 simp only [bnd_map, bnd_int, bnd_bool, bnd_str, bnd_agg, bnd_pp, bnd_nil, bnd_cons, implies_true, and_true, true_and] at hB
 unfold s53
 dsimp only
 refine W_seq_regc (fun T H => T 1 = (V.sl (List.map cL (ws))) ∧ T 2 = (V.mp 2 1 0 0) ∧ H 2 = (⟨1, true, false, 24, 4, [[(iV (m.i)), (iV (m.s)), (V.sl (List.map cL (m.nx))), (V.sl (List.map cL (m.ot)))]]⟩ : Blk) ∧ True) ?_ ?_
 ·
  unfold r53_0
  refine R_box (i := 2) (n := 0) (m := 4) (cs := [(iV (m.i)), (iV (m.s)), (V.sl (List.map cL (m.nx))), (V.sl (List.map cL (m.ot)))]) rfl (congrArg Blk.ver rfl) (@rfl V (V.agg [(iV (m.i)), (iV (m.s)), (V.sl (List.map cL (m.nx))), (V.sl (List.map cL (m.ot)))])) rfl rfl ?_
  refine R_mv (@rfl V (V.bool false)) ?_
  exact R_nil ⟨rfl, rfl, rfl, trivial⟩
 intro T H ⟨t1, t2, h2, _⟩
 refine W_seq_seq ?_
 refine W_seq_regc (fun T H => T 1 = (V.sl (List.map cL (ws))) ∧ T 19 = (V.bool (decide ((((60 : Int) < ((ws.length : Nat) : Int)) ∨ ((40 : Int) < ((m.nx.length : Nat) : Int))) ∨ ((20 : Int) < (m.i))))) ∧ H 2 = (⟨1, true, false, 24, 4, [[(iV (m.i)), (iV (m.s)), (V.sl (List.map cL (m.nx))), (V.sl (List.map cL (m.ot)))]]⟩ : Blk) ∧ True) ?_ ?_
 ·
  unfold r53_1
  refine R_mv t1 ?_
  refine R_len (@rfl V (V.sl (List.map cL (ws)))) ?_
  refine R_gtr (x := ((ws.length : Nat) : Int)) (y := (60 : Int)) (@rfl V (iV ((ws.length : Nat) : Int))) (@rfl V (iV (60 : Int))) ?_
  refine R_mv (@rfl V (V.bool (decide ((60 : Int) < ((ws.length : Nat) : Int))))) ?_
  refine Ops_seg 5 (fun T H => T 1 = (V.sl (List.map cL (ws))) ∧ T 2 = (V.mp 2 1 0 0) ∧ T 14 = (V.bool (decide (((60 : Int) < ((ws.length : Nat) : Int)) ∨ ((40 : Int) < ((m.nx.length : Nat) : Int))))) ∧ H 2 = (⟨1, true, false, 24, 4, [[(iV (m.i)), (iV (m.s)), (V.sl (List.map cL (m.nx))), (V.sl (List.map cL (m.ot)))]]⟩ : Blk) ∧ True) ?_ ?_
  ·
   by_cases g1 : (60 : Int) < ((ws.length : Nat) : Int)
   ·
    refine G_no (Eq.trans (@rfl V (V.bool (decide ((60 : Int) < ((ws.length : Nat) : Int))))) (bdT g1)) (by decide) ?_
    refine G_no (Eq.trans (@rfl V (V.bool (decide ((60 : Int) < ((ws.length : Nat) : Int))))) (bdT g1)) (by decide) ?_
    refine G_no (Eq.trans (@rfl V (V.bool (decide ((60 : Int) < ((ws.length : Nat) : Int))))) (bdT g1)) (by decide) ?_
    refine G_no (Eq.trans (@rfl V (V.bool (decide ((60 : Int) < ((ws.length : Nat) : Int))))) (bdT g1)) (by decide) ?_
    refine R_pickT (Eq.trans (@rfl V (V.bool (decide ((60 : Int) < ((ws.length : Nat) : Int))))) (bdT g1)) (@rfl V (V.bool true)) ?_
    exact ⟨t1, t2, (Eq.trans (@rfl V (V.bool true)) (dec_orT g1)), h2, trivial⟩
   ·
    refine G_yes (Eq.trans (@rfl V (V.bool (decide ((60 : Int) < ((ws.length : Nat) : Int))))) (bdF g1)) ?_
    refine R_fld_mp (o' := 2) t2 h2 (by first | rfl | simp [okB, Blk.own]) rfl ?_
    refine G_yes (Eq.trans (@rfl V (V.bool (decide ((60 : Int) < ((ws.length : Nat) : Int))))) (bdF g1)) ?_
    refine R_load_mp (v := (V.sl (List.map cL (m.nx)))) (@rfl V (V.mp 2 1 0 2)) h2 (by first | rfl | simp [ldB, ldV, Blk.own, V.one]) ?_
    refine G_yes (Eq.trans (@rfl V (V.bool (decide ((60 : Int) < ((ws.length : Nat) : Int))))) (bdF g1)) ?_
    refine R_len (@rfl V (V.sl (List.map cL (m.nx)))) ?_
    refine G_yes (Eq.trans (@rfl V (V.bool (decide ((60 : Int) < ((ws.length : Nat) : Int))))) (bdF g1)) ?_
    refine R_gtr (x := ((m.nx.length : Nat) : Int)) (y := (40 : Int)) (@rfl V (iV ((m.nx.length : Nat) : Int))) (@rfl V (iV (40 : Int))) ?_
    refine R_pickF (Eq.trans (@rfl V (V.bool (decide ((60 : Int) < ((ws.length : Nat) : Int))))) (bdF g1)) (@rfl V (V.bool (decide ((40 : Int) < ((m.nx.length : Nat) : Int))))) ?_
    exact ⟨t1, t2, (Eq.trans (@rfl V (V.bool (decide ((40 : Int) < ((m.nx.length : Nat) : Int))))) (dec_orF g1)), h2, trivial⟩
  intro T H ⟨t1, t2, t14, h2, _⟩
  refine R_mv t14 ?_
  refine Ops_seg 4 (fun T H => T 1 = (V.sl (List.map cL (ws))) ∧ T 19 = (V.bool (decide ((((60 : Int) < ((ws.length : Nat) : Int)) ∨ ((40 : Int) < ((m.nx.length : Nat) : Int))) ∨ ((20 : Int) < (m.i))))) ∧ H 2 = (⟨1, true, false, 24, 4, [[(iV (m.i)), (iV (m.s)), (V.sl (List.map cL (m.nx))), (V.sl (List.map cL (m.ot)))]]⟩ : Blk) ∧ True) ?_ ?_
  ·
   by_cases g2 : ((60 : Int) < ((ws.length : Nat) : Int)) ∨ ((40 : Int) < ((m.nx.length : Nat) : Int))
   ·
    refine G_no (Eq.trans (@rfl V (V.bool (decide (((60 : Int) < ((ws.length : Nat) : Int)) ∨ ((40 : Int) < ((m.nx.length : Nat) : Int)))))) (bdT g2)) (by decide) ?_
    refine G_no (Eq.trans (@rfl V (V.bool (decide (((60 : Int) < ((ws.length : Nat) : Int)) ∨ ((40 : Int) < ((m.nx.length : Nat) : Int)))))) (bdT g2)) (by decide) ?_
    refine G_no (Eq.trans (@rfl V (V.bool (decide (((60 : Int) < ((ws.length : Nat) : Int)) ∨ ((40 : Int) < ((m.nx.length : Nat) : Int)))))) (bdT g2)) (by decide) ?_
    refine R_pickT (Eq.trans (@rfl V (V.bool (decide (((60 : Int) < ((ws.length : Nat) : Int)) ∨ ((40 : Int) < ((m.nx.length : Nat) : Int)))))) (bdT g2)) (@rfl V (V.bool true)) ?_
    exact ⟨t1, (Eq.trans (@rfl V (V.bool true)) (dec_orT g2)), h2, trivial⟩
   ·
    refine G_yes (Eq.trans (@rfl V (V.bool (decide (((60 : Int) < ((ws.length : Nat) : Int)) ∨ ((40 : Int) < ((m.nx.length : Nat) : Int)))))) (bdF g2)) ?_
    refine R_fld_mp (o' := 0) t2 h2 (by first | rfl | simp [okB, Blk.own]) rfl ?_
    refine G_yes (Eq.trans (@rfl V (V.bool (decide (((60 : Int) < ((ws.length : Nat) : Int)) ∨ ((40 : Int) < ((m.nx.length : Nat) : Int)))))) (bdF g2)) ?_
    refine R_load_mp (v := (iV (m.i))) (@rfl V (V.mp 2 1 0 0)) h2 (by first | rfl | simp [ldB, ldV, Blk.own, V.one]) ?_
    refine G_yes (Eq.trans (@rfl V (V.bool (decide (((60 : Int) < ((ws.length : Nat) : Int)) ∨ ((40 : Int) < ((m.nx.length : Nat) : Int)))))) (bdF g2)) ?_
    refine R_gtr (x := (m.i)) (y := (20 : Int)) (@rfl V (iV (m.i))) (@rfl V (iV (20 : Int))) ?_
    refine R_pickF (Eq.trans (@rfl V (V.bool (decide (((60 : Int) < ((ws.length : Nat) : Int)) ∨ ((40 : Int) < ((m.nx.length : Nat) : Int)))))) (bdF g2)) (@rfl V (V.bool (decide ((20 : Int) < (m.i))))) ?_
    exact ⟨t1, (Eq.trans (@rfl V (V.bool (decide ((20 : Int) < (m.i))))) (dec_orF g2)), h2, trivial⟩
  intro T H ⟨t1, t19, h2, _⟩
  exact R_nil ⟨t1, t19, h2, trivial⟩
 intro T H ⟨t1, t19, h2, _⟩
 refine W_seq_if (p := (((60 : Int) < ((ws.length : Nat) : Int)) ∨ ((40 : Int) < ((m.nx.length : Nat) : Int))) ∨ ((20 : Int) < (m.i))) t19 (fun c3 => ?_) (fun c3 => ?_)
 ·
  refine W_seq_seq ?_
  refine W_seq_regc (fun T H => T 4 = (V.bool true) ∧ H 2 = (⟨1, true, false, 24, 4, [[(iV (m.i)), (iV (m.s)), (V.sl (List.map cL (m.nx))), (V.sl (List.map cL (m.ot)))]]⟩ : Blk) ∧ True) ?_ ?_
  ·
   unfold r53_2
   refine R_mv (@rfl V (V.bool true)) ?_
   exact R_nil ⟨rfl, h2, trivial⟩
  intro T H ⟨t4, h2, _⟩
  refine W_seq_ret ?_
  refine Ret_1 t4 (fz_bool ?_)
  · exact (decide_eq_true (by omega)).symm
 refine W_seq_skip ?_
 refine W_seq_seq ?_
 refine W_seq_regc (fun T H => T 1 = (V.sl (List.map cL (ws))) ∧ T 5 = (iV (0 : Int)) ∧ H 2 = (⟨1, true, false, 24, 4, [[(iV (m.i)), (iV (m.s)), (V.sl (List.map cL (m.nx))), (V.sl (List.map cL (m.ot)))]]⟩ : Blk) ∧ True) ?_ ?_
 ·
  unfold r53_3
  refine R_mv (@rfl V (iV (0 : Int))) ?_
  exact R_nil ⟨t1, rfl, h2, trivial⟩
 intro T H ⟨t1, t5, h2, _⟩
 refine W_seq_blockg fun Q4 n4 x4 y4 z4 => ?_
 refine W_loop (fun mm T H => ∃ (k : Nat), mm = ws.length - k ∧ T 1 = (V.sl (List.map cL (ws))) ∧ T 5 = (iV ((k : Nat) : Int)) ∧ H 2 = (⟨1, true, false, 24, 4, [[(iV (m.i)), (iV (m.s)), (V.sl (List.map cL (m.nx))), (V.sl (List.map cL (m.ot)))]]⟩ : Blk) ∧ (k ≤ ws.length) ∧ (ws.length ≤ 60 ∧ m.nx.length ≤ 40 ∧ m.i ≤ 20) ∧ (fe (mnyE ws) 0 ws.length = fe (mnyE ws) k (ws.length - k))) ?_ ?_
 ·
  refine ⟨_, 0, rfl, t1, (Eq.trans t5 (by first | rfl | simp)), h2, ?_, ?_, ?_⟩
  · omega
  · omega
  · rfl
 intro mm T H ⟨k, hmm, t1, t5, h2, hk, hl, hc⟩ Q5 p15 p25 p35
 unfold b53_0
 refine W_seq_seq ?_
 refine W_seq_regc (fun T H => T 1 = (V.sl (List.map cL (ws))) ∧ T 5 = (iV ((k : Nat) : Int)) ∧ T 23 = (V.bool (decide (((k : Nat) : Int) < ((ws.length : Nat) : Int)))) ∧ H 2 = (⟨1, true, false, 24, 4, [[(iV (m.i)), (iV (m.s)), (V.sl (List.map cL (m.nx))), (V.sl (List.map cL (m.ot)))]]⟩ : Blk) ∧ True) ?_ ?_
 ·
  unfold r53_4
  refine R_mv t5 ?_
  refine R_mv t1 ?_
  refine R_len (@rfl V (V.sl (List.map cL (ws)))) ?_
  refine R_lss (x := ((k : Nat) : Int)) (y := ((ws.length : Nat) : Int)) (@rfl V (iV ((k : Nat) : Int))) (@rfl V (iV ((ws.length : Nat) : Int))) ?_
  exact R_nil ⟨t1, t5, rfl, h2, trivial⟩
 intro T H ⟨t1, t5, t23, h2, _⟩
 refine W_seq_if (p := ((k : Nat) : Int) < ((ws.length : Nat) : Int)) t23 (fun c6 => ?_) (fun c6 => ?_)
 ·
  refine W_seq_skip ?_
  refine W_seq_blockg fun Q7 n7 x7 y7 z7 => ?_
  refine W_seq_regc (fun T H => T 1 = (V.sl (List.map cL (ws))) ∧ T 5 = (iV ((k : Nat) : Int)) ∧ T 31 = (V.bool (decide ((100 : Int) < ((((nth (ws) (k))).length : Nat) : Int)))) ∧ H 2 = (⟨1, true, false, 24, 4, [[(iV (m.i)), (iV (m.s)), (V.sl (List.map cL (m.nx))), (V.sl (List.map cL (m.ot)))]]⟩ : Blk) ∧ True) ?_ ?_
  ·
   unfold r53_6
   refine R_mv t1 ?_
   refine R_mv t5 ?_
   refine R_idx (i := k) (@rfl V (V.sl (List.map cL (ws)))) (@rfl V (iV ((k : Nat) : Int))) (by omega) rfl ?_
   refine R_load_pp (v := (V.sl (List.map cI ((nth (ws) (k)))))) (@rfl V (V.pp [(V.sl (List.map cI ((nth (ws) (k)))))])) (by first | rfl | simp [ldV]) ?_
   refine R_len (@rfl V (V.sl (List.map cI ((nth (ws) (k)))))) ?_
   refine R_gtr (x := ((((nth (ws) (k))).length : Nat) : Int)) (y := (100 : Int)) (@rfl V (iV ((((nth (ws) (k))).length : Nat) : Int))) (@rfl V (iV (100 : Int))) ?_
   exact R_nil ⟨t1, t5, rfl, h2, trivial⟩
  intro T H ⟨t1, t5, t31, h2, _⟩
  refine W_if (p := (100 : Int) < ((((nth (ws) (k))).length : Nat) : Int)) t31 (fun c8 => ?_) (fun c8 => ?_)
  ·
   refine W_seq_regc (fun T H => T 4 = (V.bool true) ∧ H 2 = (⟨1, true, false, 24, 4, [[(iV (m.i)), (iV (m.s)), (V.sl (List.map cL (m.nx))), (V.sl (List.map cL (m.ot)))]]⟩ : Blk) ∧ True) ?_ ?_
   ·
    unfold r53_7
    refine R_mv (@rfl V (V.bool true)) ?_
    exact R_nil ⟨rfl, h2, trivial⟩
   intro T H ⟨t4, h2, _⟩
   refine W_ret ?_
   refine y7 _ _ ?_
   refine p25 _ _ ?_
   refine y4 _ _ ?_
   refine Ret_1 t4 (fz_bool ?_)
   · exact (decide_eq_true (Or.inr (Or.inr (Or.inr (by rw [hc, fe_hit (by unfold mnyE; split <;> omega) (by omega)]; unfold mnyE; split <;> omega))))).symm
  refine W_skip ?_
  refine n7 _ _ ?_
  refine .done ?_
  refine W_regc (fun T H => T 1 = (V.sl (List.map cL (ws))) ∧ T 5 = (iV ((k + 1 : Nat) : Int)) ∧ H 2 = (⟨1, true, false, 24, 4, [[(iV (m.i)), (iV (m.s)), (V.sl (List.map cL (m.nx))), (V.sl (List.map cL (m.ot)))]]⟩ : Blk) ∧ True) ?_ ?_
  ·
   unfold r53_5
   refine R_mv t5 ?_
   refine R_addN (m := k) (n := 1) (@rfl V (iV ((k : Nat) : Int))) (@rfl V (iV ((1 : Nat) : Int))) (by omega) ?_
   refine R_mv (@rfl V (iV ((k + 1 : Nat) : Int))) ?_
   exact R_nil ⟨t1, rfl, h2, trivial⟩
  intro T H ⟨t1, t5, h2, _⟩
  refine p15 _ _ _ ?_ ⟨(k + 1), rfl, t1, (Eq.trans t5 (by first | rfl | simp)), h2, ?_, ?_, ?_⟩
  · omega
  · omega
  · omega
  · rw [hc, fe_skip (by unfold mnyE; split <;> omega) (by omega)]
 refine W_seq_exit ?_
 refine p35 _ _ _ ?_
 refine x4 _ _ ?_
 refine .done ?_
 refine W_seq_regc (fun T H => T 4 = (V.bool false) ∧ H 2 = (⟨1, true, false, 24, 4, [[(iV (m.i)), (iV (m.s)), (V.sl (List.map cL (m.nx))), (V.sl (List.map cL (m.ot)))]]⟩ : Blk) ∧ True) ?_ ?_
 ·
  unfold r53_8
  refine R_mv (@rfl V (V.bool false)) ?_
  exact R_nil ⟨rfl, h2, trivial⟩
 intro T H ⟨t4, h2, _⟩
 refine W_ret ?_
 refine Ret_1 t4 (fz_bool ?_)
 · exact (decide_eq_false (by rw [hc, fe_end (by omega)]; omega)).symm
end Go.Proofs.Ytngkckefanbhgaa

namespace Go.Proofs.Ytngkckefanbhgaa
theorem oval_of {o : Ob} (h : OK o) : oval o = 0 := by
  have hi := h.hi
  have hl := h.len
  have h1 : fe (trE o) 0 o.tr.length = 0 := fe_zero_iff.2 fun j _ hj => by
    have hj' : j < o.tr.length := by omega
    obtain ⟨p1, p2⟩ := h.pr j hj'
    have hw : wchk (nth o.tr j).ni o.i = 0 := wchk_zero ⟨hi.1, by omega⟩ p1.lel p1.sym
    have hp : prE (nth o.tr j) o.i = 0 := by
      rw [prE, if_neg (by omega), if_neg (by have := p1.len; omega)]
      exact fe_zero_iff.2 fun k _ hk => by
        have := p1.out k (by omega)
        rw [outE, if_neg (by omega)]
    rw [trE, if_neg (by omega), if_neg (by omega), if_neg (by omega), if_neg]
    intro q
    have := h.ord (j - 1) (by omega)
    rw [show j - 1 + 1 = j by omega] at this
    omega
  rw [oval, if_neg (by omega), if_neg (by omega), if_neg (by omega)]
  refine fe_zero_iff.2 fun j _ hj => ?_
  have hj' : j < o.tr.length := by omega
  rw [apE, if_neg, if_neg]
  · intro q
    obtain ⟨k, hk, e⟩ := exB_iff.1 q
    have := h.cla j (j + 1 + k) (by omega) (by omega)
    simp only [claB, decide_eq_true_eq] at e
    omega
  · intro q
    obtain ⟨k, hk, e⟩ := exB_iff.1 q
    have := h.pre j (j + 1 + k) (by omega) (by omega)
    simp only [preB] at e
    rw [this] at e; cases e
theorem srt_ext : ∀ {l m : List Tr}, Srt l → Srt m → (∀ u, u ∈ l ↔ u ∈ m) → l = m
  | [], [], _, _, _ => rfl
  | [], b :: m, _, _, h => by have := (h b).2 (by simp); simp at this
  | a :: l, [], _, _, h => by have := (h a).1 (by simp); simp at this
  | a :: l, b :: m, hl, hm, h => by
    obtain ⟨l1, l2⟩ := List.pairwise_cons.1 hl
    obtain ⟨m1, m2⟩ := List.pairwise_cons.1 hm
    have irr : ∀ x : Tr, ¬slx x.ni x.ni < 0 := fun x q => by rw [slx_zero.2 rfl] at q; omega
    have e : a = b := by
      rcases List.mem_cons.1 ((h a).1 (by simp)) with e | e
      · exact e
      · rcases List.mem_cons.1 ((h b).2 (by simp)) with g | g
        · exact g.symm
        · exact (irr a (slx_trans (l1 b g) (m1 a e))).elim
    subst e
    rw [srt_ext l2 m2 fun u => ?_]
    constructor
    · intro hu
      rcases List.mem_cons.1 ((h u).1 (List.mem_cons_of_mem _ hu)) with e | e
      · subst e; exact (irr _ (l1 _ hu)).elim
      · exact e
    · intro hu
      rcases List.mem_cons.1 ((h u).2 (List.mem_cons_of_mem _ hu)) with e | e
      · subst e; exact (irr _ (m1 _ hu)).elim
      · exact e
theorem OK.anti {o : Ob} (h : OK o) {u v : Tr} (hu : u ∈ o.tr) (hv : v ∈ o.tr) (e : hp v.ni u.ni = true) : v = u := by
  obtain ⟨a, ha, rfl⟩ := mem_nth hu
  obtain ⟨b, hb, rfl⟩ := mem_nth hv
  rcases Nat.lt_trichotomy a b with q | q | q
  · rw [h.pre a b q hb] at e; cases e
  · rw [q]
  · have h1 := OK.lt_of h.ord q ha
    have h2 := hp_len e
    unfold slx at h1
    split at h1
    · omega
    · split at h1
      · omega
      · rw [hp_eq e (by omega), lexI_zero.2 rfl] at h1; omega
theorem df_neg {a b : Tr} : df a b < 0 ↔ ∀ j, j < cmn a.ni b.ni → nth a.no j = nth b.no j := by
  constructor
  · intro h j hj
    by_cases e : nth a.no j = nth b.no j
    · exact e
    · have := df_iff.2 ⟨j, hj, e⟩; omega
  · intro h
    by_cases e : df a b < 0
    · exact e
    · obtain ⟨j, hj, q⟩ := df_iff.1 (show 0 ≤ df a b by omega)
      exact (q (h j hj)).elim
theorem df_self (a : Tr) : df a a < 0 := df_neg.2 fun _ _ => rfl
theorem tr_same {a b : Tr} (h1 : a.no.length = a.ni.length) (h2 : b.no.length = b.ni.length) (e : a.ni = b.ni) (h : df a b < 0) : a = b := by
  rw [Tr.eq_iff]
  refine ⟨e, nth_ext (by rw [h1, h2, e]) fun j hj => df_neg.1 h j ?_⟩
  rw [e, cmn_self]; rw [h1, e] at hj; exact hj
theorem addE_ok {l : List Tr} {t : Tr} (h : addE l t = 0) : ∀ u ∈ l, df u t < 0 := fun u hu => by
  unfold addE at h
  split at h
  · cases h
  · rename_i g; exact not_ndet g hu
theorem OK.cl {o : Ob} (h : OK o) {u v : Tr} (hu : u ∈ o.tr) (hv : v ∈ o.tr) : df u v < 0 := df_neg.2 fun _ hj => h.same hu hv hj
def Mx (p : Tr → Prop) (u : Tr) : Prop := p u ∧ 0 < u.ni.length ∧ ∀ v, p v → hp v.ni u.ni = true → v.ni = u.ni
theorem hp_antisym {a b : List Int} (h1 : hp a b = true) (h2 : hp b a = true) : a = b := hp_eq h1 (hp_len h2)
theorem inL_cov {l : List Tr} {s : Tr} (h : inL l s) (hs : 0 < s.ni.length) : ∃ w ∈ l, hp w.ni s.ni = true := by
  rcases h with h | h
  · obtain ⟨j, hj, e⟩ := exB_iff.1 h
    rw [Nat.zero_add] at e
    exact ⟨nth l j, nth_mem hj, e⟩
  · omega
theorem mem_ins {l : List Tr} {t u : Tr} : u ∈ ins l t ↔ u ∈ l ∨ u = t := by
  simp only [ins, List.mem_append, List.mem_cons, List.mem_filter]
  constructor
  · rintro (h | h | h)
    · exact .inl h.1
    · exact .inr h
    · exact .inl h.1
  · rintro (h | h)
    · cases e : lbP t u
      · exact .inr (.inr ⟨h, by simp⟩)
      · exact .inl ⟨h, rfl⟩
    · exact .inr (.inl h)
theorem mem_add {i : Int} {l : List Tr} {s : Tr} (ho : OK ⟨i, l⟩) (hs : prE s i = 0) (he : addE l s = 0) (u : Tr) : u ∈ addL l s ↔ Mx (fun v => v ∈ l ∨ v = s) u := by
  have ps := prE_ok hs
  have hcl := addE_ok he
  unfold addL
  by_cases h : inL l s
  · rw [if_pos h]
    constructor
    · intro hu
      have hu0 := (ho.mem hu).2
      refine ⟨.inl hu, hu0, fun v hv e => ?_⟩
      rcases hv with hv | rfl
      · rw [ho.anti hu hv e]
      · have h1 := hp_len e
        obtain ⟨w, hw, hws⟩ := inL_cov h (by omega)
        have := ho.anti hu hw (hp_trans hws e)
        subst this
        exact hp_antisym e hws
    · rintro ⟨h1 | rfl, h2, h3⟩
      · exact h1
      · obtain ⟨w, hw, hws⟩ := inL_cov h h2
        have e := h3 w (.inl hw) hws
        rwa [← tr_same (ho.mem hw).1.len ps.len e (hcl w hw)]
  · rw [if_neg h]
    rw [mem_ins, List.mem_filter]
    constructor
    · rintro (⟨h1, h2⟩ | rfl)
      · refine ⟨.inl h1, (ho.mem h1).2, fun v hv e => ?_⟩
        rcases hv with hv | rfl
        · rw [ho.anti h1 hv e]
        · simp [kp, e] at h2
      · refine ⟨.inr rfl, by have : ¬u.ni.length = 0 := fun q => h (.inr q); omega, fun v hv e => ?_⟩
        rcases hv with hv | rfl
        · rw [not_inL h hv] at e; cases e
        · rfl
    · rintro ⟨h1 | rfl, h2, h3⟩
      · by_cases hh : u = s
        · exact .inr hh
        refine .inl ⟨h1, ?_⟩
        unfold kp
        cases e : hp s.ni u.ni with
        | false => rfl
        | true =>
          have := h3 s (.inr rfl) e
          have q := not_inL h h1
          rw [← this, hp_self] at q; cases q
      · exact .inr rfl
theorem add_cov {i : Int} {l : List Tr} {s : Tr} (ho : OK ⟨i, l⟩) {v : Tr} (hv : v ∈ l ∨ v = s) (h0 : 0 < v.ni.length) : ∃ w ∈ addL l s, hp w.ni v.ni = true := by
  unfold addL
  by_cases h : inL l s
  · rw [if_pos h]
    rcases hv with hv | rfl
    · exact ⟨v, hv, hp_self _⟩
    · exact inL_cov h h0
  · rw [if_neg h]
    rcases hv with hv | rfl
    · cases e : hp s.ni v.ni with
      | true => exact ⟨s, mem_ins.2 (.inr rfl), e⟩
      | false => exact ⟨v, mem_ins.2 (.inl (List.mem_filter.2 ⟨hv, by simp [kp, e]⟩)), hp_self _⟩
    · exact ⟨v, mem_ins.2 (.inr rfl), hp_self _⟩
theorem mem_add2 {i : Int} {l : List Tr} {s t : Tr} (ho : OK ⟨i, l⟩) (hs : prE s i = 0) (he : addE l s = 0) (ht : prE t i = 0) (hf : addE (addL l s) t = 0) (u : Tr) :
    u ∈ addL (addL l s) t ↔ Mx (fun v => v ∈ l ∨ v = s ∨ v = t) u := by
  have o1 := add_ok ho hs he
  rw [mem_add o1 ht hf]
  constructor
  · rintro ⟨h1, h2, h3⟩
    refine ⟨?_, h2, fun v hv e => ?_⟩
    · rcases h1 with h1 | h1
      · rcases ((mem_add ho hs he u).1 h1).1 with q | q
        · exact .inl q
        · exact .inr (.inl q)
      · exact .inr (.inr h1)
    · have hv0 : 0 < v.ni.length := by have := hp_len e; omega
      have key : (v ∈ l ∨ v = s) → v.ni = u.ni := fun hv => by
        obtain ⟨w, hw, hwv⟩ := add_cov ho hv hv0
        have q := h3 w (.inl hw) (hp_trans hwv e)
        rw [← q] at e
        rw [← q]; exact hp_antisym e hwv
      rcases hv with hv | hv | rfl
      · exact key (.inl hv)
      · exact key (.inr hv)
      · exact h3 v (.inr rfl) e
  · rintro ⟨h1, h2, h3⟩
    refine ⟨?_, h2, fun v hv e => ?_⟩
    · rcases h1 with h1 | h1 | h1
      · exact .inl ((mem_add ho hs he u).2 ⟨.inl h1, h2, fun v hv e => h3 v (by rcases hv with hv | hv; exact .inl hv; exact .inr (.inl hv)) e⟩)
      · exact .inl ((mem_add ho hs he u).2 ⟨.inr h1, h2, fun v hv e => h3 v (by rcases hv with hv | hv; exact .inl hv; exact .inr (.inl hv)) e⟩)
      · exact .inr h1
    · rcases hv with hv | rfl
      · rcases ((mem_add ho hs he v).1 hv).1 with q | q
        · exact h3 v (.inl q) e
        · exact h3 v (.inr (.inl q)) e
      · exact h3 v (.inr (.inr rfl)) e
theorem add_comm2 {i : Int} {l : List Tr} {s t : Tr} (ho : OK ⟨i, l⟩) (hs : prE s i = 0) (ht : prE t i = 0) (he : addE l s = 0) (hf : addE (addL l s) t = 0) (hg : addE l t = 0) (hh : addE (addL l t) s = 0) :
    addL (addL l s) t = addL (addL l t) s := by
  refine srt_ext (add_ok (add_ok ho hs he) ht hf).srt (add_ok (add_ok ho ht hg) hs hh).srt fun u => ?_
  rw [mem_add2 ho hs he ht hf, mem_add2 ho ht hg hs hh]
  unfold Mx
  have : ∀ v, (v ∈ l ∨ v = s ∨ v = t) ↔ (v ∈ l ∨ v = t ∨ v = s) := fun v => by
    constructor <;> rintro (h | h | h)
    · exact .inl h
    · exact .inr (.inr h)
    · exact .inr (.inl h)
    · exact .inl h
    · exact .inr (.inr h)
    · exact .inr (.inl h)
  simp only [this]
theorem ans_cov {o : Ob} {s : Tr} (hc : 0 < s.ni.length → ∃ w ∈ o.tr, hp w.ni s.ni = true) (hd : ∀ u ∈ o.tr, df u s < 0) (hl : ∀ u ∈ o.tr, u.no.length = u.ni.length) (hs : s.no.length = s.ni.length) : ans o s.ni = some s.no := by
  unfold ans
  split
  · rename_i h; rw [h] at hs; rw [List.length_eq_zero_iff.1 hs]
  · rename_i h
    have h0 : 0 < s.ni.length := List.length_pos_iff.2 h
    obtain ⟨w, hw, e⟩ := hc h0
    cases ha : ansL o.tr s.ni with
    | none => rw [ansL_none ha w hw] at e; cases e
    | some x =>
      obtain ⟨u, hu, h1, rfl⟩ := ansL_some ha
      have hul := hl u hu
      have hle := hp_len h1
      congr 1
      refine nth_ext (by rw [List.length_take]; omega) fun j hj => ?_
      rw [List.length_take] at hj
      rw [nth_take (by omega)]
      have : cmn u.ni s.ni = s.ni.length := by simpa [hp] using h1
      exact df_neg.1 (hd u hu) j (by omega)
theorem addL_in {l : List Tr} {t : Tr} (h : inL l t) : addL l t = l := if_pos h
theorem order_all {o : Ob} {s t : Tr} (ho : OK o) (e1 : (alR o.i o.tr [s]).2 = 0) (e2 : (alR (alO o [s]).i (alO o [s]).tr [t]).2 = 0) (e3 : (alR o.i o.tr [t]).2 = 0) (e4 : (alR (alO o [t]).i (alO o [t]).tr [s]).2 = 0) :
    alO (alO o [s]) [t] = alO (alO o [t]) [s] ∧ alO (alO (alO o [s]) [t]) [s] = alO (alO o [s]) [t] ∧ (alR (alO (alO o [s]) [t]).i (alO (alO o [s]) [t]).tr [s]).2 = 0 ∧
    ans (alO (alO o [s]) [t]) s.ni = some s.no ∧ ans (alO (alO o [s]) [t]) t.ni = some t.no ∧ ∀ u ∈ o.tr, ans (alO (alO o [s]) [t]) u.ni = some u.no := by
  have one : ∀ {q : Ob} {x : Tr}, (alR q.i q.tr [x]).2 = 0 → prE x q.i = 0 ∧ addE q.tr x = 0 ∧ alO q [x] = ⟨q.i, addL q.tr x⟩ := by
    intro q x h
    have h' := h
    rw [alR_one] at h
    split at h
    · rename_i g; simp only at h; exact (g h).elim
    rename_i g1
    split at h
    · rename_i g; simp only at h; exact (g h).elim
    rename_i g2
    refine ⟨by omega, by omega, ?_⟩
    unfold alO
    rw [if_neg (by omega), alR_one, if_neg g1, if_neg g2]
  obtain ⟨hs, he, a1⟩ := one e1
  rw [a1] at e2 ⊢
  obtain ⟨ht, hf, a2⟩ := one e2
  obtain ⟨_, hg, b1⟩ := one e3
  rw [b1] at e4
  obtain ⟨_, hh, b2⟩ := one e4
  rw [b1, a2, b2]
  have ho' : OK ⟨o.i, o.tr⟩ := ho
  have o1 := add_ok ho' hs he
  have o2 := add_ok o1 ht hf
  have q1 := add_ok ho' ht hg
  have hcomm := add_comm2 ho' hs ht he hf hg hh
  -- no trace of the result contradicts one that was given
  have mem : ∀ u ∈ addL (addL o.tr s) t, u ∈ o.tr ∨ u = s ∨ u = t := fun u hu => ((mem_add2 ho' hs he ht hf u).1 hu).1
  have cs : ∀ u ∈ addL (addL o.tr s) t, df u s < 0 := fun u hu => by
    rw [hcomm] at hu
    rcases ((mem_add q1 hs hh u).1 hu).1 with g | rfl
    · exact addE_ok hh u g
    · exact df_self _
  have ct : ∀ u ∈ addL (addL o.tr s) t, df u t < 0 := fun u hu => by
    rcases ((mem_add o1 ht hf u).1 hu).1 with g | rfl
    · exact addE_ok hf u g
    · exact df_self _
  have co : ∀ v ∈ o.tr, ∀ u ∈ addL (addL o.tr s) t, df u v < 0 := fun v hv u hu => by
    rcases mem u hu with g | rfl | rfl
    · exact ho.cl g hv
    · rw [df_comm]; exact addE_ok he v hv
    · rw [df_comm]; exact addE_ok hg v hv
  have cov : ∀ v, v ∈ o.tr ∨ v = s ∨ v = t → 0 < v.ni.length → ∃ w ∈ addL (addL o.tr s) t, hp w.ni v.ni = true := fun v hv h0 => by
    have two : (v ∈ o.tr ∨ v = s) → ∃ w ∈ addL (addL o.tr s) t, hp w.ni v.ni = true := fun hv => by
      obtain ⟨w, hw, e⟩ := add_cov ho' hv h0
      obtain ⟨x, hx, e'⟩ := add_cov o1 (s := t) (.inl hw) (by have := hp_len e; omega)
      exact ⟨x, hx, hp_trans e' e⟩
    rcases hv with hv | hv | rfl
    · exact two (.inl hv)
    · exact two (.inr hv)
    · exact add_cov o1 (.inr rfl) h0
  have hin : inL (addL (addL o.tr s) t) s := by
    by_cases h0 : s.ni.length = 0
    · exact .inr h0
    · obtain ⟨w, hw, e⟩ := cov s (.inr (.inl rfl)) (by omega)
      obtain ⟨j, hj, rfl⟩ := mem_nth hw
      exact .inl (exB_iff.2 ⟨j, hj, by rw [Nat.zero_add]; exact e⟩)
  have hadd0 : addE (addL (addL o.tr s) t) s = 0 := by
    unfold addE
    rw [if_neg, if_pos hin]
    intro q
    obtain ⟨j, _, hj, e⟩ := fi_iff.1 q
    have := cs _ (nth_mem (show j < _ by omega))
    simp only [ndP, decide_eq_true_eq] at e
    omega
  have haddL : addL (addL (addL o.tr s) t) s = addL (addL o.tr s) t := addL_in hin
  have hr : alR o.i (addL (addL o.tr s) t) [s] = (addL (addL o.tr s) t, 0) := by
    rw [alR_one, if_neg (by omega), if_neg (by omega), haddL]
  have lens : ∀ u ∈ addL (addL o.tr s) t, u.no.length = u.ni.length := fun u hu => (o2.mem hu).1.len
  refine ⟨by rw [hcomm], ?_, by simp only; rw [hr], ?_, ?_, fun u hu => ?_⟩
  · unfold alO; simp only; rw [hr]; rfl
  · exact ans_cov (cov s (.inr (.inl rfl))) cs lens (prE_ok hs).len
  · exact ans_cov (cov t (.inr (.inr rfl))) ct lens (prE_ok ht).len
  · exact ans_cov (cov u (.inl hu)) (co u hu) lens (ho.mem hu).1.len
theorem alR_mem {i : Int} : ∀ {l acc : List Tr}, OK ⟨i, acc⟩ → (alR i acc l).2 = 0 → (∀ u ∈ (alR i acc l).1, u ∈ acc ∨ u ∈ l) ∧ (∀ v, v ∈ acc ∨ v ∈ l → 0 < v.ni.length → ∃ w ∈ (alR i acc l).1, hp w.ni v.ni = true)
  | [], acc, _, _ => ⟨fun u hu => .inl hu, fun v hv _ => by rcases hv with hv | hv; exact ⟨v, hv, hp_self _⟩; cases hv⟩
  | t :: l, acc, h, he => by
    rw [alR] at he ⊢
    split at he
    · contradiction
    rename_i h1
    split at he
    · contradiction
    rename_i h2
    rw [if_neg h1, if_neg h2]
    have o1 := add_ok h (show prE t i = 0 by omega) (by omega)
    obtain ⟨g1, g2⟩ := alR_mem o1 he
    refine ⟨fun u hu => ?_, fun v hv h0 => ?_⟩
    · rcases g1 u hu with q | q
      · rcases ((mem_add h (by omega) (by omega) u).1 q).1 with z | z
        · exact .inl z
        · exact .inr (by simp [z])
      · exact .inr (List.mem_cons_of_mem _ q)
    · have two : (v ∈ acc ∨ v = t) → ∃ w ∈ (alR i (addL acc t) l).1, hp w.ni v.ni = true := fun hv => by
        obtain ⟨w, hw, e⟩ := add_cov h hv h0
        obtain ⟨x, hx, e'⟩ := g2 w (.inl hw) (by have := hp_len e; omega)
        exact ⟨x, hx, hp_trans e' e⟩
      rcases hv with hv | hv
      · exact two (.inl hv)
      · rcases List.mem_cons.1 hv with hv | hv
        · exact two (.inr hv)
        · exact g2 v (.inr hv) h0
theorem of_all {m : M} {ws : List (List Int)} (h : ofE m ws = 0) : mval m = 0 ∧ OK (ofO m ws) ∧ (∀ u ∈ (ofO m ws).tr, u.no = outs m m.s u.ni ∧ wchk u.ni m.i = 0) ∧ (∀ w ∈ ws, wchk w m.i = 0 ∧ (0 < w.length → ∃ u ∈ (ofO m ws).tr, hp u.ni w = true)) := by
  have h' := h
  unfold ofE at h
  split at h
  · rename_i g; exact (g h).elim
  rename_i g
  obtain ⟨hm, h0⟩ := trs_ok g
  have eo : ofO m ws = ⟨m.i, (alR m.i [] (trsL m ws)).1⟩ := by
    unfold ofO alO; rw [if_neg (by omega), if_neg (by simp only; omega)]
  have hok := alR_ok h0 h
  obtain ⟨k1, k2⟩ := alR_mem h0 h
  have eL : trsL m ws = ws.map (trW m) := by rw [trsL, if_neg g]
  have hwc : ∀ w ∈ ws, wchk w m.i = 0 := fun w hw => by
    unfold trsE at g
    rw [if_neg (by omega)] at g
    split at g
    · exact (g (by decide)).elim
    obtain ⟨j, hj, rfl⟩ := mem_nth hw
    exact fe_zero_iff.1 (show fe (wcE m ws) 0 ws.length = 0 by omega) j (Nat.zero_le _) (by omega)
  rw [eo]
  refine ⟨hm, hok, fun u hu => ?_, fun w hw => ⟨hwc w hw, fun hl => ?_⟩⟩
  · rcases k1 u hu with q | q
    · cases q
    · rw [eL] at q
      obtain ⟨w, hw, rfl⟩ := List.mem_map.1 q
      exact ⟨rfl, hwc w hw⟩
  · exact k2 (trW m w) (.inr (by rw [eL]; exact List.mem_map_of_mem hw)) hl
theorem wchk_pre {w p : List Int} {n : Int} (h : wchk w n = 0) (e : hp w p = true) : wchk p n = 0 := by
  have h1 := wchk_ok h
  obtain ⟨x, rfl⟩ := hp_iff.1 e
  have hn : ¬(n < 1 ∨ 1024 < n) := fun q => by rw [wchk, if_pos q] at h; cases h
  refine wchk_zero (by omega) (by have := h1.1; simp at this; omega) fun k hk => ?_
  have := h1.2 k (by simp; omega)
  rwa [nth_app_l hk] at this
theorem exact_ans {m : M} {ws : List (List Int)} (h : ofE m ws = 0) {w x : List Int} (hx : ans (ofO m ws) w = some x) : frE m m.s w = 0 ∧ frOut m m.s w = x := by
  obtain ⟨hm, hok, h1, _⟩ := of_all h
  have key : wchk w m.i = 0 ∧ outs m m.s w = x := by
    unfold ans at hx
    split at hx
    · rename_i e; subst e; cases hx
      have := mval_ok hm
      exact ⟨wchk_zero ⟨this.1, by omega⟩ (by simp) (fun k hk => by simp at hk), rfl⟩
    · obtain ⟨u, hu, e, rfl⟩ := ansL_some hx
      obtain ⟨g1, g2⟩ := h1 u hu
      refine ⟨wchk_pre g2 e, ?_⟩
      rw [g1, ← outs_take]
      obtain ⟨y, hy⟩ := hp_iff.1 e
      rw [hy, List.take_left]
  have := frE_ok hm key.1
  have e2 := frE_val (w := w) hm
  exact ⟨by omega, by rw [this.2.1, key.2]⟩
theorem exact_cov {m : M} {ws : List (List Int)} (h : ofE m ws = 0) {w : List Int} (hw : w ∈ ws) : ∃ x, ans (ofO m ws) w = some x := by
  obtain ⟨_, _, _, h2⟩ := of_all h
  unfold ans
  split
  · exact ⟨_, rfl⟩
  · rename_i e
    obtain ⟨u, hu, g⟩ := (h2 w hw).2 (List.length_pos_iff.2 e)
    cases ha : ansL (ofO m ws).tr w with
    | none => rw [ansL_none ha u hu] at g; cases g
    | some x => exact ⟨x, rfl⟩
end Go.Proofs.Ytngkckefanbhgaa

namespace Go.Proofs.Ytngkckefanbhgaa
open Go Go.Proofs
theorem law14_pure (m : M) (ws : List (List Int)) (w : List Int) : PureC Try.prog 14 [(V.agg [(iV (m.i)), (iV (m.s)), (V.sl (List.map cL (m.nx))), (V.sl (List.map cL (m.ot)))]), (V.sl (List.map cL (ws))), (V.sl (List.map cI (w)))] (V.bool true) := by
 refine pure_of_Wb true 6 Try.func14 s14_ok (by kernel_rfl) (by simp [s14]) (by simp) (by simp) fun hB => ?_
 simp only [bnd_map, bnd_int, bnd_bool, bnd_str, bnd_agg, bnd_pp, bnd_nil, bnd_cons, implies_true, and_true, true_and] at hB
 unfold s14
 dsimp only
 refine W_seq_regc (fun T H => T 1 = (V.sl (List.map cL (ws))) ∧ T 2 = (V.sl (List.map cI (w))) ∧ T 3 = (V.mp 3 1 0 0) ∧ H 3 = (⟨1, true, false, 24, 4, [[(iV (m.i)), (iV (m.s)), (V.sl (List.map cL (m.nx))), (V.sl (List.map cL (m.ot)))]]⟩ : Blk) ∧ H 7 = (⟨0, false, false, 0, 0, []⟩ : Blk) ∧ True) ?_ ?_
 ·
  unfold r14_0
  refine R_box (i := 3) (n := 0) (m := 4) (cs := [(iV (m.i)), (iV (m.s)), (V.sl (List.map cL (m.nx))), (V.sl (List.map cL (m.ot)))]) rfl (congrArg Blk.ver rfl) (@rfl V (V.agg [(iV (m.i)), (iV (m.s)), (V.sl (List.map cL (m.nx))), (V.sl (List.map cL (m.ot)))])) rfl rfl ?_
  refine R_mv (@rfl V (V.bool false)) ?_
  exact R_nil ⟨rfl, rfl, rfl, rfl, rfl, trivial⟩
 intro T H ⟨t1, t2, t3, h3, h7, _⟩
 refine W_seq_seq ?_
 refine W_seq_regc (fun T H => T 1 = (V.sl (List.map cL (ws))) ∧ T 2 = (V.sl (List.map cI (w))) ∧ T 3 = (V.mp 3 1 0 0) ∧ T 16 = (V.bool (decide (60 < ws.length ∨ 40 < m.nx.length ∨ 20 < m.i ∨ fe (mnyE ws) 0 ws.length ≠ 0))) ∧ H 3 = (⟨1, true, false, 24, 4, [[(iV (m.i)), (iV (m.s)), (V.sl (List.map cL (m.nx))), (V.sl (List.map cL (m.ot)))]]⟩ : Blk) ∧ H 7 = (⟨0, false, false, 0, 0, []⟩ : Blk) ∧ True) ?_ ?_
 ·
  unfold r14_1
  refine R_load_mp (v := (V.agg [(iV (m.i)), (iV (m.s)), (V.sl (List.map cL (m.nx))), (V.sl (List.map cL (m.ot)))])) t3 h3 (by first | rfl | simp [ldB, ldV, Blk.own, V.one]) ?_
  refine R_mv t1 ?_
  refine R_call (evcons (@rfl V (V.agg [(iV (m.i)), (iV (m.s)), (V.sl (List.map cL (m.nx))), (V.sl (List.map cL (m.ot)))])) (evcons (@rfl V (V.sl (List.map cL (ws)))) evnil)) (many_pure m ws) (fzv_mapcanon _ _ (by simp [-List.map_take, -List.map_drop, -List.map_append, -List.map_reverse])) (by simp [-List.map_take, -List.map_drop, -List.map_append, -List.map_reverse]) (Or.inl (by simp [-List.map_take, -List.map_drop, -List.map_append, -List.map_reverse])) ?_
  exact R_nil ⟨t1, t2, t3, rfl, h3, h7, trivial⟩
 intro T H ⟨t1, t2, t3, t16, h3, h7, _⟩
 refine W_seq_if (p := 60 < ws.length ∨ 40 < m.nx.length ∨ 20 < m.i ∨ fe (mnyE ws) 0 ws.length ≠ 0) t16 (fun c1 => ?_) (fun c1 => ?_)
 ·
  refine W_seq_seq ?_
  refine W_seq_regc (fun T H => T 6 = (V.bool true) ∧ H 3 = (⟨1, true, false, 24, 4, [[(iV (m.i)), (iV (m.s)), (V.sl (List.map cL (m.nx))), (V.sl (List.map cL (m.ot)))]]⟩ : Blk) ∧ H 7 = (⟨0, false, false, 0, 0, []⟩ : Blk) ∧ True) ?_ ?_
  ·
   unfold r14_2
   refine R_call evnil (aw_learnerlaw16_awake_pure) (fzv_mapcanon _ _ (by simp [-List.map_take, -List.map_drop, -List.map_append, -List.map_reverse])) (by simp [-List.map_take, -List.map_drop, -List.map_append, -List.map_reverse]) (Or.inl (by simp [-List.map_take, -List.map_drop, -List.map_append, -List.map_reverse])) ?_
   refine R_mv (@rfl V (V.bool true)) ?_
   exact R_nil ⟨rfl, h3, h7, trivial⟩
  intro T H ⟨t6, h3, h7, _⟩
  refine W_seq_ret ?_
  refine Ret_1 t6 (fz_canon (by simp) rfl)
 refine W_seq_skip ?_
 refine W_seq_regc (fun T H => T 1 = (V.sl (List.map cL (ws))) ∧ T 2 = (V.sl (List.map cI (w))) ∧ T 3 = (V.mp 3 1 0 0) ∧ T 7 = (V.mp 7 1 0 0) ∧ T 8 = (iV (ofE m ws)) ∧ H 3 = (⟨1, true, false, 24, 4, [[(iV (m.i)), (iV (m.s)), (V.sl (List.map cL (m.nx))), (V.sl (List.map cL (m.ot)))]]⟩ : Blk) ∧ H 7 = (⟨1, true, false, 34, 2, [[(iV ((ofO m ws).i)), (V.sl (List.map cT ((ofO m ws).tr)))]]⟩ : Blk) ∧ True) ?_ ?_
 ·
  unfold r14_3
  refine R_load_mp (v := (V.agg [(iV (m.i)), (iV (m.s)), (V.sl (List.map cL (m.nx))), (V.sl (List.map cL (m.ot)))])) t3 h3 (by first | rfl | simp [ldB, ldV, Blk.own, V.one]) ?_
  refine R_mv t1 ?_
  refine R_call (evcons (@rfl V (V.agg [(iV (m.i)), (iV (m.s)), (V.sl (List.map cL (m.nx))), (V.sl (List.map cL (m.ot)))])) (evcons (@rfl V (V.sl (List.map cL (ws)))) evnil)) (oof_pure m ws) (fzv_mapcanon _ _ (by simp [-List.map_take, -List.map_drop, -List.map_append, -List.map_reverse])) (by simp [-List.map_take, -List.map_drop, -List.map_append, -List.map_reverse]) (Or.inl (by simp [-List.map_take, -List.map_drop, -List.map_append, -List.map_reverse])) ?_
  refine R_mv (@rfl V (V.tup [(V.agg [(iV ((ofO m ws).i)), (V.sl (List.map cT ((ofO m ws).tr)))]), (iV (ofE m ws))])) ?_
  refine R_ext (v := (V.agg [(iV ((ofO m ws).i)), (V.sl (List.map cT ((ofO m ws).tr)))])) (@rfl V (V.tup [(V.agg [(iV ((ofO m ws).i)), (V.sl (List.map cT ((ofO m ws).tr)))]), (iV (ofE m ws))])) rfl ?_
  refine R_ext (v := (iV (ofE m ws))) (@rfl V (V.tup [(V.agg [(iV ((ofO m ws).i)), (V.sl (List.map cT ((ofO m ws).tr)))]), (iV (ofE m ws))])) rfl ?_
  refine R_alloc (i := 7) (n := 0) (m := 2) rfl (congrArg Blk.ver h7) rfl ?_
  refine R_store (vs := [(iV ((ofO m ws).i)), (V.sl (List.map cT ((ofO m ws).tr)))]) (B' := (⟨1, true, false, 34, 2, [[(iV ((ofO m ws).i)), (V.sl (List.map cT ((ofO m ws).tr)))]]⟩ : Blk)) (@rfl V (V.mp 7 1 0 0)) (@rfl V (V.agg [(iV ((ofO m ws).i)), (V.sl (List.map cT ((ofO m ws).tr)))])) rfl (@rfl Blk (⟨1, true, false, 34, 2, [[(iV (0 : Int)), V.nilsl]]⟩ : Blk)) (by first | rfl | simp [stB, okB, Blk.own, putAt, V.one]) ?_
  refine R_mv (@rfl V (iV (ofE m ws))) ?_
  exact R_nil ⟨t1, t2, t3, rfl, rfl, h3, rfl, trivial⟩
 intro T H ⟨t1, t2, t3, t7, t8, h3, h7, _⟩
 refine W_seq_seq ?_
 refine W_seq_regc (fun T H => T 1 = (V.sl (List.map cL (ws))) ∧ T 2 = (V.sl (List.map cI (w))) ∧ T 3 = (V.mp 3 1 0 0) ∧ T 7 = (V.mp 7 1 0 0) ∧ T 25 = (V.bool (decide ((ofE m ws) ≠ (0 : Int)))) ∧ H 3 = (⟨1, true, false, 24, 4, [[(iV (m.i)), (iV (m.s)), (V.sl (List.map cL (m.nx))), (V.sl (List.map cL (m.ot)))]]⟩ : Blk) ∧ H 7 = (⟨1, true, false, 34, 2, [[(iV ((ofO m ws).i)), (V.sl (List.map cT ((ofO m ws).tr)))]]⟩ : Blk) ∧ True) ?_ ?_
 ·
  unfold r14_4
  refine R_mv t8 ?_
  refine R_neq (x := (ofE m ws)) (y := (0 : Int)) (@rfl V (iV (ofE m ws))) (@rfl V (iV (0 : Int))) ?_
  exact R_nil ⟨t1, t2, t3, t7, rfl, h3, h7, trivial⟩
 intro T H ⟨t1, t2, t3, t7, t25, h3, h7, _⟩
 refine W_seq_if (p := (ofE m ws) ≠ (0 : Int)) t25 (fun c2 => ?_) (fun c2 => ?_)
 ·
  have h0 := c2
  refine W_seq_seq ?_
  refine W_seq_regc (fun T H => T 6 = (V.bool (decide (((((ofO m ws).tr).length : Nat) : Int) = (0 : Int)))) ∧ H 3 = (⟨1, true, false, 24, 4, [[(iV (m.i)), (iV (m.s)), (V.sl (List.map cL (m.nx))), (V.sl (List.map cL (m.ot)))]]⟩ : Blk) ∧ H 7 = (⟨1, true, false, 34, 2, [[(iV ((ofO m ws).i)), (V.sl (List.map cT ((ofO m ws).tr)))]]⟩ : Blk) ∧ True) ?_ ?_
  ·
   unfold r14_5
   refine R_fld_mp (o' := 1) t7 h7 (by first | rfl | simp [okB, Blk.own]) rfl ?_
   refine R_load_mp (v := (V.sl (List.map cT ((ofO m ws).tr)))) (@rfl V (V.mp 7 1 0 1)) h7 (by first | rfl | simp [ldB, ldV, Blk.own, V.one]) ?_
   refine R_len (@rfl V (V.sl (List.map cT ((ofO m ws).tr)))) ?_
   refine R_eql (x := ((((ofO m ws).tr).length : Nat) : Int)) (y := (0 : Int)) (@rfl V (iV ((((ofO m ws).tr).length : Nat) : Int))) (@rfl V (iV (0 : Int))) ?_
   refine R_mv (@rfl V (V.bool (decide (((((ofO m ws).tr).length : Nat) : Int) = (0 : Int))))) ?_
   refine Ops_seg 2 (fun T H => T 32 = (V.bool (decide (((((ofO m ws).tr).length : Nat) : Int) = (0 : Int)))) ∧ H 3 = (⟨1, true, false, 24, 4, [[(iV (m.i)), (iV (m.s)), (V.sl (List.map cL (m.nx))), (V.sl (List.map cL (m.ot)))]]⟩ : Blk) ∧ H 7 = (⟨1, true, false, 34, 2, [[(iV ((ofO m ws).i)), (V.sl (List.map cT ((ofO m ws).tr)))]]⟩ : Blk) ∧ True) ?_ ?_
   ·
    by_cases g3 : ((((ofO m ws).tr).length : Nat) : Int) = (0 : Int)
    ·
     refine G_yes (Eq.trans (@rfl V (V.bool (decide (((((ofO m ws).tr).length : Nat) : Int) = (0 : Int))))) (bdT g3)) ?_
     refine R_call evnil (aw_learnerlaw16_awake_pure) (fzv_mapcanon _ _ (by simp [-List.map_take, -List.map_drop, -List.map_append, -List.map_reverse])) (by simp [-List.map_take, -List.map_drop, -List.map_append, -List.map_reverse]) (Or.inl (by simp [-List.map_take, -List.map_drop, -List.map_append, -List.map_reverse])) ?_
     refine R_pickT (Eq.trans (@rfl V (V.bool (decide (((((ofO m ws).tr).length : Nat) : Int) = (0 : Int))))) (bdT g3)) (@rfl V (V.bool true)) ?_
     exact ⟨(Eq.trans (@rfl V (V.bool true)) (dec_T g3)), h3, h7, trivial⟩
    ·
     refine G_no (Eq.trans (@rfl V (V.bool (decide (((((ofO m ws).tr).length : Nat) : Int) = (0 : Int))))) (bdF g3)) (by decide) ?_
     refine R_pickF (Eq.trans (@rfl V (V.bool (decide (((((ofO m ws).tr).length : Nat) : Int) = (0 : Int))))) (bdF g3)) (@rfl V (V.bool false)) ?_
     exact ⟨(Eq.trans (@rfl V (V.bool false)) (dec_F g3)), h3, h7, trivial⟩
   intro T H ⟨t32, h3, h7, _⟩
   refine R_mv t32 ?_
   exact R_nil ⟨rfl, h3, h7, trivial⟩
  intro T H ⟨t6, h3, h7, _⟩
  refine W_seq_ret ?_
  refine Ret_1 t6 (fz_bool ?_)
  · simp [ofO, h0]
 have h0 : ofE m ws = 0 := by omega
 refine W_seq_skip ?_
 refine W_seq_regc (fun T H => T 1 = (V.sl (List.map cL (ws))) ∧ T 2 = (V.sl (List.map cI (w))) ∧ T 3 = (V.mp 3 1 0 0) ∧ T 7 = (V.mp 7 1 0 0) ∧ T 9 = (V.sl (List.map cI ((ans ((ofO m ws)) w).getD []))) ∧ T 10 = (V.bool ((ans ((ofO m ws)) w).isSome)) ∧ H 3 = (⟨1, true, false, 24, 4, [[(iV (m.i)), (iV (m.s)), (V.sl (List.map cL (m.nx))), (V.sl (List.map cL (m.ot)))]]⟩ : Blk) ∧ H 7 = (⟨1, true, false, 34, 2, [[(iV ((ofO m ws).i)), (V.sl (List.map cT ((ofO m ws).tr)))]]⟩ : Blk) ∧ True) ?_ ?_
 ·
  unfold r14_6
  refine R_load_mp (v := (V.agg [(iV ((ofO m ws).i)), (V.sl (List.map cT ((ofO m ws).tr)))])) t7 h7 (by first | rfl | simp [ldB, ldV, Blk.own, V.one]) ?_
  refine R_mv t2 ?_
  refine R_call (evcons (@rfl V (V.agg [(iV ((ofO m ws).i)), (V.sl (List.map cT ((ofO m ws).tr)))])) (evcons (@rfl V (V.sl (List.map cI (w)))) evnil)) (answer_pure ((ofO m ws)) w (oval_of (of_all h0).2.1)) (fzv_mapcanon _ _ (by simp [-List.map_take, -List.map_drop, -List.map_append, -List.map_reverse])) (by simp [-List.map_take, -List.map_drop, -List.map_append, -List.map_reverse]) (Or.inl (by simp [-List.map_take, -List.map_drop, -List.map_append, -List.map_reverse])) ?_
  refine R_mv (@rfl V (V.tup [(V.sl (List.map cI ((ans ((ofO m ws)) w).getD []))), (V.bool ((ans ((ofO m ws)) w).isSome))])) ?_
  refine R_ext (v := (V.sl (List.map cI ((ans ((ofO m ws)) w).getD [])))) (@rfl V (V.tup [(V.sl (List.map cI ((ans ((ofO m ws)) w).getD []))), (V.bool ((ans ((ofO m ws)) w).isSome))])) rfl ?_
  refine R_ext (v := (V.bool ((ans ((ofO m ws)) w).isSome))) (@rfl V (V.tup [(V.sl (List.map cI ((ans ((ofO m ws)) w).getD []))), (V.bool ((ans ((ofO m ws)) w).isSome))])) rfl ?_
  refine R_mv (@rfl V (V.sl (List.map cI ((ans ((ofO m ws)) w).getD [])))) ?_
  refine R_mv (@rfl V (V.bool ((ans ((ofO m ws)) w).isSome))) ?_
  exact R_nil ⟨t1, t2, t3, t7, rfl, rfl, h3, h7, trivial⟩
 intro T H ⟨t1, t2, t3, t7, t9, t10, h3, h7, _⟩
 refine W_seq_regc (fun T H => T 1 = (V.sl (List.map cL (ws))) ∧ T 3 = (V.mp 3 1 0 0) ∧ T 7 = (V.mp 7 1 0 0) ∧ T 9 = (V.sl (List.map cI ((ans ((ofO m ws)) w).getD []))) ∧ T 10 = (V.bool ((ans ((ofO m ws)) w).isSome)) ∧ T 11 = (V.sl (List.map cI (frOut m m.s w))) ∧ T 12 = (iV (frE m m.s w)) ∧ H 3 = (⟨1, true, false, 24, 4, [[(iV (m.i)), (iV (m.s)), (V.sl (List.map cL (m.nx))), (V.sl (List.map cL (m.ot)))]]⟩ : Blk) ∧ H 7 = (⟨1, true, false, 34, 2, [[(iV ((ofO m ws).i)), (V.sl (List.map cT ((ofO m ws).tr)))]]⟩ : Blk) ∧ True) ?_ ?_
 ·
  unfold r14_7
  refine R_load_mp (v := (V.agg [(iV (m.i)), (iV (m.s)), (V.sl (List.map cL (m.nx))), (V.sl (List.map cL (m.ot)))])) t3 h3 (by first | rfl | simp [ldB, ldV, Blk.own, V.one]) ?_
  refine R_mv t2 ?_
  refine R_call (evcons (@rfl V (V.agg [(iV (m.i)), (iV (m.s)), (V.sl (List.map cL (m.nx))), (V.sl (List.map cL (m.ot)))])) (evcons (@rfl V (V.sl (List.map cI (w)))) evnil)) (mrun_pure m w) (fzv_mapcanon _ _ (by simp [-List.map_take, -List.map_drop, -List.map_append, -List.map_reverse])) (by simp [-List.map_take, -List.map_drop, -List.map_append, -List.map_reverse]) (Or.inl (by simp [-List.map_take, -List.map_drop, -List.map_append, -List.map_reverse])) ?_
  refine R_mv (@rfl V (V.tup [(V.sl (List.map cI (frOut m m.s w))), (iV (frE m m.s w))])) ?_
  refine R_ext (v := (V.sl (List.map cI (frOut m m.s w)))) (@rfl V (V.tup [(V.sl (List.map cI (frOut m m.s w))), (iV (frE m m.s w))])) rfl ?_
  refine R_ext (v := (iV (frE m m.s w))) (@rfl V (V.tup [(V.sl (List.map cI (frOut m m.s w))), (iV (frE m m.s w))])) rfl ?_
  refine R_mv (@rfl V (V.sl (List.map cI (frOut m m.s w)))) ?_
  refine R_mv (@rfl V (iV (frE m m.s w))) ?_
  exact R_nil ⟨t1, t3, t7, t9, t10, rfl, rfl, h3, h7, trivial⟩
 intro T H ⟨t1, t3, t7, t9, t10, t11, t12, h3, h7, _⟩
 refine W_seq_seq ?_
 refine W_seq_regc (fun T H => T 1 = (V.sl (List.map cL (ws))) ∧ T 3 = (V.mp 3 1 0 0) ∧ T 7 = (V.mp 7 1 0 0) ∧ T 55 = (V.bool ((((ans ((ofO m ws)) w).isSome) && decide (((frE m m.s w) ≠ (0 : Int)) ∨ (¬(((ans ((ofO m ws)) w).getD []) = (frOut m m.s w))))))) ∧ H 3 = (⟨1, true, false, 24, 4, [[(iV (m.i)), (iV (m.s)), (V.sl (List.map cL (m.nx))), (V.sl (List.map cL (m.ot)))]]⟩ : Blk) ∧ H 7 = (⟨1, true, false, 34, 2, [[(iV ((ofO m ws).i)), (V.sl (List.map cT ((ofO m ws).tr)))]]⟩ : Blk) ∧ True) ?_ ?_
 ·
  unfold r14_8
  refine R_mv t10 ?_
  refine R_mv (@rfl V (V.bool ((ans ((ofO m ws)) w).isSome))) ?_
  refine Ops_seg 9 (fun T H => T 1 = (V.sl (List.map cL (ws))) ∧ T 3 = (V.mp 3 1 0 0) ∧ T 7 = (V.mp 7 1 0 0) ∧ T 55 = (V.bool ((((ans ((ofO m ws)) w).isSome) && decide (((frE m m.s w) ≠ (0 : Int)) ∨ (¬(((ans ((ofO m ws)) w).getD []) = (frOut m m.s w))))))) ∧ H 3 = (⟨1, true, false, 24, 4, [[(iV (m.i)), (iV (m.s)), (V.sl (List.map cL (m.nx))), (V.sl (List.map cL (m.ot)))]]⟩ : Blk) ∧ H 7 = (⟨1, true, false, 34, 2, [[(iV ((ofO m ws).i)), (V.sl (List.map cT ((ofO m ws).tr)))]]⟩ : Blk) ∧ True) ?_ ?_
  ·
   by_cases g4 : ((ans ((ofO m ws)) w).isSome) = true
   ·
    refine G_yes (Eq.trans (@rfl V (V.bool ((ans ((ofO m ws)) w).isSome))) (bbT g4)) ?_
    refine R_mv t12 ?_
    refine G_yes (Eq.trans (@rfl V (V.bool ((ans ((ofO m ws)) w).isSome))) (bbT g4)) ?_
    refine R_neq (x := (frE m m.s w)) (y := (0 : Int)) (@rfl V (iV (frE m m.s w))) (@rfl V (iV (0 : Int))) ?_
    refine G_yes (Eq.trans (@rfl V (V.bool ((ans ((ofO m ws)) w).isSome))) (bbT g4)) ?_
    refine R_mv (@rfl V (V.bool (decide ((frE m m.s w) ≠ (0 : Int))))) ?_
    refine Ops_seg 5 (fun T H => T 1 = (V.sl (List.map cL (ws))) ∧ T 3 = (V.mp 3 1 0 0) ∧ T 7 = (V.mp 7 1 0 0) ∧ T 46 = (V.bool true) ∧ T 54 = (V.bool (decide (((frE m m.s w) ≠ (0 : Int)) ∨ (¬(((ans ((ofO m ws)) w).getD []) = (frOut m m.s w)))))) ∧ H 3 = (⟨1, true, false, 24, 4, [[(iV (m.i)), (iV (m.s)), (V.sl (List.map cL (m.nx))), (V.sl (List.map cL (m.ot)))]]⟩ : Blk) ∧ H 7 = (⟨1, true, false, 34, 2, [[(iV ((ofO m ws).i)), (V.sl (List.map cT ((ofO m ws).tr)))]]⟩ : Blk) ∧ True) ?_ ?_
    ·
     by_cases g5 : (frE m m.s w) ≠ (0 : Int)
     ·
      refine G_no (Eq.trans (@rfl V (V.bool (decide ((frE m m.s w) ≠ (0 : Int))))) (bdT g5)) (by decide) ?_
      refine G_no (Eq.trans (@rfl V (V.bool (decide ((frE m m.s w) ≠ (0 : Int))))) (bdT g5)) (by decide) ?_
      refine G_no (Eq.trans (@rfl V (V.bool (decide ((frE m m.s w) ≠ (0 : Int))))) (bdT g5)) (by decide) ?_
      refine G_no (Eq.trans (@rfl V (V.bool (decide ((frE m m.s w) ≠ (0 : Int))))) (bdT g5)) (by decide) ?_
      refine G_yes (Eq.trans (@rfl V (V.bool ((ans ((ofO m ws)) w).isSome))) (bbT g4)) ?_
      refine R_pickT (Eq.trans (@rfl V (V.bool (decide ((frE m m.s w) ≠ (0 : Int))))) (bdT g5)) (@rfl V (V.bool true)) ?_
      exact ⟨t1, t3, t7, (Eq.trans (@rfl V (V.bool ((ans ((ofO m ws)) w).isSome))) (bbT g4)), (Eq.trans (@rfl V (V.bool true)) (dec_orT g5)), h3, h7, trivial⟩
     ·
      refine G_yes (Eq.trans (@rfl V (V.bool (decide ((frE m m.s w) ≠ (0 : Int))))) (bdF g5)) ?_
      refine R_mv t9 ?_
      refine G_yes (Eq.trans (@rfl V (V.bool (decide ((frE m m.s w) ≠ (0 : Int))))) (bdF g5)) ?_
      refine R_mv t11 ?_
      refine G_yes (Eq.trans (@rfl V (V.bool (decide ((frE m m.s w) ≠ (0 : Int))))) (bdF g5)) ?_
      refine R_call (evcons (@rfl V (V.sl (List.map cI ((ans ((ofO m ws)) w).getD [])))) (evcons (@rfl V (V.sl (List.map cI (frOut m m.s w)))) evnil)) (ints_pure ((ans ((ofO m ws)) w).getD []) (frOut m m.s w)) (fzv_mapcanon _ _ (by simp [-List.map_take, -List.map_drop, -List.map_append, -List.map_reverse])) (by simp [-List.map_take, -List.map_drop, -List.map_append, -List.map_reverse]) (Or.inl (by simp [-List.map_take, -List.map_drop, -List.map_append, -List.map_reverse])) ?_
      refine G_yes (Eq.trans (@rfl V (V.bool (decide ((frE m m.s w) ≠ (0 : Int))))) (bdF g5)) ?_
      refine R_not (p := ((ans ((ofO m ws)) w).getD []) = (frOut m m.s w)) (@rfl V (V.bool (decide (((ans ((ofO m ws)) w).getD []) = (frOut m m.s w))))) ?_
      refine G_yes (Eq.trans (@rfl V (V.bool ((ans ((ofO m ws)) w).isSome))) (bbT g4)) ?_
      refine R_pickF (Eq.trans (@rfl V (V.bool (decide ((frE m m.s w) ≠ (0 : Int))))) (bdF g5)) (@rfl V (V.bool (decide (¬(((ans ((ofO m ws)) w).getD []) = (frOut m m.s w)))))) ?_
      exact ⟨t1, t3, t7, (Eq.trans (@rfl V (V.bool ((ans ((ofO m ws)) w).isSome))) (bbT g4)), (Eq.trans (@rfl V (V.bool (decide (¬(((ans ((ofO m ws)) w).getD []) = (frOut m m.s w)))))) (dec_orF g5)), h3, h7, trivial⟩
    intro T H ⟨t1, t3, t7, t46, t54, h3, h7, _⟩
    refine R_pickT t46 t54 ?_
    exact ⟨t1, t3, t7, (Eq.trans (@rfl V (V.bool (decide (((frE m m.s w) ≠ (0 : Int)) ∨ (¬(((ans ((ofO m ws)) w).getD []) = (frOut m m.s w))))))) (bandT g4)), h3, h7, trivial⟩
   ·
    refine G_no (Eq.trans (@rfl V (V.bool ((ans ((ofO m ws)) w).isSome))) (bbF g4)) (by decide) ?_
    refine G_no (Eq.trans (@rfl V (V.bool ((ans ((ofO m ws)) w).isSome))) (bbF g4)) (by decide) ?_
    refine G_no (Eq.trans (@rfl V (V.bool ((ans ((ofO m ws)) w).isSome))) (bbF g4)) (by decide) ?_
    refine G_raw (@rfl V (V.raw undef)) ?_
    refine G_raw (@rfl V (V.raw undef)) ?_
    refine G_raw (@rfl V (V.raw undef)) ?_
    refine G_raw (@rfl V (V.raw undef)) ?_
    refine G_no (Eq.trans (@rfl V (V.bool ((ans ((ofO m ws)) w).isSome))) (bbF g4)) (by decide) ?_
    refine R_pickF (Eq.trans (@rfl V (V.bool ((ans ((ofO m ws)) w).isSome))) (bbF g4)) (@rfl V (V.bool false)) ?_
    exact ⟨t1, t3, t7, (Eq.trans (@rfl V (V.bool false)) (bandF g4)), h3, h7, trivial⟩
  intro T H ⟨t1, t3, t7, t55, h3, h7, _⟩
  exact R_nil ⟨t1, t3, t7, t55, h3, h7, trivial⟩
 intro T H ⟨t1, t3, t7, t55, h3, h7, _⟩
 refine W_seq_ifb t55 (fun c6 => ?_) (fun c6 => ?_)
 · exfalso; cases ha : ans (ofO m ws) w with
 | none => simp [ha] at c6
 | some x =>
   obtain ⟨q1, q2⟩ := exact_ans h0 ha
   simp [ha, q1, q2] at c6
 refine W_seq_skip ?_
 refine W_seq_seq ?_
 refine W_seq_regc (fun T H => T 1 = (V.sl (List.map cL (ws))) ∧ T 3 = (V.mp 3 1 0 0) ∧ T 7 = (V.mp 7 1 0 0) ∧ T 13 = (iV (0 : Int)) ∧ H 3 = (⟨1, true, false, 24, 4, [[(iV (m.i)), (iV (m.s)), (V.sl (List.map cL (m.nx))), (V.sl (List.map cL (m.ot)))]]⟩ : Blk) ∧ H 7 = (⟨1, true, false, 34, 2, [[(iV ((ofO m ws).i)), (V.sl (List.map cT ((ofO m ws).tr)))]]⟩ : Blk) ∧ True) ?_ ?_
 ·
  unfold r14_10
  refine R_mv (@rfl V (iV (0 : Int))) ?_
  exact R_nil ⟨t1, t3, t7, rfl, h3, h7, trivial⟩
 intro T H ⟨t1, t3, t7, t13, h3, h7, _⟩
 refine W_seq_blockg fun Q7 n7 x7 y7 z7 => ?_
 refine W_loop (fun mm T H => ∃ (k : Nat), mm = ws.length - k ∧ T 1 = (V.sl (List.map cL (ws))) ∧ T 3 = (V.mp 3 1 0 0) ∧ T 7 = (V.mp 7 1 0 0) ∧ T 13 = (iV ((k : Nat) : Int)) ∧ H 3 = (⟨1, true, false, 24, 4, [[(iV (m.i)), (iV (m.s)), (V.sl (List.map cL (m.nx))), (V.sl (List.map cL (m.ot)))]]⟩ : Blk) ∧ H 7 = (⟨1, true, false, 34, 2, [[(iV ((ofO m ws).i)), (V.sl (List.map cT ((ofO m ws).tr)))]]⟩ : Blk) ∧ (k ≤ ws.length)) ?_ ?_
 ·
  refine ⟨_, 0, rfl, t1, t3, t7, (Eq.trans t13 (by first | rfl | simp)), h3, h7, ?_⟩
  · omega
 intro mm T H ⟨k, hmm, t1, t3, t7, t13, h3, h7, hk⟩ Q8 p18 p28 p38
 unfold b14_0
 refine W_seq_seq ?_
 refine W_seq_regc (fun T H => T 1 = (V.sl (List.map cL (ws))) ∧ T 3 = (V.mp 3 1 0 0) ∧ T 7 = (V.mp 7 1 0 0) ∧ T 13 = (iV ((k : Nat) : Int)) ∧ T 59 = (V.bool (decide (((k : Nat) : Int) < ((ws.length : Nat) : Int)))) ∧ H 3 = (⟨1, true, false, 24, 4, [[(iV (m.i)), (iV (m.s)), (V.sl (List.map cL (m.nx))), (V.sl (List.map cL (m.ot)))]]⟩ : Blk) ∧ H 7 = (⟨1, true, false, 34, 2, [[(iV ((ofO m ws).i)), (V.sl (List.map cT ((ofO m ws).tr)))]]⟩ : Blk) ∧ True) ?_ ?_
 ·
  unfold r14_11
  refine R_mv t13 ?_
  refine R_mv t1 ?_
  refine R_len (@rfl V (V.sl (List.map cL (ws)))) ?_
  refine R_lss (x := ((k : Nat) : Int)) (y := ((ws.length : Nat) : Int)) (@rfl V (iV ((k : Nat) : Int))) (@rfl V (iV ((ws.length : Nat) : Int))) ?_
  exact R_nil ⟨t1, t3, t7, t13, rfl, h3, h7, trivial⟩
 intro T H ⟨t1, t3, t7, t13, t59, h3, h7, _⟩
 refine W_seq_if (p := ((k : Nat) : Int) < ((ws.length : Nat) : Int)) t59 (fun c9 => ?_) (fun c9 => ?_)
 ·
  refine W_seq_skip ?_
  refine W_seq_blockg fun Q10 n10 x10 y10 z10 => ?_
  refine W_seq_regc (fun T H => T 1 = (V.sl (List.map cL (ws))) ∧ T 3 = (V.mp 3 1 0 0) ∧ T 7 = (V.mp 7 1 0 0) ∧ T 9 = (V.sl (List.map cI ((ans ((ofO m ws)) ((nth (ws) (k)))).getD []))) ∧ T 10 = (V.bool ((ans ((ofO m ws)) ((nth (ws) (k)))).isSome)) ∧ T 13 = (iV ((k : Nat) : Int)) ∧ H 3 = (⟨1, true, false, 24, 4, [[(iV (m.i)), (iV (m.s)), (V.sl (List.map cL (m.nx))), (V.sl (List.map cL (m.ot)))]]⟩ : Blk) ∧ H 7 = (⟨1, true, false, 34, 2, [[(iV ((ofO m ws).i)), (V.sl (List.map cT ((ofO m ws).tr)))]]⟩ : Blk) ∧ True) ?_ ?_
  ·
   unfold r14_13
   refine R_load_mp (v := (V.agg [(iV ((ofO m ws).i)), (V.sl (List.map cT ((ofO m ws).tr)))])) t7 h7 (by first | rfl | simp [ldB, ldV, Blk.own, V.one]) ?_
   refine R_mv t1 ?_
   refine R_mv t13 ?_
   refine R_idx (i := k) (@rfl V (V.sl (List.map cL (ws)))) (@rfl V (iV ((k : Nat) : Int))) (by omega) rfl ?_
   refine R_load_pp (v := (V.sl (List.map cI ((nth (ws) (k)))))) (@rfl V (V.pp [(V.sl (List.map cI ((nth (ws) (k)))))])) (by first | rfl | simp [ldV]) ?_
   refine R_call (evcons (@rfl V (V.agg [(iV ((ofO m ws).i)), (V.sl (List.map cT ((ofO m ws).tr)))])) (evcons (@rfl V (V.sl (List.map cI ((nth (ws) (k)))))) evnil)) (answer_pure ((ofO m ws)) ((nth (ws) (k))) (oval_of (of_all h0).2.1)) (fzv_mapcanon _ _ (by simp [-List.map_take, -List.map_drop, -List.map_append, -List.map_reverse])) (by simp [-List.map_take, -List.map_drop, -List.map_append, -List.map_reverse]) (Or.inl (by simp [-List.map_take, -List.map_drop, -List.map_append, -List.map_reverse])) ?_
   refine R_mv (@rfl V (V.tup [(V.sl (List.map cI ((ans ((ofO m ws)) ((nth (ws) (k)))).getD []))), (V.bool ((ans ((ofO m ws)) ((nth (ws) (k)))).isSome))])) ?_
   refine R_ext (v := (V.sl (List.map cI ((ans ((ofO m ws)) ((nth (ws) (k)))).getD [])))) (@rfl V (V.tup [(V.sl (List.map cI ((ans ((ofO m ws)) ((nth (ws) (k)))).getD []))), (V.bool ((ans ((ofO m ws)) ((nth (ws) (k)))).isSome))])) rfl ?_
   refine R_ext (v := (V.bool ((ans ((ofO m ws)) ((nth (ws) (k)))).isSome))) (@rfl V (V.tup [(V.sl (List.map cI ((ans ((ofO m ws)) ((nth (ws) (k)))).getD []))), (V.bool ((ans ((ofO m ws)) ((nth (ws) (k)))).isSome))])) rfl ?_
   refine R_mv (@rfl V (V.sl (List.map cI ((ans ((ofO m ws)) ((nth (ws) (k)))).getD [])))) ?_
   refine R_mv (@rfl V (V.bool ((ans ((ofO m ws)) ((nth (ws) (k)))).isSome))) ?_
   exact R_nil ⟨t1, t3, t7, rfl, rfl, t13, h3, h7, trivial⟩
  intro T H ⟨t1, t3, t7, t9, t10, t13, h3, h7, _⟩
  refine W_seq_regc (fun T H => T 1 = (V.sl (List.map cL (ws))) ∧ T 3 = (V.mp 3 1 0 0) ∧ T 7 = (V.mp 7 1 0 0) ∧ T 9 = (V.sl (List.map cI ((ans ((ofO m ws)) ((nth (ws) (k)))).getD []))) ∧ T 10 = (V.bool ((ans ((ofO m ws)) ((nth (ws) (k)))).isSome)) ∧ T 11 = (V.sl (List.map cI (frOut m m.s ((nth (ws) (k)))))) ∧ T 12 = (iV (frE m m.s ((nth (ws) (k))))) ∧ T 13 = (iV ((k : Nat) : Int)) ∧ H 3 = (⟨1, true, false, 24, 4, [[(iV (m.i)), (iV (m.s)), (V.sl (List.map cL (m.nx))), (V.sl (List.map cL (m.ot)))]]⟩ : Blk) ∧ H 7 = (⟨1, true, false, 34, 2, [[(iV ((ofO m ws).i)), (V.sl (List.map cT ((ofO m ws).tr)))]]⟩ : Blk) ∧ True) ?_ ?_
  ·
   unfold r14_14
   refine R_load_mp (v := (V.agg [(iV (m.i)), (iV (m.s)), (V.sl (List.map cL (m.nx))), (V.sl (List.map cL (m.ot)))])) t3 h3 (by first | rfl | simp [ldB, ldV, Blk.own, V.one]) ?_
   refine R_mv t1 ?_
   refine R_mv t13 ?_
   refine R_idx (i := k) (@rfl V (V.sl (List.map cL (ws)))) (@rfl V (iV ((k : Nat) : Int))) (by omega) rfl ?_
   refine R_load_pp (v := (V.sl (List.map cI ((nth (ws) (k)))))) (@rfl V (V.pp [(V.sl (List.map cI ((nth (ws) (k)))))])) (by first | rfl | simp [ldV]) ?_
   refine R_call (evcons (@rfl V (V.agg [(iV (m.i)), (iV (m.s)), (V.sl (List.map cL (m.nx))), (V.sl (List.map cL (m.ot)))])) (evcons (@rfl V (V.sl (List.map cI ((nth (ws) (k)))))) evnil)) (mrun_pure m ((nth (ws) (k)))) (fzv_mapcanon _ _ (by simp [-List.map_take, -List.map_drop, -List.map_append, -List.map_reverse])) (by simp [-List.map_take, -List.map_drop, -List.map_append, -List.map_reverse]) (Or.inl (by simp [-List.map_take, -List.map_drop, -List.map_append, -List.map_reverse])) ?_
   refine R_mv (@rfl V (V.tup [(V.sl (List.map cI (frOut m m.s ((nth (ws) (k)))))), (iV (frE m m.s ((nth (ws) (k)))))])) ?_
   refine R_ext (v := (V.sl (List.map cI (frOut m m.s ((nth (ws) (k))))))) (@rfl V (V.tup [(V.sl (List.map cI (frOut m m.s ((nth (ws) (k)))))), (iV (frE m m.s ((nth (ws) (k)))))])) rfl ?_
   refine R_ext (v := (iV (frE m m.s ((nth (ws) (k)))))) (@rfl V (V.tup [(V.sl (List.map cI (frOut m m.s ((nth (ws) (k)))))), (iV (frE m m.s ((nth (ws) (k)))))])) rfl ?_
   refine R_mv (@rfl V (V.sl (List.map cI (frOut m m.s ((nth (ws) (k))))))) ?_
   refine R_mv (@rfl V (iV (frE m m.s ((nth (ws) (k)))))) ?_
   exact R_nil ⟨t1, t3, t7, t9, t10, rfl, rfl, t13, h3, h7, trivial⟩
  intro T H ⟨t1, t3, t7, t9, t10, t11, t12, t13, h3, h7, _⟩
  refine W_seq_regc (fun T H => T 1 = (V.sl (List.map cL (ws))) ∧ T 3 = (V.mp 3 1 0 0) ∧ T 7 = (V.mp 7 1 0 0) ∧ T 13 = (iV ((k : Nat) : Int)) ∧ T 91 = (V.bool ((((((!(ans ((ofO m ws)) ((nth (ws) (k)))).isSome)) || decide ((frE m m.s ((nth (ws) (k)))) ≠ (0 : Int)))) || decide (¬(((ans ((ofO m ws)) ((nth (ws) (k)))).getD []) = (frOut m m.s ((nth (ws) (k))))))))) ∧ H 3 = (⟨1, true, false, 24, 4, [[(iV (m.i)), (iV (m.s)), (V.sl (List.map cL (m.nx))), (V.sl (List.map cL (m.ot)))]]⟩ : Blk) ∧ H 7 = (⟨1, true, false, 34, 2, [[(iV ((ofO m ws).i)), (V.sl (List.map cT ((ofO m ws).tr)))]]⟩ : Blk) ∧ True) ?_ ?_
  ·
   unfold r14_15
   refine R_mv t10 ?_
   refine R_notb (@rfl V (V.bool ((ans ((ofO m ws)) ((nth (ws) (k)))).isSome))) ?_
   refine R_mv (@rfl V (V.bool ((!(ans ((ofO m ws)) ((nth (ws) (k)))).isSome)))) ?_
   refine Ops_seg 3 (fun T H => T 1 = (V.sl (List.map cL (ws))) ∧ T 3 = (V.mp 3 1 0 0) ∧ T 7 = (V.mp 7 1 0 0) ∧ T 9 = (V.sl (List.map cI ((ans ((ofO m ws)) ((nth (ws) (k)))).getD []))) ∧ T 11 = (V.sl (List.map cI (frOut m m.s ((nth (ws) (k)))))) ∧ T 13 = (iV ((k : Nat) : Int)) ∧ T 85 = (V.bool ((((!(ans ((ofO m ws)) ((nth (ws) (k)))).isSome)) || decide ((frE m m.s ((nth (ws) (k)))) ≠ (0 : Int))))) ∧ H 3 = (⟨1, true, false, 24, 4, [[(iV (m.i)), (iV (m.s)), (V.sl (List.map cL (m.nx))), (V.sl (List.map cL (m.ot)))]]⟩ : Blk) ∧ H 7 = (⟨1, true, false, 34, 2, [[(iV ((ofO m ws).i)), (V.sl (List.map cT ((ofO m ws).tr)))]]⟩ : Blk) ∧ True) ?_ ?_
   ·
    by_cases g11 : ((!(ans ((ofO m ws)) ((nth (ws) (k)))).isSome)) = true
    ·
     refine G_no (Eq.trans (@rfl V (V.bool ((!(ans ((ofO m ws)) ((nth (ws) (k)))).isSome)))) (bbT g11)) (by decide) ?_
     refine G_no (Eq.trans (@rfl V (V.bool ((!(ans ((ofO m ws)) ((nth (ws) (k)))).isSome)))) (bbT g11)) (by decide) ?_
     refine R_pickT (Eq.trans (@rfl V (V.bool ((!(ans ((ofO m ws)) ((nth (ws) (k)))).isSome)))) (bbT g11)) (@rfl V (V.bool true)) ?_
     exact ⟨t1, t3, t7, t9, t11, t13, (Eq.trans (@rfl V (V.bool true)) (borT g11)), h3, h7, trivial⟩
    ·
     refine G_yes (Eq.trans (@rfl V (V.bool ((!(ans ((ofO m ws)) ((nth (ws) (k)))).isSome)))) (bbF g11)) ?_
     refine R_mv t12 ?_
     refine G_yes (Eq.trans (@rfl V (V.bool ((!(ans ((ofO m ws)) ((nth (ws) (k)))).isSome)))) (bbF g11)) ?_
     refine R_neq (x := (frE m m.s ((nth (ws) (k))))) (y := (0 : Int)) (@rfl V (iV (frE m m.s ((nth (ws) (k)))))) (@rfl V (iV (0 : Int))) ?_
     refine R_pickF (Eq.trans (@rfl V (V.bool ((!(ans ((ofO m ws)) ((nth (ws) (k)))).isSome)))) (bbF g11)) (@rfl V (V.bool (decide ((frE m m.s ((nth (ws) (k)))) ≠ (0 : Int))))) ?_
     exact ⟨t1, t3, t7, t9, t11, t13, (Eq.trans (@rfl V (V.bool (decide ((frE m m.s ((nth (ws) (k)))) ≠ (0 : Int))))) (borF g11)), h3, h7, trivial⟩
   intro T H ⟨t1, t3, t7, t9, t11, t13, t85, h3, h7, _⟩
   refine R_mv t85 ?_
   refine Ops_seg 5 (fun T H => T 1 = (V.sl (List.map cL (ws))) ∧ T 3 = (V.mp 3 1 0 0) ∧ T 7 = (V.mp 7 1 0 0) ∧ T 13 = (iV ((k : Nat) : Int)) ∧ T 91 = (V.bool ((((((!(ans ((ofO m ws)) ((nth (ws) (k)))).isSome)) || decide ((frE m m.s ((nth (ws) (k)))) ≠ (0 : Int)))) || decide (¬(((ans ((ofO m ws)) ((nth (ws) (k)))).getD []) = (frOut m m.s ((nth (ws) (k))))))))) ∧ H 3 = (⟨1, true, false, 24, 4, [[(iV (m.i)), (iV (m.s)), (V.sl (List.map cL (m.nx))), (V.sl (List.map cL (m.ot)))]]⟩ : Blk) ∧ H 7 = (⟨1, true, false, 34, 2, [[(iV ((ofO m ws).i)), (V.sl (List.map cT ((ofO m ws).tr)))]]⟩ : Blk) ∧ True) ?_ ?_
   ·
    by_cases g12 : ((((!(ans ((ofO m ws)) ((nth (ws) (k)))).isSome)) || decide ((frE m m.s ((nth (ws) (k)))) ≠ (0 : Int)))) = true
    ·
     refine G_no (Eq.trans (@rfl V (V.bool ((((!(ans ((ofO m ws)) ((nth (ws) (k)))).isSome)) || decide ((frE m m.s ((nth (ws) (k)))) ≠ (0 : Int)))))) (bbT g12)) (by decide) ?_
     refine G_no (Eq.trans (@rfl V (V.bool ((((!(ans ((ofO m ws)) ((nth (ws) (k)))).isSome)) || decide ((frE m m.s ((nth (ws) (k)))) ≠ (0 : Int)))))) (bbT g12)) (by decide) ?_
     refine G_no (Eq.trans (@rfl V (V.bool ((((!(ans ((ofO m ws)) ((nth (ws) (k)))).isSome)) || decide ((frE m m.s ((nth (ws) (k)))) ≠ (0 : Int)))))) (bbT g12)) (by decide) ?_
     refine G_no (Eq.trans (@rfl V (V.bool ((((!(ans ((ofO m ws)) ((nth (ws) (k)))).isSome)) || decide ((frE m m.s ((nth (ws) (k)))) ≠ (0 : Int)))))) (bbT g12)) (by decide) ?_
     refine R_pickT (Eq.trans (@rfl V (V.bool ((((!(ans ((ofO m ws)) ((nth (ws) (k)))).isSome)) || decide ((frE m m.s ((nth (ws) (k)))) ≠ (0 : Int)))))) (bbT g12)) (@rfl V (V.bool true)) ?_
     exact ⟨t1, t3, t7, t13, (Eq.trans (@rfl V (V.bool true)) (borT g12)), h3, h7, trivial⟩
    ·
     refine G_yes (Eq.trans (@rfl V (V.bool ((((!(ans ((ofO m ws)) ((nth (ws) (k)))).isSome)) || decide ((frE m m.s ((nth (ws) (k)))) ≠ (0 : Int)))))) (bbF g12)) ?_
     refine R_mv t9 ?_
     refine G_yes (Eq.trans (@rfl V (V.bool ((((!(ans ((ofO m ws)) ((nth (ws) (k)))).isSome)) || decide ((frE m m.s ((nth (ws) (k)))) ≠ (0 : Int)))))) (bbF g12)) ?_
     refine R_mv t11 ?_
     refine G_yes (Eq.trans (@rfl V (V.bool ((((!(ans ((ofO m ws)) ((nth (ws) (k)))).isSome)) || decide ((frE m m.s ((nth (ws) (k)))) ≠ (0 : Int)))))) (bbF g12)) ?_
     refine R_call (evcons (@rfl V (V.sl (List.map cI ((ans ((ofO m ws)) ((nth (ws) (k)))).getD [])))) (evcons (@rfl V (V.sl (List.map cI (frOut m m.s ((nth (ws) (k))))))) evnil)) (ints_pure ((ans ((ofO m ws)) ((nth (ws) (k)))).getD []) (frOut m m.s ((nth (ws) (k))))) (fzv_mapcanon _ _ (by simp [-List.map_take, -List.map_drop, -List.map_append, -List.map_reverse])) (by simp [-List.map_take, -List.map_drop, -List.map_append, -List.map_reverse]) (Or.inl (by simp [-List.map_take, -List.map_drop, -List.map_append, -List.map_reverse])) ?_
     refine G_yes (Eq.trans (@rfl V (V.bool ((((!(ans ((ofO m ws)) ((nth (ws) (k)))).isSome)) || decide ((frE m m.s ((nth (ws) (k)))) ≠ (0 : Int)))))) (bbF g12)) ?_
     refine R_not (p := ((ans ((ofO m ws)) ((nth (ws) (k)))).getD []) = (frOut m m.s ((nth (ws) (k))))) (@rfl V (V.bool (decide (((ans ((ofO m ws)) ((nth (ws) (k)))).getD []) = (frOut m m.s ((nth (ws) (k)))))))) ?_
     refine R_pickF (Eq.trans (@rfl V (V.bool ((((!(ans ((ofO m ws)) ((nth (ws) (k)))).isSome)) || decide ((frE m m.s ((nth (ws) (k)))) ≠ (0 : Int)))))) (bbF g12)) (@rfl V (V.bool (decide (¬(((ans ((ofO m ws)) ((nth (ws) (k)))).getD []) = (frOut m m.s ((nth (ws) (k))))))))) ?_
     exact ⟨t1, t3, t7, t13, (Eq.trans (@rfl V (V.bool (decide (¬(((ans ((ofO m ws)) ((nth (ws) (k)))).getD []) = (frOut m m.s ((nth (ws) (k))))))))) (borF g12)), h3, h7, trivial⟩
   intro T H ⟨t1, t3, t7, t13, t91, h3, h7, _⟩
   exact R_nil ⟨t1, t3, t7, t13, t91, h3, h7, trivial⟩
  intro T H ⟨t1, t3, t7, t13, t91, h3, h7, _⟩
  refine W_ifb t91 (fun c13 => ?_) (fun c13 => ?_)
  · exfalso; obtain ⟨x, ha⟩ := exact_cov h0 (nth_mem (show k < ws.length by omega)); obtain ⟨q1, q2⟩ := exact_ans h0 ha; simp [ha, q1, q2] at c13
  refine W_skip ?_
  refine n10 _ _ ?_
  refine .done ?_
  refine W_regc (fun T H => T 1 = (V.sl (List.map cL (ws))) ∧ T 3 = (V.mp 3 1 0 0) ∧ T 7 = (V.mp 7 1 0 0) ∧ T 13 = (iV ((k + 1 : Nat) : Int)) ∧ H 3 = (⟨1, true, false, 24, 4, [[(iV (m.i)), (iV (m.s)), (V.sl (List.map cL (m.nx))), (V.sl (List.map cL (m.ot)))]]⟩ : Blk) ∧ H 7 = (⟨1, true, false, 34, 2, [[(iV ((ofO m ws).i)), (V.sl (List.map cT ((ofO m ws).tr)))]]⟩ : Blk) ∧ True) ?_ ?_
  ·
   unfold r14_12
   refine R_mv t13 ?_
   refine R_addN (m := k) (n := 1) (@rfl V (iV ((k : Nat) : Int))) (@rfl V (iV ((1 : Nat) : Int))) (by omega) ?_
   refine R_mv (@rfl V (iV ((k + 1 : Nat) : Int))) ?_
   exact R_nil ⟨t1, t3, t7, rfl, h3, h7, trivial⟩
  intro T H ⟨t1, t3, t7, t13, h3, h7, _⟩
  refine p18 _ _ _ ?_ ⟨(k + 1), rfl, t1, t3, t7, (Eq.trans t13 (by first | rfl | simp)), h3, h7, ?_⟩
  · omega
  · omega
 refine W_seq_exit ?_
 refine p38 _ _ _ ?_
 refine x7 _ _ ?_
 refine .done ?_
 refine W_seq_regc (fun T H => T 6 = (V.bool true) ∧ H 3 = (⟨1, true, false, 24, 4, [[(iV (m.i)), (iV (m.s)), (V.sl (List.map cL (m.nx))), (V.sl (List.map cL (m.ot)))]]⟩ : Blk) ∧ H 7 = (⟨1, true, false, 34, 2, [[(iV ((ofO m ws).i)), (V.sl (List.map cT ((ofO m ws).tr)))]]⟩ : Blk) ∧ True) ?_ ?_
 ·
  unfold r14_17
  refine R_call evnil (aw_learnerlaw16_awake_pure) (fzv_mapcanon _ _ (by simp [-List.map_take, -List.map_drop, -List.map_append, -List.map_reverse])) (by simp [-List.map_take, -List.map_drop, -List.map_append, -List.map_reverse]) (Or.inl (by simp [-List.map_take, -List.map_drop, -List.map_append, -List.map_reverse])) ?_
  refine R_mv (@rfl V (V.bool true)) ?_
  exact R_nil ⟨rfl, h3, h7, trivial⟩
 intro T H ⟨t6, h3, h7, _⟩
 refine W_ret ?_
 refine Ret_1 t6 (fz_canon (by simp) rfl)
end Go.Proofs.Ytngkckefanbhgaa

namespace Go.Proofs.Ytngkckefanbhgaa
open Go Go.Proofs Go.Proofs.Ytngkckefanbhgaa Go.ChangeShapes Go.WideShapes Go.ChangeAt Go.RowKit
structure UT (P : Program) : Prop where
  u3 : P.underlying 3 = some (.int .i64)
  u22 : P.underlying 22 = some (.slice 35)
  u35 : P.underlying 35 = some (.slice 3)
  u24 : ∃ f0 f1 f2 f3 : Field, P.underlying 24 = some (.struct #[f0, f1, f2, f3]) ∧ f0.type = 3 ∧ f1.type = 3 ∧ f2.type = 22 ∧ f3.type = 22
theorem sh3 {P : Program} (U : UT P) (n : Nat) (vs : List V) (h : Shp P (n + 1) 3 vs) : ∃ a : Int, vs = cI a := shp_int U.u3 h
theorem sh35 {P : Program} (U : UT P) (n : Nat) (vs : List V) (h : Shp P (n + 2) 35 vs) : ∃ a : List Int, vs = cL a := shp_slice (f := cI) U.u35 (fun vs h => sh3 U n vs h) h
theorem sh22 {P : Program} (U : UT P) (n : Nat) (vs : List V) (h : Shp P (n + 3) 22 vs) : ∃ a : List (List Int), vs = (fun l => [V.sl (List.map cL l)]) a := shp_slice (f := cL) U.u22 (fun vs h => sh35 U n vs h) h
theorem sh24 {P : Program} (U : UT P) (n : Nat) (vs : List V) (h : Shp P (n + 4) 24 vs) : ∃ a : M, vs = mC a := by
  obtain ⟨f0, f1, f2, f3, hu, k0, k1, k2, k3⟩ := U.u24
  have h0 := shp_step hu h
  obtain ⟨x0, u0, e0, h1⟩ := shpL_cons (c := cI) (fun vs h => sh3 U (n + 2) vs (by rw [k0] at h; exact h)) h0
  obtain ⟨x1, u1, e1, h2⟩ := shpL_cons (c := cI) (fun vs h => sh3 U (n + 2) vs (by rw [k1] at h; exact h)) h1
  obtain ⟨x2, u2, e2, h3⟩ := shpL_cons (c := (fun l => [V.sl (List.map cL l)])) (fun vs h => sh22 U (n + 0) vs (by rw [k2] at h; exact h)) h2
  obtain ⟨x3, u3, e3, h4⟩ := shpL_cons (c := (fun l => [V.sl (List.map cL l)])) (fun vs h => sh22 U (n + 0) vs (by rw [k3] at h; exact h)) h3
  have e4 := shpL_nil h4
  exact ⟨⟨x0, x1, x2, x3⟩, by rw [e0, e1, e2, e3, e4]; rfl⟩
theorem ut : UT Try.prog := ⟨by kernel_rfl, by kernel_rfl, by kernel_rfl, ⟨_, _, _, _, Try.underlying24, rfl, rfl, rfl, rfl⟩⟩
theorem args14 {P : Program} (U : UT P) {us : List V} (h : ShpA P 5 [24, 22, 35] us) : ∃ (d0 : M) (d1 : List (List Int)) (d2 : List Int), us = [V.agg (mC d0), V.sl (List.map cL d1), V.sl (List.map cI d2)] := by
  obtain ⟨a0, b0, e0, h0, h⟩ := shpA_cons h
  obtain ⟨d0, g0⟩ := sh24 U 1 a0 h0
  have q0 : packV P 24 a0 = V.agg (mC d0) := by obtain ⟨_, _, _, _, hu, _⟩ := U.u24; rw [g0]; exact pack_struct hu _
  obtain ⟨a1, b1, e1, h1, h⟩ := shpA_cons h
  obtain ⟨d1, g1⟩ := sh22 U 2 a1 h1
  have q1 : packV P 22 a1 = V.sl (List.map cL d1) := by rw [g1]; exact pack_other (fun fs h => by rw [U.u22] at h; cases h)
  obtain ⟨a2, b2, e2, h2, h⟩ := shpA_cons h
  obtain ⟨d2, g2⟩ := sh35 U 3 a2 h2
  have q2 : packV P 35 a2 = V.sl (List.map cI d2) := by rw [g2]; exact pack_other (fun fs h => by rw [U.u35] at h; cases h)
  have e3 := shpA_nil h
  exact ⟨d0, d1, d2, by rw [e0, q0, e1, q1, e2, q2, e3]⟩
theorem own14 : ownKnob Try.prog.godebug = none := by kernel_rfl
set_option maxRecDepth 100000 in
theorem lifted14 (os : Os) (started : os.Started) (H : Type) (enc : TypeId × Value → H) :
    ReturnsInHanded {} Try.checked os 14 .any (Rows.observeExactSpec.pre6 enc Try.prog Try.f14 Rows.observeExactRow.domain false) (Rows.observeExactSpec.post enc Try.prog Try.f14 false true false false) := by
  refine returnsInHanded_of_change (C := Try.checked) own14 started (by kernel_rfl) Try.func14
    (ChangeSpec.witness6 (enc := enc) (C := Try.checked) false ⟨#[], #[.agg #[.int .i64 0, .int .i64 0, .slice none 0 0, .slice none 0 0], .slice none 0 0, .slice none 0 0], []⟩ 8 (by kernel_rfl) (by kernel_rfl) (by kernel_rfl) (by kernel_rfl)) ?_
  intro W base args ds gs before hval0 hW hcnd _
  refine law_post (n := 5) (tb := 4) (by kernel_rfl) (by kernel_rfl) (by kernel_rfl) (fun t ht => ?_) rfl ?_ (fun us hu => ?_) hval0 hW
  · have h : t ∈ [24, 22, 35] := ht
    simp only [List.mem_cons, List.not_mem_nil, or_false] at h
    rcases h with rfl | rfl | rfl
    · exact ⟨by kernel_rfl, by kernel_rfl, of_decide_eq_true (by kernel_rfl)⟩
    · exact ⟨by kernel_rfl, by kernel_rfl, of_decide_eq_true (by kernel_rfl)⟩
    · exact ⟨by kernel_rfl, by kernel_rfl, of_decide_eq_true (by kernel_rfl)⟩
  · obtain ⟨p, q, hA, hV, rfl, hfz, hnd⟩ := hW
    obtain ⟨rfl, rfl⟩ := trodVars_none hV
    change DataW.TrodAll enc Try.prog W 0 (fun _ => true) true [24, 22, 35] args.toList ds p at hA
    obtain ⟨v0, vs0, y0, ds0, pa0, pb0, hv0, rfl, rfl, _, hA⟩ := trodAll_cons hA
    obtain ⟨v1, vs1, y1, ds1, pa1, pb1, hv1, rfl, rfl, _, hA⟩ := trodAll_cons hA
    obtain ⟨v2, vs2, y2, ds2, pa2, pb2, hv2, rfl, rfl, _, hA⟩ := trodAll_cons hA
    obtain ⟨_, rfl, rfl⟩ := trodAll_nil hA
    rfl
  · obtain ⟨d0, d1, d2, rfl⟩ := args14 ut hu
    exact law14_pure d0 d1 d2
theorem proved14 : Rows.ObserveExactSaid :=
  OpenClaim.holds_of_wide 14 Try.f14 rfl rfl rfl rfl rfl rfl rfl ⟨rfl, rfl, rfl, rfl, rfl⟩ rfl rfl rfl rfl rfl (by kernel_rfl) Try.func14 (by kernel_rfl)
    (of_decide_eq_true (by kernel_rfl)) (by unfold Func.isWrapper; first | (rw [if_pos (by decide +kernel)]; kernel_rfl) | (rw [if_neg (by decide +kernel)]; exact ⟨rfl, rfl⟩))
    (fun os started H enc _ => lifted14 os started H enc)
end Go.Proofs.Ytngkckefanbhgaa

