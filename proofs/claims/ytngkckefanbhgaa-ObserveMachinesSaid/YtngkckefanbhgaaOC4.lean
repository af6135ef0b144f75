/- Contracts of the functions that the law OC reaches, and the law itself, for every input; no condition. -/
import Derived.KernelRfl
import Derived.Test.YtngkckefanbhgaaProg
import Derived.Test.YtngkckefanbhgaaRows
import Derived.Test.YtngkckefanbhgaaOC3
set_option linter.unusedSimpArgs false
set_option linter.unusedVariables false
namespace Go.Proofs.Ytngkckefanbhgaa
open Go Go.Proofs
def r35_0 : List SO := [
  ⟨none, some 2, .mv (.c (.nilsl))⟩]
def r35_1 : List SO := [
  ⟨none, some 3, .lazy 3 1⟩]
def r35_2 : List SO := [
  ⟨none, some 4, .mv (.c (.int .i64 0))⟩]
def r35_3 : List SO := [
  ⟨none, some 5, .mv (.t 4)⟩,
  ⟨none, some 6, .mv (.t 0)⟩,
  ⟨none, some 7, .len (.t 6)⟩,
  ⟨none, some 8, .bin .lss (.t 5) (.t 7)⟩]
def r35_5 : List SO := [
  ⟨none, some 11, .mv (.t 3)⟩,
  ⟨none, some 12, .mv (.t 0)⟩,
  ⟨none, some 13, .mv (.t 4)⟩,
  ⟨none, some 14, .idx 1 (.t 12) (.t 13)⟩,
  ⟨none, some 15, .load false 1 (.t 14)⟩,
  ⟨none, some 16, .append 3 1 8 (.t 11) (.t 15)⟩,
  ⟨none, some 3, .mv (.t 16)⟩]
def r35_4 : List SO := [
  ⟨none, some 9, .mv (.t 4)⟩,
  ⟨none, some 10, .bin .add (.t 9) (.c (.int .i64 1))⟩,
  ⟨none, some 4, .mv (.t 10)⟩]
def b35_0 : SC := .seq (.seq (.reg r35_3) (.cond (.t 8) (.skip) (.exit 0))) (.seq (.block 1 (.reg r35_5)) (.reg r35_4))
def r35_6 : List SO := [
  ⟨none, some 17, .mv (.t 3)⟩,
  ⟨none, some 2, .mv (.t 17)⟩]
def s35 : SF := ⟨18, [.tmp 2], .seq (.reg r35_0) (.seq (.reg r35_1) (.seq (.seq (.reg r35_2) (.block 0 (.loop b35_0))) (.seq (.reg r35_6) (.ret))))⟩
theorem s35_ok : slimF Try.prog ⟨[94, 102, 103, 108, 109, 116, 119, 121, 125], [3]⟩ Try.f35 = some s35 := by kernel_rfl
end Go.Proofs.Ytngkckefanbhgaa

namespace Go.Proofs.Ytngkckefanbhgaa
open Go Go.Proofs
theorem join_pure (l : List (List Int)) (hs : (cat l).length ≤ 17592186044416) : PureC Try.prog 35 [(V.sl (List.map cL (l)))] (V.sl (List.map cI (cat l))) := by
 refine pure_of_Wb true 6 Try.func35 s35_ok (by kernel_rfl) (by simp [s35]) (by simp) (by simp) fun hB => ?_
 simp only [bnd_map, bnd_int, bnd_bool, bnd_str, bnd_agg, bnd_pp, bnd_nil, bnd_cons, implies_true, and_true, true_and] at hB
 unfold s35
 dsimp only
 refine W_seq_regc (fun T H => T 0 = (V.sl (List.map cL (l))) ∧ H 3 = (⟨0, false, false, 0, 0, []⟩ : Blk) ∧ True) ?_ ?_
 ·
  unfold r35_0
  refine R_mv (@rfl V V.nilsl) ?_
  exact R_nil ⟨rfl, rfl, trivial⟩
 intro T H ⟨t0, h3, _⟩
 refine W_seq_regc (fun T H => T 0 = (V.sl (List.map cL (l))) ∧ T 3 = (V.ms 3 1 0 (0)) ∧ H 3 = (⟨1, true, true, 3, 1, []⟩ : Blk) ∧ True) ?_ ?_
 ·
  unfold r35_1
  refine R_lazy (i := 3) (n := 0) rfl (congrArg Blk.ver h3) ?_
  exact R_nil ⟨t0, rfl, rfl, trivial⟩
 intro T H ⟨t0, t3, h3, _⟩
 refine W_seq_seq ?_
 refine W_seq_regc (fun T H => T 0 = (V.sl (List.map cL (l))) ∧ T 3 = (V.ms 3 1 0 (0)) ∧ T 4 = (iV (0 : Int)) ∧ H 3 = (⟨1, true, true, 3, 1, []⟩ : Blk) ∧ True) ?_ ?_
 ·
  unfold r35_2
  refine R_mv (@rfl V (iV (0 : Int))) ?_
  exact R_nil ⟨t0, t3, rfl, h3, trivial⟩
 intro T H ⟨t0, t3, t4, h3, _⟩
 refine W_seq_blockg fun Q1 n1 x1 y1 z1 => ?_
 refine W_loop (fun mm T H => ∃ (k : Nat), mm = l.length - k ∧ T 0 = (V.sl (List.map cL (l))) ∧ T 3 = (V.ms 3 (1 + k) 0 ((cat (l.take k)).length)) ∧ T 4 = (iV ((k : Nat) : Int)) ∧ H 3 = (⟨1 + k, true, true, 3, 1, (List.map cI (cat (l.take k)))⟩ : Blk) ∧ (k ≤ l.length)) ?_ ?_
 ·
  refine ⟨_, 0, rfl, t0, (Eq.trans t3 (by first | rfl | (rw [cat_take (by omega), List.length_append]; rfl))), (Eq.trans t4 (by first | rfl | (rw [cat_take (by omega), List.length_append]; rfl))), (Eq.trans h3 (by first | rfl | (rw [cat_take (by omega)]; rfl))), ?_⟩
  · omega
 intro mm T H ⟨k, hmm, t0, t3, t4, h3, hk⟩ Q2 p12 p22 p32
 unfold b35_0
 refine W_seq_seq ?_
 refine W_seq_regc (fun T H => T 0 = (V.sl (List.map cL (l))) ∧ T 3 = (V.ms 3 (1 + k) 0 ((cat (l.take k)).length)) ∧ T 4 = (iV ((k : Nat) : Int)) ∧ T 8 = (V.bool (decide (((k : Nat) : Int) < ((l.length : Nat) : Int)))) ∧ H 3 = (⟨1 + k, true, true, 3, 1, (List.map cI (cat (l.take k)))⟩ : Blk) ∧ True) ?_ ?_
 ·
  unfold r35_3
  refine R_mv t4 ?_
  refine R_mv t0 ?_
  refine R_len (@rfl V (V.sl (List.map cL (l)))) ?_
  refine R_lss (x := ((k : Nat) : Int)) (y := ((l.length : Nat) : Int)) (@rfl V (iV ((k : Nat) : Int))) (@rfl V (iV ((l.length : Nat) : Int))) ?_
  exact R_nil ⟨t0, t3, t4, rfl, h3, trivial⟩
 intro T H ⟨t0, t3, t4, t8, h3, _⟩
 refine W_seq_if (p := ((k : Nat) : Int) < ((l.length : Nat) : Int)) t8 (fun c3 => ?_) (fun c3 => ?_)
 ·
  have hq := cat_take_le (l := l) (k := k) (by omega)
  refine W_seq_skip ?_
  refine W_seq_blockg fun Q4 n4 x4 y4 z4 => ?_
  refine W_regc (fun T H => T 0 = (V.sl (List.map cL (l))) ∧ T 3 = (V.ms 3 (1 + k + 1) 0 (((cat (l.take k)).length) + ((nth (l) (k))).length)) ∧ T 4 = (iV ((k : Nat) : Int)) ∧ H 3 = (⟨1 + k + 1, true, true, 3, 1, (List.map cI (cat (l.take k) ++ ((nth (l) (k)))))⟩ : Blk) ∧ True) ?_ ?_
  ·
   unfold r35_5
   refine R_mv t3 ?_
   refine R_mv t0 ?_
   refine R_mv t4 ?_
   refine R_idx (i := k) (@rfl V (V.sl (List.map cL (l)))) (@rfl V (iV ((k : Nat) : Int))) (by omega) rfl ?_
   refine R_load_pp (v := (V.sl (List.map cI ((nth (l) (k)))))) (@rfl V (V.pp [(V.sl (List.map cI ((nth (l) (k)))))])) (by first | rfl | simp [ldV]) ?_
   refine R_appendS (l := (cat (l.take k))) (m := ((nth (l) (k)))) (f := cI) (@rfl V (V.ms 3 (1 + k) 0 ((cat (l.take k)).length))) h3 (by first | rfl | simp) (@rfl V (V.sl (List.map cI ((nth (l) (k)))))) (fun _ => rfl) (fun _ => rfl) (by omega) (by omega) ?_
   refine R_mv (@rfl V (V.ms 3 (1 + k + 1) 0 (((cat (l.take k)).length) + ((nth (l) (k))).length))) ?_
   exact R_nil ⟨t0, rfl, t4, rfl, trivial⟩
  intro T H ⟨t0, t3, t4, h3, _⟩
  refine n4 _ _ ?_
  refine .done ?_
  refine W_regc (fun T H => T 0 = (V.sl (List.map cL (l))) ∧ T 3 = (V.ms 3 (1 + k + 1) 0 (((cat (l.take k)).length) + ((nth (l) (k))).length)) ∧ T 4 = (iV ((k + 1 : Nat) : Int)) ∧ H 3 = (⟨1 + k + 1, true, true, 3, 1, (List.map cI (cat (l.take k) ++ ((nth (l) (k)))))⟩ : Blk) ∧ True) ?_ ?_
  ·
   unfold r35_4
   refine R_mv t4 ?_
   refine R_addN (m := k) (n := 1) (@rfl V (iV ((k : Nat) : Int))) (@rfl V (iV ((1 : Nat) : Int))) (by omega) ?_
   refine R_mv (@rfl V (iV ((k + 1 : Nat) : Int))) ?_
   exact R_nil ⟨t0, t3, rfl, h3, trivial⟩
  intro T H ⟨t0, t3, t4, h3, _⟩
  refine p12 _ _ _ ?_ ⟨(k + 1), rfl, t0, (Eq.trans t3 (by first | rfl | (rw [cat_take (by omega), List.length_append]; rfl))), (Eq.trans t4 (by first | rfl | (rw [cat_take (by omega), List.length_append]; rfl))), (Eq.trans h3 (by first | rfl | (rw [cat_take (by omega)]; rfl))), ?_⟩
  · omega
  · omega
 refine W_seq_exit ?_
 refine p32 _ _ _ ?_
 refine x1 _ _ ?_
 refine .done ?_
 refine W_seq_regc (fun T H => T 2 = (V.ms 3 (1 + k) 0 ((cat (l.take k)).length)) ∧ H 3 = (⟨1 + k, true, true, 3, 1, (List.map cI (cat (l.take k)))⟩ : Blk) ∧ True) ?_ ?_
 ·
  unfold r35_6
  refine R_mv t3 ?_
  refine R_mv (@rfl V (V.ms 3 (1 + k) 0 ((cat (l.take k)).length))) ?_
  exact R_nil ⟨rfl, h3, trivial⟩
 intro T H ⟨t2, h3, _⟩
 refine W_ret ?_
 refine Ret_1 t2 (fz_ms h3 (by first | rfl | simp) (l := (cat (l.take k))) rfl (by first | rfl | simp) (fun _ => by simp) ?_)
 · (have e : k = l.length := (by omega); subst e; rw [List.take_length])
end Go.Proofs.Ytngkckefanbhgaa

namespace Go.Proofs.Ytngkckefanbhgaa
open Go Go.Proofs
theorem rcopied_pure (t : Tr) (hn1 : t.ni.length ≤ 1048576) (hn2 : t.no.length ≤ 1048576) : PureC Try.prog 112 [(V.agg [(V.sl (List.map cI (t.ni))), (V.sl (List.map cI (t.no)))])] (V.agg [(V.sl (List.map cI (t.ni))), (V.sl (List.map cI (t.no)))]) := by
 refine pure_of_Wb true 6 Try.func112 s112_ok (by kernel_rfl) (by simp [s112]) (by simp) (by simp) fun hB => ?_
 simp only [bnd_map, bnd_int, bnd_bool, bnd_str, bnd_agg, bnd_pp, bnd_nil, bnd_cons, implies_true, and_true, true_and] at hB
 unfold s112
 dsimp only
 refine W_seq_regc (fun T H => T 1 = (V.mp 1 1 0 0) ∧ T 2 = (V.mp 2 1 0 0) ∧ H 1 = (⟨1, true, false, 63, 2, [[(V.sl (List.map cI (t.ni))), (V.sl (List.map cI (t.no)))]]⟩ : Blk) ∧ H 2 = (⟨1, true, false, 63, 2, [[V.nilsl, V.nilsl]]⟩ : Blk) ∧ True) ?_ ?_
 ·
  unfold r112_0
  refine R_box (i := 1) (n := 0) (m := 2) (cs := [(V.sl (List.map cI (t.ni))), (V.sl (List.map cI (t.no)))]) rfl (congrArg Blk.ver rfl) (@rfl V (V.agg [(V.sl (List.map cI (t.ni))), (V.sl (List.map cI (t.no)))])) rfl rfl ?_
  refine R_alloc (i := 2) (n := 0) (m := 2) rfl (congrArg Blk.ver rfl) rfl ?_
  exact R_nil ⟨rfl, rfl, rfl, rfl, trivial⟩
 intro T H ⟨t1, t2, h1, h2, _⟩
 refine W_seq_regc (fun T H => T 2 = (V.mp 2 1 0 0) ∧ H 1 = (⟨1, true, false, 63, 2, [[(V.sl (List.map cI (t.ni))), (V.sl (List.map cI (t.no)))]]⟩ : Blk) ∧ H 2 = (⟨1, true, false, 63, 2, [[(V.sl (List.map cI (cat ([t.ni])))), (V.sl (List.map cI (cat ([t.no]))))]]⟩ : Blk) ∧ True) ?_ ?_
 ·
  unfold r112_1
  refine R_fld_mp (o' := 0) t1 h1 (by first | rfl | simp [okB, Blk.own]) rfl ?_
  refine R_load_mp (v := (V.sl (List.map cI (t.ni)))) (@rfl V (V.mp 1 1 0 0)) h1 (by first | rfl | simp [ldB, ldV, Blk.own, V.one]) ?_
  refine R_bslice (qs := [(0, (V.sl (List.map cI (t.ni))))]) (rows := [[(V.sl (List.map cI (t.ni)))]]) (mcons (congrArg (fun v => (0, v)) (@rfl V (V.sl (List.map cI (t.ni))))) rfl) rfl ?_
  refine R_call (evcons (@rfl V (V.sl [[(V.sl (List.map cI (t.ni)))]])) evnil) (join_pure ([t.ni]) (by simp [cat]; omega)) (fzv_mapcanon _ _ (by simp [-List.map_take, -List.map_drop, -List.map_append, -List.map_reverse])) (by simp [-List.map_take, -List.map_drop, -List.map_append, -List.map_reverse]) (Or.inl (by simp [-List.map_take, -List.map_drop, -List.map_append, -List.map_reverse])) ?_
  refine R_fld_mp (o' := 1) t1 h1 (by first | rfl | simp [okB, Blk.own]) rfl ?_
  refine R_load_mp (v := (V.sl (List.map cI (t.no)))) (@rfl V (V.mp 1 1 0 1)) h1 (by first | rfl | simp [ldB, ldV, Blk.own, V.one]) ?_
  refine R_bslice (qs := [(0, (V.sl (List.map cI (t.no))))]) (rows := [[(V.sl (List.map cI (t.no)))]]) (mcons (congrArg (fun v => (0, v)) (@rfl V (V.sl (List.map cI (t.no))))) rfl) rfl ?_
  refine R_call (evcons (@rfl V (V.sl [[(V.sl (List.map cI (t.no)))]])) evnil) (join_pure ([t.no]) (by simp [cat]; omega)) (fzv_mapcanon _ _ (by simp [-List.map_take, -List.map_drop, -List.map_append, -List.map_reverse])) (by simp [-List.map_take, -List.map_drop, -List.map_append, -List.map_reverse]) (Or.inl (by simp [-List.map_take, -List.map_drop, -List.map_append, -List.map_reverse])) ?_
  refine R_build (qs := [(0, 1, (V.sl (List.map cI (cat ([t.ni]))))), (1, 1, (V.sl (List.map cI (cat ([t.no])))))]) (cs := [(V.sl (List.map cI (cat ([t.ni])))), (V.sl (List.map cI (cat ([t.no]))))]) (mcons (congrArg (fun v => (0, 1, v)) (@rfl V (V.sl (List.map cI (cat ([t.ni])))))) (mcons (congrArg (fun v => (1, 1, v)) (@rfl V (V.sl (List.map cI (cat ([t.no])))))) rfl)) rfl ?_
  refine R_store (vs := [(V.sl (List.map cI (cat ([t.ni])))), (V.sl (List.map cI (cat ([t.no]))))]) (B' := (⟨1, true, false, 63, 2, [[(V.sl (List.map cI (cat ([t.ni])))), (V.sl (List.map cI (cat ([t.no]))))]]⟩ : Blk)) t2 (@rfl V (V.agg [(V.sl (List.map cI (cat ([t.ni])))), (V.sl (List.map cI (cat ([t.no]))))])) rfl h2 (by first | rfl | simp [stB, okB, Blk.own, putAt, V.one]) ?_
  exact R_nil ⟨t2, h1, rfl, trivial⟩
 intro T H ⟨t2, h1, h2, _⟩
 refine W_ret ?_
 refine RetC_1 (resV_c (u := (V.agg [(V.sl (List.map cI (cat ([t.ni])))), (V.sl (List.map cI (cat ([t.no]))))])) t2 h2 (by first | rfl | simp [ldB, ldV, Blk.own, V.one])) (fz_agg2 (fz_sl ?_ (fun _ => by simp)) (fz_sl ?_ (fun _ => by simp)))
 · simp [cat]
 · simp [cat]
end Go.Proofs.Ytngkckefanbhgaa

namespace Go.Proofs.Ytngkckefanbhgaa
open Go Go.Proofs
theorem radd_pure (o : Ob) (t : Tr) (hn1 : t.ni.length ≤ 1048576) (hn2 : t.no.length ≤ 1048576) (hbd : ∀ k, k < o.tr.length → (nth o.tr k).ni.length ≤ 1048576 ∧ (nth o.tr k).no.length ≤ 1048576) (hl : o.tr.length ≤ 1000000) : PureC Try.prog 86 [(V.agg [(iV (o.i)), (V.sl (List.map cT (o.tr)))]), (V.agg [(V.sl (List.map cI (t.ni))), (V.sl (List.map cI (t.no)))])] (V.agg [(iV (o.i)), (V.sl (List.map cT (raL o.tr t)))]) := by
 refine pure_of_Wb true 6 Try.func86 s86_ok (by kernel_rfl) (by simp [s86]) (by simp) (by simp) fun hB => ?_
 simp only [bnd_map, bnd_int, bnd_bool, bnd_str, bnd_agg, bnd_pp, bnd_nil, bnd_cons, implies_true, and_true, true_and] at hB
 unfold s86
 dsimp only
 refine W_seq_regc (fun T H => T 2 = (V.mp 2 1 0 0) ∧ T 3 = (V.mp 3 1 0 0) ∧ T 4 = (V.mp 4 1 0 0) ∧ H 2 = (⟨1, true, false, 34, 2, [[(iV (o.i)), (V.sl (List.map cT (o.tr)))]]⟩ : Blk) ∧ H 3 = (⟨1, true, false, 63, 2, [[(V.sl (List.map cI (t.ni))), (V.sl (List.map cI (t.no)))]]⟩ : Blk) ∧ H 4 = (⟨1, true, false, 34, 2, [[(iV (0 : Int)), V.nilsl]]⟩ : Blk) ∧ H 5 = (⟨0, false, false, 0, 0, []⟩ : Blk) ∧ H 9 = (⟨0, false, false, 0, 0, []⟩ : Blk) ∧ H 63 = (⟨0, false, false, 0, 0, []⟩ : Blk) ∧ True) ?_ ?_
 ·
  unfold r86_0
  refine R_box (i := 2) (n := 0) (m := 2) (cs := [(iV (o.i)), (V.sl (List.map cT (o.tr)))]) rfl (congrArg Blk.ver rfl) (@rfl V (V.agg [(iV (o.i)), (V.sl (List.map cT (o.tr)))])) rfl rfl ?_
  refine R_box (i := 3) (n := 0) (m := 2) (cs := [(V.sl (List.map cI (t.ni))), (V.sl (List.map cI (t.no)))]) rfl (congrArg Blk.ver rfl) (@rfl V (V.agg [(V.sl (List.map cI (t.ni))), (V.sl (List.map cI (t.no)))])) rfl rfl ?_
  refine R_alloc (i := 4) (n := 0) (m := 2) rfl (congrArg Blk.ver rfl) rfl ?_
  exact R_nil ⟨rfl, rfl, rfl, rfl, rfl, rfl, rfl, rfl, rfl, trivial⟩
 intro T H ⟨t2, t3, t4, h2, h3, h4, h5, h9, h63, _⟩
 refine W_seq_regc (fun T H => T 2 = (V.mp 2 1 0 0) ∧ T 3 = (V.mp 3 1 0 0) ∧ T 4 = (V.mp 4 1 0 0) ∧ T 5 = (V.mp 5 1 0 0) ∧ H 2 = (⟨1, true, false, 34, 2, [[(iV (o.i)), (V.sl (List.map cT (o.tr)))]]⟩ : Blk) ∧ H 3 = (⟨1, true, false, 63, 2, [[(V.sl (List.map cI (t.ni))), (V.sl (List.map cI (t.no)))]]⟩ : Blk) ∧ H 4 = (⟨1, true, false, 34, 2, [[(iV (0 : Int)), V.nilsl]]⟩ : Blk) ∧ H 5 = (⟨1, true, false, 34, 2, [[(iV (o.i)), V.nilsl]]⟩ : Blk) ∧ H 9 = (⟨0, false, false, 0, 0, []⟩ : Blk) ∧ H 63 = (⟨0, false, false, 0, 0, []⟩ : Blk) ∧ True) ?_ ?_
 ·
  unfold r86_1
  refine R_fld_mp (o' := 0) t2 h2 (by first | rfl | simp [okB, Blk.own]) rfl ?_
  refine R_load_mp (v := (iV (o.i))) (@rfl V (V.mp 2 1 0 0)) h2 (by first | rfl | simp [ldB, ldV, Blk.own, V.one]) ?_
  refine R_build (qs := [(0, 1, (iV (o.i)))]) (cs := [(iV (o.i)), V.nilsl]) (mcons (congrArg (fun v => (0, 1, v)) (@rfl V (iV (o.i)))) rfl) rfl ?_
  refine R_alloc (i := 5) (n := 0) (m := 2) rfl (congrArg Blk.ver h5) rfl ?_
  refine R_store (vs := [(iV (o.i)), V.nilsl]) (B' := (⟨1, true, false, 34, 2, [[(iV (o.i)), V.nilsl]]⟩ : Blk)) (@rfl V (V.mp 5 1 0 0)) (@rfl V (V.agg [(iV (o.i)), V.nilsl])) rfl (@rfl Blk (⟨1, true, false, 34, 2, [[(iV (0 : Int)), V.nilsl]]⟩ : Blk)) (by first | rfl | simp [stB, okB, Blk.own, putAt, V.one]) ?_
  exact R_nil ⟨t2, t3, t4, rfl, h2, h3, h4, rfl, h9, h63, trivial⟩
 intro T H ⟨t2, t3, t4, t5, h2, h3, h4, h5, h9, h63, _⟩
 refine W_seq_regc (fun T H => T 2 = (V.mp 2 1 0 0) ∧ T 3 = (V.mp 3 1 0 0) ∧ T 4 = (V.mp 4 1 0 0) ∧ T 5 = (V.mp 5 1 0 0) ∧ T 6 = (V.bool (decide (((t.ni.length : Nat) : Int) = (0 : Int)))) ∧ H 2 = (⟨1, true, false, 34, 2, [[(iV (o.i)), (V.sl (List.map cT (o.tr)))]]⟩ : Blk) ∧ H 3 = (⟨1, true, false, 63, 2, [[(V.sl (List.map cI (t.ni))), (V.sl (List.map cI (t.no)))]]⟩ : Blk) ∧ H 4 = (⟨1, true, false, 34, 2, [[(iV (0 : Int)), V.nilsl]]⟩ : Blk) ∧ H 5 = (⟨1, true, false, 34, 2, [[(iV (o.i)), V.nilsl]]⟩ : Blk) ∧ H 9 = (⟨0, false, false, 0, 0, []⟩ : Blk) ∧ H 63 = (⟨0, false, false, 0, 0, []⟩ : Blk) ∧ True) ?_ ?_
 ·
  unfold r86_2
  refine R_fld_mp (o' := 0) t3 h3 (by first | rfl | simp [okB, Blk.own]) rfl ?_
  refine R_load_mp (v := (V.sl (List.map cI (t.ni)))) (@rfl V (V.mp 3 1 0 0)) h3 (by first | rfl | simp [ldB, ldV, Blk.own, V.one]) ?_
  refine R_len (@rfl V (V.sl (List.map cI (t.ni)))) ?_
  refine R_eql (x := ((t.ni.length : Nat) : Int)) (y := (0 : Int)) (@rfl V (iV ((t.ni.length : Nat) : Int))) (@rfl V (iV (0 : Int))) ?_
  refine R_mv (@rfl V (V.bool (decide (((t.ni.length : Nat) : Int) = (0 : Int))))) ?_
  exact R_nil ⟨t2, t3, t4, t5, rfl, h2, h3, h4, h5, h9, h63, trivial⟩
 intro T H ⟨t2, t3, t4, t5, t6, h2, h3, h4, h5, h9, h63, _⟩
 refine W_seq_seq ?_
 refine W_seq_regc (fun T H => T 2 = (V.mp 2 1 0 0) ∧ T 3 = (V.mp 3 1 0 0) ∧ T 4 = (V.mp 4 1 0 0) ∧ T 5 = (V.mp 5 1 0 0) ∧ T 6 = (V.bool (decide (((t.ni.length : Nat) : Int) = (0 : Int)))) ∧ T 7 = (iV (0 : Int)) ∧ H 2 = (⟨1, true, false, 34, 2, [[(iV (o.i)), (V.sl (List.map cT (o.tr)))]]⟩ : Blk) ∧ H 3 = (⟨1, true, false, 63, 2, [[(V.sl (List.map cI (t.ni))), (V.sl (List.map cI (t.no)))]]⟩ : Blk) ∧ H 4 = (⟨1, true, false, 34, 2, [[(iV (0 : Int)), V.nilsl]]⟩ : Blk) ∧ H 5 = (⟨1, true, false, 34, 2, [[(iV (o.i)), V.nilsl]]⟩ : Blk) ∧ H 9 = (⟨0, false, false, 0, 0, []⟩ : Blk) ∧ H 63 = (⟨0, false, false, 0, 0, []⟩ : Blk) ∧ True) ?_ ?_
 ·
  unfold r86_3
  refine R_mv (@rfl V (iV (0 : Int))) ?_
  exact R_nil ⟨t2, t3, t4, t5, t6, rfl, h2, h3, h4, h5, h9, h63, trivial⟩
 intro T H ⟨t2, t3, t4, t5, t6, t7, h2, h3, h4, h5, h9, h63, _⟩
 refine W_seq_blockg fun Q1 n1 x1 y1 z1 => ?_
 refine W_loop (fun mm T H => ∃ (k : Nat), mm = o.tr.length - k ∧ T 2 = (V.mp 2 1 0 0) ∧ T 3 = (V.mp 3 1 0 0) ∧ T 4 = (V.mp 4 1 0 0) ∧ T 5 = (V.mp 5 1 0 0) ∧ T 6 = (V.bool (doA o.tr t k)) ∧ T 7 = (iV ((k : Nat) : Int)) ∧ H 2 = (⟨1, true, false, 34, 2, [[(iV (o.i)), (V.sl (List.map cT (o.tr)))]]⟩ : Blk) ∧ H 3 = (⟨1, true, false, 63, 2, [[(V.sl (List.map cI (t.ni))), (V.sl (List.map cI (t.no)))]]⟩ : Blk) ∧ H 4 = (⟨1, true, false, 34, 2, [[(iV (0 : Int)), V.nilsl]]⟩ : Blk) ∧ H 5 = (⟨1, true, false, 34, 2, [[(iV (o.i)), V.nilsl]]⟩ : Blk) ∧ H 9 = (⟨0, false, false, 0, 0, []⟩ : Blk) ∧ H 63 = (⟨0, false, false, 0, 0, []⟩ : Blk) ∧ (k ≤ o.tr.length)) ?_ ?_
 ·
  refine ⟨_, 0, rfl, t2, t3, t4, t5, (Eq.trans t6 (by first | rfl | (rw [raS_tt d1 d2]; done) | (rw [raS_tf d1 d2]; done) | (rw [raS_ft d1 d2]; done) | (rw [raS_ff d1 d2]; done) | (simp [doA]; done) | (have e : k = o.tr.length := (by omega); subst e; rfl))), (Eq.trans t7 (by first | rfl | (rw [raS_tt d1 d2]; done) | (rw [raS_tf d1 d2]; done) | (rw [raS_ft d1 d2]; done) | (rw [raS_ff d1 d2]; done) | (simp [doA]; done) | (have e : k = o.tr.length := (by omega); subst e; rfl))), h2, h3, h4, h5, h9, h63, ?_⟩
  · omega
 intro mm T H ⟨k, hmm, t2, t3, t4, t5, t6, t7, h2, h3, h4, h5, h9, h63, hk⟩ Q2 p12 p22 p32
 unfold b86_0
 refine W_seq_seq ?_
 refine W_seq_regc (fun T H => T 2 = (V.mp 2 1 0 0) ∧ T 3 = (V.mp 3 1 0 0) ∧ T 4 = (V.mp 4 1 0 0) ∧ T 5 = (V.mp 5 1 0 0) ∧ T 6 = (V.bool (doA o.tr t k)) ∧ T 7 = (iV ((k : Nat) : Int)) ∧ T 21 = (V.bool (decide (((k : Nat) : Int) < ((o.tr.length : Nat) : Int)))) ∧ H 2 = (⟨1, true, false, 34, 2, [[(iV (o.i)), (V.sl (List.map cT (o.tr)))]]⟩ : Blk) ∧ H 3 = (⟨1, true, false, 63, 2, [[(V.sl (List.map cI (t.ni))), (V.sl (List.map cI (t.no)))]]⟩ : Blk) ∧ H 4 = (⟨1, true, false, 34, 2, [[(iV (0 : Int)), V.nilsl]]⟩ : Blk) ∧ H 5 = (⟨1, true, false, 34, 2, [[(iV (o.i)), V.nilsl]]⟩ : Blk) ∧ H 9 = (⟨0, false, false, 0, 0, []⟩ : Blk) ∧ H 63 = (⟨0, false, false, 0, 0, []⟩ : Blk) ∧ True) ?_ ?_
 ·
  unfold r86_4
  refine R_mv t7 ?_
  refine R_fld_mp (o' := 1) t2 h2 (by first | rfl | simp [okB, Blk.own]) rfl ?_
  refine R_load_mp (v := (V.sl (List.map cT (o.tr)))) (@rfl V (V.mp 2 1 0 1)) h2 (by first | rfl | simp [ldB, ldV, Blk.own, V.one]) ?_
  refine R_len (@rfl V (V.sl (List.map cT (o.tr)))) ?_
  refine R_lss (x := ((k : Nat) : Int)) (y := ((o.tr.length : Nat) : Int)) (@rfl V (iV ((k : Nat) : Int))) (@rfl V (iV ((o.tr.length : Nat) : Int))) ?_
  exact R_nil ⟨t2, t3, t4, t5, t6, t7, rfl, h2, h3, h4, h5, h9, h63, trivial⟩
 intro T H ⟨t2, t3, t4, t5, t6, t7, t21, h2, h3, h4, h5, h9, h63, _⟩
 refine W_seq_if (p := ((k : Nat) : Int) < ((o.tr.length : Nat) : Int)) t21 (fun c3 => ?_) (fun c3 => ?_)
 ·
  refine W_seq_skip ?_
  refine W_seq_blockg fun Q4 n4 x4 y4 z4 => ?_
  refine W_regc (fun T H => T 2 = (V.mp 2 1 0 0) ∧ T 3 = (V.mp 3 1 0 0) ∧ T 4 = (V.mp 4 1 0 0) ∧ T 5 = (V.mp 5 1 0 0) ∧ T 6 = (V.bool (((doA o.tr t k) || (hp ((nth (o.tr) (k)).ni) t.ni)))) ∧ T 7 = (iV ((k : Nat) : Int)) ∧ H 2 = (⟨1, true, false, 34, 2, [[(iV (o.i)), (V.sl (List.map cT (o.tr)))]]⟩ : Blk) ∧ H 3 = (⟨1, true, false, 63, 2, [[(V.sl (List.map cI (t.ni))), (V.sl (List.map cI (t.no)))]]⟩ : Blk) ∧ H 4 = (⟨1, true, false, 34, 2, [[(iV (0 : Int)), V.nilsl]]⟩ : Blk) ∧ H 5 = (⟨1, true, false, 34, 2, [[(iV (o.i)), V.nilsl]]⟩ : Blk) ∧ H 9 = (⟨0, false, false, 0, 0, []⟩ : Blk) ∧ H 63 = (⟨0, false, false, 0, 0, []⟩ : Blk) ∧ True) ?_ ?_
  ·
   unfold r86_6
   refine R_mv t6 ?_
   refine R_mv (@rfl V (V.bool (doA o.tr t k))) ?_
   refine Ops_seg 10 (fun T H => T 2 = (V.mp 2 1 0 0) ∧ T 3 = (V.mp 3 1 0 0) ∧ T 4 = (V.mp 4 1 0 0) ∧ T 5 = (V.mp 5 1 0 0) ∧ T 6 = (V.bool (doA o.tr t k)) ∧ T 7 = (iV ((k : Nat) : Int)) ∧ T 35 = (V.bool (((doA o.tr t k) || (hp ((nth (o.tr) (k)).ni) t.ni)))) ∧ H 2 = (⟨1, true, false, 34, 2, [[(iV (o.i)), (V.sl (List.map cT (o.tr)))]]⟩ : Blk) ∧ H 3 = (⟨1, true, false, 63, 2, [[(V.sl (List.map cI (t.ni))), (V.sl (List.map cI (t.no)))]]⟩ : Blk) ∧ H 4 = (⟨1, true, false, 34, 2, [[(iV (0 : Int)), V.nilsl]]⟩ : Blk) ∧ H 5 = (⟨1, true, false, 34, 2, [[(iV (o.i)), V.nilsl]]⟩ : Blk) ∧ H 9 = (⟨0, false, false, 0, 0, []⟩ : Blk) ∧ H 63 = (⟨0, false, false, 0, 0, []⟩ : Blk) ∧ True) ?_ ?_
   ·
    by_cases g5 : (doA o.tr t k) = true
    ·
     refine G_no (Eq.trans (@rfl V (V.bool (doA o.tr t k))) (bbT g5)) (by decide) ?_
     refine G_no (Eq.trans (@rfl V (V.bool (doA o.tr t k))) (bbT g5)) (by decide) ?_
     refine G_no (Eq.trans (@rfl V (V.bool (doA o.tr t k))) (bbT g5)) (by decide) ?_
     refine G_no (Eq.trans (@rfl V (V.bool (doA o.tr t k))) (bbT g5)) (by decide) ?_
     refine G_no (Eq.trans (@rfl V (V.bool (doA o.tr t k))) (bbT g5)) (by decide) ?_
     refine G_no (Eq.trans (@rfl V (V.bool (doA o.tr t k))) (bbT g5)) (by decide) ?_
     refine G_no (Eq.trans (@rfl V (V.bool (doA o.tr t k))) (bbT g5)) (by decide) ?_
     refine G_no (Eq.trans (@rfl V (V.bool (doA o.tr t k))) (bbT g5)) (by decide) ?_
     refine G_no (Eq.trans (@rfl V (V.bool (doA o.tr t k))) (bbT g5)) (by decide) ?_
     refine R_pickT (Eq.trans (@rfl V (V.bool (doA o.tr t k))) (bbT g5)) (@rfl V (V.bool true)) ?_
     exact ⟨t2, t3, t4, t5, t6, t7, (Eq.trans (@rfl V (V.bool true)) (borT g5)), h2, h3, h4, h5, h9, h63, trivial⟩
    ·
     refine G_yes (Eq.trans (@rfl V (V.bool (doA o.tr t k))) (bbF g5)) ?_
     refine R_fld_mp (o' := 1) t2 h2 (by first | rfl | simp [okB, Blk.own]) rfl ?_
     refine G_yes (Eq.trans (@rfl V (V.bool (doA o.tr t k))) (bbF g5)) ?_
     refine R_load_mp (v := (V.sl (List.map cT (o.tr)))) (@rfl V (V.mp 2 1 0 1)) h2 (by first | rfl | simp [ldB, ldV, Blk.own, V.one]) ?_
     refine G_yes (Eq.trans (@rfl V (V.bool (doA o.tr t k))) (bbF g5)) ?_
     refine R_mv t7 ?_
     refine G_yes (Eq.trans (@rfl V (V.bool (doA o.tr t k))) (bbF g5)) ?_
     refine R_idx (i := k) (@rfl V (V.sl (List.map cT (o.tr)))) (@rfl V (iV ((k : Nat) : Int))) (by omega) rfl ?_
     refine G_yes (Eq.trans (@rfl V (V.bool (doA o.tr t k))) (bbF g5)) ?_
     refine R_fld_pp (cs' := [(V.sl (List.map cI ((nth (o.tr) (k)).ni))), (V.sl (List.map cI ((nth (o.tr) (k)).no)))]) (@rfl V (V.pp [(V.sl (List.map cI ((nth (o.tr) (k)).ni))), (V.sl (List.map cI ((nth (o.tr) (k)).no)))])) rfl ?_
     refine G_yes (Eq.trans (@rfl V (V.bool (doA o.tr t k))) (bbF g5)) ?_
     refine R_load_pp (v := (V.sl (List.map cI ((nth (o.tr) (k)).ni)))) (@rfl V (V.pp [(V.sl (List.map cI ((nth (o.tr) (k)).ni))), (V.sl (List.map cI ((nth (o.tr) (k)).no)))])) (by first | rfl | simp [ldV]) ?_
     refine G_yes (Eq.trans (@rfl V (V.bool (doA o.tr t k))) (bbF g5)) ?_
     refine R_fld_mp (o' := 0) t3 h3 (by first | rfl | simp [okB, Blk.own]) rfl ?_
     refine G_yes (Eq.trans (@rfl V (V.bool (doA o.tr t k))) (bbF g5)) ?_
     refine R_load_mp (v := (V.sl (List.map cI (t.ni)))) (@rfl V (V.mp 3 1 0 0)) h3 (by first | rfl | simp [ldB, ldV, Blk.own, V.one]) ?_
     refine G_yes (Eq.trans (@rfl V (V.bool (doA o.tr t k))) (bbF g5)) ?_
     refine R_call (evcons (@rfl V (V.sl (List.map cI ((nth (o.tr) (k)).ni)))) (evcons (@rfl V (V.sl (List.map cI (t.ni)))) evnil)) (rhp_pure ((nth (o.tr) (k)).ni) t.ni) (fzv_mapcanon _ _ (by simp [-List.map_take, -List.map_drop, -List.map_append, -List.map_reverse])) (by simp [-List.map_take, -List.map_drop, -List.map_append, -List.map_reverse]) (Or.inl (by simp [-List.map_take, -List.map_drop, -List.map_append, -List.map_reverse])) ?_
     refine R_pickF (Eq.trans (@rfl V (V.bool (doA o.tr t k))) (bbF g5)) (@rfl V (V.bool (hp ((nth (o.tr) (k)).ni) t.ni))) ?_
     exact ⟨t2, t3, t4, t5, t6, t7, (Eq.trans (@rfl V (V.bool (hp ((nth (o.tr) (k)).ni) t.ni))) (borF g5)), h2, h3, h4, h5, h9, h63, trivial⟩
   intro T H ⟨t2, t3, t4, t5, t6, t7, t35, h2, h3, h4, h5, h9, h63, _⟩
   refine R_mv t35 ?_
   exact R_nil ⟨t2, t3, t4, t5, rfl, t7, h2, h3, h4, h5, h9, h63, trivial⟩
  intro T H ⟨t2, t3, t4, t5, t6, t7, h2, h3, h4, h5, h9, h63, _⟩
  refine n4 _ _ ?_
  refine .done ?_
  refine W_regc (fun T H => T 2 = (V.mp 2 1 0 0) ∧ T 3 = (V.mp 3 1 0 0) ∧ T 4 = (V.mp 4 1 0 0) ∧ T 5 = (V.mp 5 1 0 0) ∧ T 6 = (V.bool (((doA o.tr t k) || (hp ((nth (o.tr) (k)).ni) t.ni)))) ∧ T 7 = (iV ((k + 1 : Nat) : Int)) ∧ H 2 = (⟨1, true, false, 34, 2, [[(iV (o.i)), (V.sl (List.map cT (o.tr)))]]⟩ : Blk) ∧ H 3 = (⟨1, true, false, 63, 2, [[(V.sl (List.map cI (t.ni))), (V.sl (List.map cI (t.no)))]]⟩ : Blk) ∧ H 4 = (⟨1, true, false, 34, 2, [[(iV (0 : Int)), V.nilsl]]⟩ : Blk) ∧ H 5 = (⟨1, true, false, 34, 2, [[(iV (o.i)), V.nilsl]]⟩ : Blk) ∧ H 9 = (⟨0, false, false, 0, 0, []⟩ : Blk) ∧ H 63 = (⟨0, false, false, 0, 0, []⟩ : Blk) ∧ True) ?_ ?_
  ·
   unfold r86_5
   refine R_mv t7 ?_
   refine R_addN (m := k) (n := 1) (@rfl V (iV ((k : Nat) : Int))) (@rfl V (iV ((1 : Nat) : Int))) (by omega) ?_
   refine R_mv (@rfl V (iV ((k + 1 : Nat) : Int))) ?_
   exact R_nil ⟨t2, t3, t4, t5, t6, rfl, h2, h3, h4, h5, h9, h63, trivial⟩
  intro T H ⟨t2, t3, t4, t5, t6, t7, h2, h3, h4, h5, h9, h63, _⟩
  refine p12 _ _ _ ?_ ⟨(k + 1), rfl, t2, t3, t4, t5, (Eq.trans t6 (by first | rfl | (rw [raS_tt d1 d2]; done) | (rw [raS_tf d1 d2]; done) | (rw [raS_ft d1 d2]; done) | (rw [raS_ff d1 d2]; done) | (simp [doA]; done) | (have e : k = o.tr.length := (by omega); subst e; rfl))), (Eq.trans t7 (by first | rfl | (rw [raS_tt d1 d2]; done) | (rw [raS_tf d1 d2]; done) | (rw [raS_ft d1 d2]; done) | (rw [raS_ff d1 d2]; done) | (simp [doA]; done) | (have e : k = o.tr.length := (by omega); subst e; rfl))), h2, h3, h4, h5, h9, h63, ?_⟩
  · omega
  · omega
 refine W_seq_exit ?_
 refine p32 _ _ _ ?_
 refine x1 _ _ ?_
 refine .done ?_
 refine W_seq_seq ?_
 refine W_seq_g (fun T H => T 2 = (V.mp 2 1 0 0) ∧ T 3 = (V.mp 3 1 0 0) ∧ T 4 = (V.mp 4 1 0 0) ∧ T 5 = (V.mp 5 1 0 0) ∧ T 6 = (V.bool (doA o.tr t k)) ∧ T 8 = (iV (0 : Int)) ∧ H 2 = (⟨1, true, false, 34, 2, [[(iV (o.i)), (V.sl (List.map cT (o.tr)))]]⟩ : Blk) ∧ H 3 = (⟨1, true, false, 63, 2, [[(V.sl (List.map cI (t.ni))), (V.sl (List.map cI (t.no)))]]⟩ : Blk) ∧ H 4 = (⟨1, true, false, 34, 2, [[(iV (0 : Int)), V.nilsl]]⟩ : Blk) ∧ H 5 = (⟨1, true, false, 34, 2, [[(iV (o.i)), V.nilsl]]⟩ : Blk) ∧ H 9 = (⟨0, false, false, 0, 0, []⟩ : Blk) ∧ H 63 = (⟨0, false, false, 0, 0, []⟩ : Blk) ∧ True) ?_ ?_
 ·
  unfold r86_7
  refine R_mv (@rfl V (iV (0 : Int))) ?_
  exact R_nil ⟨t2, t3, t4, t5, t6, rfl, h2, h3, h4, h5, h9, h63, trivial⟩
 intro T H ⟨t2, t3, t4, t5, t6, t8, h2, h3, h4, h5, h9, h63, _⟩
 refine .lazyCell 63 63 2 5 0 1 [(iV (o.i)), V.nilsl] (by decide) (by rw [h5]; rfl) (by rw [h5]; rfl) rfl (.done ?_)
 refine fork_ (R := fun T H => T 2 = (V.mp 2 1 0 0) ∧ T 3 = (V.mp 3 1 0 0) ∧ T 4 = (V.mp 4 1 0 0) ∧ T 5 = (V.mp 5 1 0 0) ∧ T 6 = (V.bool (doA o.tr t k)) ∧ T 8 = (iV (0 : Int)) ∧ H 2 = (⟨1, true, false, 34, 2, [[(iV (o.i)), (V.sl (List.map cT (o.tr)))]]⟩ : Blk) ∧ H 3 = (⟨1, true, false, 63, 2, [[(V.sl (List.map cI (t.ni))), (V.sl (List.map cI (t.no)))]]⟩ : Blk) ∧ H 4 = (⟨1, true, false, 34, 2, [[(iV (0 : Int)), V.nilsl]]⟩ : Blk) ∧ H 5 = (⟨1, true, false, 34, 2, [[(iV (o.i)), (V.ms 63 1 0 (0))]]⟩ : Blk) ∧ H 9 = (⟨0, false, false, 0, 0, []⟩ : Blk) ∧ H 63 = (⟨1, true, true, 63, 2, []⟩ : Blk) ∧ True) ⟨t2, t3, t4, t5, t6, t8, ((upd_ne _ _ (by decide)).trans ((upd_ne _ _ (by decide)).trans h2)), ((upd_ne _ _ (by decide)).trans ((upd_ne _ _ (by decide)).trans h3)), ((upd_ne _ _ (by decide)).trans ((upd_ne _ _ (by decide)).trans h4)), (by rw [upd_same, h5, (congrArg Blk.ver h63)]; rfl), ((upd_ne _ _ (by decide)).trans ((upd_ne _ _ (by decide)).trans h9)), (by rw [upd_ne _ _ (by decide), upd_same, (congrArg Blk.ver h63)]), trivial⟩ ?_
 clear t2 t3 t4 t5 t6 t8 h2 h3 h4 h5 h9 h63 T H
 intro T H ⟨t2, t3, t4, t5, t6, t8, h2, h3, h4, h5, h9, h63, _⟩
 refine W_seq_blockg fun Q6 n6 x6 y6 z6 => ?_
 refine W_loop (fun mm T H => ∃ (k : Nat) (w : Nat) (v9 : Nat), mm = o.tr.length - k ∧ T 2 = (V.mp 2 1 0 0) ∧ T 3 = (V.mp 3 1 0 0) ∧ T 4 = (V.mp 4 1 0 0) ∧ T 5 = (V.mp 5 1 0 0) ∧ T 6 = (V.bool ((raS o.tr t k).2)) ∧ T 8 = (iV ((k : Nat) : Int)) ∧ H 2 = (⟨1, true, false, 34, 2, [[(iV (o.i)), (V.sl (List.map cT (o.tr)))]]⟩ : Blk) ∧ H 3 = (⟨1, true, false, 63, 2, [[(V.sl (List.map cI (t.ni))), (V.sl (List.map cI (t.no)))]]⟩ : Blk) ∧ H 4 = (⟨1, true, false, 34, 2, [[(iV (0 : Int)), V.nilsl]]⟩ : Blk) ∧ H 5 = (⟨1, true, false, 34, 2, [[(iV (o.i)), (V.ms 63 w 0 ((raS o.tr t k).1.length))]]⟩ : Blk) ∧ (H 9).ver = v9 ∧ H 63 = (⟨w, true, true, 63, 2, (List.map cT ((raS o.tr t k).1))⟩ : Blk) ∧ (k ≤ o.tr.length)) ?_ ?_
 ·
  refine ⟨_, 0, 1, 0, rfl, t2, t3, t4, t5, (Eq.trans t6 (by first | rfl | (rw [raS_tt d1 d2]; done) | (rw [raS_tf d1 d2]; done) | (rw [raS_ft d1 d2]; done) | (rw [raS_ff d1 d2]; done) | (simp [doA]; done) | (have e : k = o.tr.length := (by omega); subst e; rfl))), (Eq.trans t8 (by first | rfl | (rw [raS_tt d1 d2]; done) | (rw [raS_tf d1 d2]; done) | (rw [raS_ft d1 d2]; done) | (rw [raS_ff d1 d2]; done) | (simp [doA]; done) | (have e : k = o.tr.length := (by omega); subst e; rfl))), h2, h3, h4, (Eq.trans h5 (by first | rfl | (rw [raS_tt d1 d2]; done) | (rw [raS_tt d1 d2]; simp; done) | (rw [raS_tf d1 d2]; done) | (rw [raS_tf d1 d2]; simp; done) | (rw [raS_ft d1 d2]; done) | (rw [raS_ft d1 d2]; simp; done) | (rw [raS_ff d1 d2]; done))), (congrArg Blk.ver h9), (Eq.trans h63 (by first | rfl | (rw [raS_tt d1 d2]; done) | (rw [raS_tt d1 d2]; simp; done) | (rw [raS_tf d1 d2]; done) | (rw [raS_tf d1 d2]; simp; done) | (rw [raS_ft d1 d2]; done) | (rw [raS_ft d1 d2]; simp; done) | (rw [raS_ff d1 d2]; done))), ?_⟩
  · omega
 intro mm T H ⟨k, w, v9, hmm, t2, t3, t4, t5, t6, t8, h2, h3, h4, h5, h9, h63, hk⟩ Q7 p17 p27 p37
 unfold b86_1
 have q1 := raS_len (l := o.tr) (t := t) k
 refine W_seq_seq ?_
 refine W_seq_regc (fun T H => T 2 = (V.mp 2 1 0 0) ∧ T 3 = (V.mp 3 1 0 0) ∧ T 4 = (V.mp 4 1 0 0) ∧ T 5 = (V.mp 5 1 0 0) ∧ T 6 = (V.bool ((raS o.tr t k).2)) ∧ T 8 = (iV ((k : Nat) : Int)) ∧ T 40 = (V.bool (decide (((k : Nat) : Int) < ((o.tr.length : Nat) : Int)))) ∧ H 2 = (⟨1, true, false, 34, 2, [[(iV (o.i)), (V.sl (List.map cT (o.tr)))]]⟩ : Blk) ∧ H 3 = (⟨1, true, false, 63, 2, [[(V.sl (List.map cI (t.ni))), (V.sl (List.map cI (t.no)))]]⟩ : Blk) ∧ H 4 = (⟨1, true, false, 34, 2, [[(iV (0 : Int)), V.nilsl]]⟩ : Blk) ∧ H 5 = (⟨1, true, false, 34, 2, [[(iV (o.i)), (V.ms 63 w 0 ((raS o.tr t k).1.length))]]⟩ : Blk) ∧ (H 9).ver = v9 ∧ H 63 = (⟨w, true, true, 63, 2, (List.map cT ((raS o.tr t k).1))⟩ : Blk) ∧ True) ?_ ?_
 ·
  unfold r86_8
  refine R_mv t8 ?_
  refine R_fld_mp (o' := 1) t2 h2 (by first | rfl | simp [okB, Blk.own]) rfl ?_
  refine R_load_mp (v := (V.sl (List.map cT (o.tr)))) (@rfl V (V.mp 2 1 0 1)) h2 (by first | rfl | simp [ldB, ldV, Blk.own, V.one]) ?_
  refine R_len (@rfl V (V.sl (List.map cT (o.tr)))) ?_
  refine R_lss (x := ((k : Nat) : Int)) (y := ((o.tr.length : Nat) : Int)) (@rfl V (iV ((k : Nat) : Int))) (@rfl V (iV ((o.tr.length : Nat) : Int))) ?_
  exact R_nil ⟨t2, t3, t4, t5, t6, t8, rfl, h2, h3, h4, h5, h9, h63, trivial⟩
 intro T H ⟨t2, t3, t4, t5, t6, t8, t40, h2, h3, h4, h5, h9, h63, _⟩
 refine W_seq_if (p := ((k : Nat) : Int) < ((o.tr.length : Nat) : Int)) t40 (fun c8 => ?_) (fun c8 => ?_)
 ·
  refine W_seq_skip ?_
  refine W_seq_blockg fun Q9 n9 x9 y9 z9 => ?_
  refine W_seq_regc (fun T H => T 2 = (V.mp 2 1 0 0) ∧ T 3 = (V.mp 3 1 0 0) ∧ T 4 = (V.mp 4 1 0 0) ∧ T 5 = (V.mp 5 1 0 0) ∧ T 6 = (V.bool ((raS o.tr t k).2)) ∧ T 8 = (iV ((k : Nat) : Int)) ∧ T 9 = (V.mp 9 (v9 + 1) 0 0) ∧ H 2 = (⟨1, true, false, 34, 2, [[(iV (o.i)), (V.sl (List.map cT (o.tr)))]]⟩ : Blk) ∧ H 3 = (⟨1, true, false, 63, 2, [[(V.sl (List.map cI (t.ni))), (V.sl (List.map cI (t.no)))]]⟩ : Blk) ∧ H 4 = (⟨1, true, false, 34, 2, [[(iV (0 : Int)), V.nilsl]]⟩ : Blk) ∧ H 5 = (⟨1, true, false, 34, 2, [[(iV (o.i)), (V.ms 63 w 0 ((raS o.tr t k).1.length))]]⟩ : Blk) ∧ H 9 = (⟨v9 + 1, true, false, 63, 2, [[(V.sl (List.map cI ((nth (o.tr) (k)).ni))), (V.sl (List.map cI ((nth (o.tr) (k)).no)))]]⟩ : Blk) ∧ H 63 = (⟨w, true, true, 63, 2, (List.map cT ((raS o.tr t k).1))⟩ : Blk) ∧ True) ?_ ?_
  ·
   unfold r86_10
   refine R_fld_mp (o' := 1) t2 h2 (by first | rfl | simp [okB, Blk.own]) rfl ?_
   refine R_load_mp (v := (V.sl (List.map cT (o.tr)))) (@rfl V (V.mp 2 1 0 1)) h2 (by first | rfl | simp [ldB, ldV, Blk.own, V.one]) ?_
   refine R_mv t8 ?_
   refine R_idx (i := k) (@rfl V (V.sl (List.map cT (o.tr)))) (@rfl V (iV ((k : Nat) : Int))) (by omega) rfl ?_
   refine R_load_pp (v := (V.agg [(V.sl (List.map cI ((nth (o.tr) (k)).ni))), (V.sl (List.map cI ((nth (o.tr) (k)).no)))])) (@rfl V (V.pp [(V.sl (List.map cI ((nth (o.tr) (k)).ni))), (V.sl (List.map cI ((nth (o.tr) (k)).no)))])) (by first | rfl | simp [ldV]) ?_
   refine R_alloc (i := 9) (n := v9) (m := 2) rfl h9 rfl ?_
   refine R_store (vs := [(V.sl (List.map cI ((nth (o.tr) (k)).ni))), (V.sl (List.map cI ((nth (o.tr) (k)).no)))]) (B' := (⟨v9 + 1, true, false, 63, 2, [[(V.sl (List.map cI ((nth (o.tr) (k)).ni))), (V.sl (List.map cI ((nth (o.tr) (k)).no)))]]⟩ : Blk)) (@rfl V (V.mp 9 (v9 + 1) 0 0)) (@rfl V (V.agg [(V.sl (List.map cI ((nth (o.tr) (k)).ni))), (V.sl (List.map cI ((nth (o.tr) (k)).no)))])) rfl (@rfl Blk (⟨v9 + 1, true, false, 63, 2, [[V.nilsl, V.nilsl]]⟩ : Blk)) (by first | rfl | simp [stB, okB, Blk.own, putAt, V.one]) ?_
   exact R_nil ⟨t2, t3, t4, t5, t6, t8, rfl, h2, h3, h4, h5, rfl, h63, trivial⟩
  intro T H ⟨t2, t3, t4, t5, t6, t8, t9, h2, h3, h4, h5, h9, h63, _⟩
  refine W_seq_seq ?_
  refine W_seq_regc (fun T H => T 2 = (V.mp 2 1 0 0) ∧ T 3 = (V.mp 3 1 0 0) ∧ T 4 = (V.mp 4 1 0 0) ∧ T 5 = (V.mp 5 1 0 0) ∧ T 6 = (V.bool ((raS o.tr t k).2)) ∧ T 8 = (iV ((k : Nat) : Int)) ∧ T 9 = (V.mp 9 (v9 + 1) 0 0) ∧ T 57 = (V.bool ((((!(raS o.tr t k).2)) && decide ((slx t.ni ((nth (o.tr) (k)).ni)) < (0 : Int))))) ∧ H 2 = (⟨1, true, false, 34, 2, [[(iV (o.i)), (V.sl (List.map cT (o.tr)))]]⟩ : Blk) ∧ H 3 = (⟨1, true, false, 63, 2, [[(V.sl (List.map cI (t.ni))), (V.sl (List.map cI (t.no)))]]⟩ : Blk) ∧ H 4 = (⟨1, true, false, 34, 2, [[(iV (0 : Int)), V.nilsl]]⟩ : Blk) ∧ H 5 = (⟨1, true, false, 34, 2, [[(iV (o.i)), (V.ms 63 w 0 ((raS o.tr t k).1.length))]]⟩ : Blk) ∧ H 9 = (⟨v9 + 1, true, false, 63, 2, [[(V.sl (List.map cI ((nth (o.tr) (k)).ni))), (V.sl (List.map cI ((nth (o.tr) (k)).no)))]]⟩ : Blk) ∧ H 63 = (⟨w, true, true, 63, 2, (List.map cT ((raS o.tr t k).1))⟩ : Blk) ∧ True) ?_ ?_
  ·
   unfold r86_11
   refine R_mv t6 ?_
   refine R_notb (@rfl V (V.bool ((raS o.tr t k).2))) ?_
   refine R_mv (@rfl V (V.bool ((!(raS o.tr t k).2)))) ?_
   refine Ops_seg 7 (fun T H => T 2 = (V.mp 2 1 0 0) ∧ T 3 = (V.mp 3 1 0 0) ∧ T 4 = (V.mp 4 1 0 0) ∧ T 5 = (V.mp 5 1 0 0) ∧ T 6 = (V.bool ((raS o.tr t k).2)) ∧ T 8 = (iV ((k : Nat) : Int)) ∧ T 9 = (V.mp 9 (v9 + 1) 0 0) ∧ T 57 = (V.bool ((((!(raS o.tr t k).2)) && decide ((slx t.ni ((nth (o.tr) (k)).ni)) < (0 : Int))))) ∧ H 2 = (⟨1, true, false, 34, 2, [[(iV (o.i)), (V.sl (List.map cT (o.tr)))]]⟩ : Blk) ∧ H 3 = (⟨1, true, false, 63, 2, [[(V.sl (List.map cI (t.ni))), (V.sl (List.map cI (t.no)))]]⟩ : Blk) ∧ H 4 = (⟨1, true, false, 34, 2, [[(iV (0 : Int)), V.nilsl]]⟩ : Blk) ∧ H 5 = (⟨1, true, false, 34, 2, [[(iV (o.i)), (V.ms 63 w 0 ((raS o.tr t k).1.length))]]⟩ : Blk) ∧ H 9 = (⟨v9 + 1, true, false, 63, 2, [[(V.sl (List.map cI ((nth (o.tr) (k)).ni))), (V.sl (List.map cI ((nth (o.tr) (k)).no)))]]⟩ : Blk) ∧ H 63 = (⟨w, true, true, 63, 2, (List.map cT ((raS o.tr t k).1))⟩ : Blk) ∧ True) ?_ ?_
   ·
    by_cases g10 : ((!(raS o.tr t k).2)) = true
    ·
     refine G_yes (Eq.trans (@rfl V (V.bool ((!(raS o.tr t k).2)))) (bbT g10)) ?_
     refine R_fld_mp (o' := 0) t3 h3 (by first | rfl | simp [okB, Blk.own]) rfl ?_
     refine G_yes (Eq.trans (@rfl V (V.bool ((!(raS o.tr t k).2)))) (bbT g10)) ?_
     refine R_load_mp (v := (V.sl (List.map cI (t.ni)))) (@rfl V (V.mp 3 1 0 0)) h3 (by first | rfl | simp [ldB, ldV, Blk.own, V.one]) ?_
     refine G_yes (Eq.trans (@rfl V (V.bool ((!(raS o.tr t k).2)))) (bbT g10)) ?_
     refine R_fld_mp (o' := 0) t9 h9 (by first | rfl | simp [okB, Blk.own]) rfl ?_
     refine G_yes (Eq.trans (@rfl V (V.bool ((!(raS o.tr t k).2)))) (bbT g10)) ?_
     refine R_load_mp (v := (V.sl (List.map cI ((nth (o.tr) (k)).ni)))) (@rfl V (V.mp 9 (v9 + 1) 0 0)) h9 (by first | rfl | simp [ldB, ldV, Blk.own, V.one]) ?_
     refine G_yes (Eq.trans (@rfl V (V.bool ((!(raS o.tr t k).2)))) (bbT g10)) ?_
     refine R_call (evcons (@rfl V (V.sl (List.map cI (t.ni)))) (evcons (@rfl V (V.sl (List.map cI ((nth (o.tr) (k)).ni)))) evnil)) (rcompare_pure t.ni ((nth (o.tr) (k)).ni)) (fzv_mapcanon _ _ (by simp [-List.map_take, -List.map_drop, -List.map_append, -List.map_reverse])) (by simp [-List.map_take, -List.map_drop, -List.map_append, -List.map_reverse]) (Or.inl (by simp [-List.map_take, -List.map_drop, -List.map_append, -List.map_reverse])) ?_
     refine G_yes (Eq.trans (@rfl V (V.bool ((!(raS o.tr t k).2)))) (bbT g10)) ?_
     refine R_lss (x := (slx t.ni ((nth (o.tr) (k)).ni))) (y := (0 : Int)) (@rfl V (iV (slx t.ni ((nth (o.tr) (k)).ni)))) (@rfl V (iV (0 : Int))) ?_
     refine R_pickT (Eq.trans (@rfl V (V.bool ((!(raS o.tr t k).2)))) (bbT g10)) (@rfl V (V.bool (decide ((slx t.ni ((nth (o.tr) (k)).ni)) < (0 : Int))))) ?_
     exact ⟨t2, t3, t4, t5, t6, t8, t9, (Eq.trans (@rfl V (V.bool (decide ((slx t.ni ((nth (o.tr) (k)).ni)) < (0 : Int))))) (bandT g10)), h2, h3, h4, h5, h9, h63, trivial⟩
    ·
     refine G_no (Eq.trans (@rfl V (V.bool ((!(raS o.tr t k).2)))) (bbF g10)) (by decide) ?_
     refine G_no (Eq.trans (@rfl V (V.bool ((!(raS o.tr t k).2)))) (bbF g10)) (by decide) ?_
     refine G_no (Eq.trans (@rfl V (V.bool ((!(raS o.tr t k).2)))) (bbF g10)) (by decide) ?_
     refine G_no (Eq.trans (@rfl V (V.bool ((!(raS o.tr t k).2)))) (bbF g10)) (by decide) ?_
     refine G_no (Eq.trans (@rfl V (V.bool ((!(raS o.tr t k).2)))) (bbF g10)) (by decide) ?_
     refine G_no (Eq.trans (@rfl V (V.bool ((!(raS o.tr t k).2)))) (bbF g10)) (by decide) ?_
     refine R_pickF (Eq.trans (@rfl V (V.bool ((!(raS o.tr t k).2)))) (bbF g10)) (@rfl V (V.bool false)) ?_
     exact ⟨t2, t3, t4, t5, t6, t8, t9, (Eq.trans (@rfl V (V.bool false)) (bandF g10)), h2, h3, h4, h5, h9, h63, trivial⟩
   intro T H ⟨t2, t3, t4, t5, t6, t8, t9, t57, h2, h3, h4, h5, h9, h63, _⟩
   exact R_nil ⟨t2, t3, t4, t5, t6, t8, t9, t57, h2, h3, h4, h5, h9, h63, trivial⟩
  intro T H ⟨t2, t3, t4, t5, t6, t8, t9, t57, h2, h3, h4, h5, h9, h63, _⟩
  refine W_seq_ifb t57 (fun c11 => ?_) (fun c11 => ?_)
  ·
   have d1 := c11
   refine W_seq_seq ?_
   refine W_seq_regc (fun T H => T 2 = (V.mp 2 1 0 0) ∧ T 3 = (V.mp 3 1 0 0) ∧ T 4 = (V.mp 4 1 0 0) ∧ T 5 = (V.mp 5 1 0 0) ∧ T 8 = (iV ((k : Nat) : Int)) ∧ T 9 = (V.mp 9 (v9 + 1) 0 0) ∧ H 2 = (⟨1, true, false, 34, 2, [[(iV (o.i)), (V.sl (List.map cT (o.tr)))]]⟩ : Blk) ∧ H 3 = (⟨1, true, false, 63, 2, [[(V.sl (List.map cI (t.ni))), (V.sl (List.map cI (t.no)))]]⟩ : Blk) ∧ H 4 = (⟨1, true, false, 34, 2, [[(iV (0 : Int)), V.nilsl]]⟩ : Blk) ∧ H 5 = (⟨1, true, false, 34, 2, [[(iV (o.i)), (V.ms 63 (w + 1) 0 (((raS o.tr t k).1.length) + 1))]]⟩ : Blk) ∧ H 9 = (⟨v9 + 1, true, false, 63, 2, [[(V.sl (List.map cI ((nth (o.tr) (k)).ni))), (V.sl (List.map cI ((nth (o.tr) (k)).no)))]]⟩ : Blk) ∧ H 63 = (⟨w + 1, true, true, 63, 2, (List.map cT ((raS o.tr t k).1 ++ [t]))⟩ : Blk) ∧ True) ?_ ?_
   ·
    unfold r86_12
    refine R_fld_mp (o' := 1) t5 h5 (by first | rfl | simp [okB, Blk.own]) rfl ?_
    refine R_load_mp (v := (V.ms 63 w 0 ((raS o.tr t k).1.length))) (@rfl V (V.mp 5 1 0 1)) h5 (by first | rfl | simp [ldB, ldV, Blk.own, V.one]) ?_
    refine R_load_mp (v := (V.agg [(V.sl (List.map cI (t.ni))), (V.sl (List.map cI (t.no)))])) t3 h3 (by first | rfl | simp [ldB, ldV, Blk.own, V.one]) ?_
    refine R_call (evcons (@rfl V (V.agg [(V.sl (List.map cI (t.ni))), (V.sl (List.map cI (t.no)))])) evnil) (rcopied_pure t hn1 hn2) (fzv_mapcanon _ _ (by simp [-List.map_take, -List.map_drop, -List.map_append, -List.map_reverse])) (by simp [-List.map_take, -List.map_drop, -List.map_append, -List.map_reverse]) (Or.inl (by simp [-List.map_take, -List.map_drop, -List.map_append, -List.map_reverse])) ?_
    refine R_bslice (qs := [(0, (V.agg [(V.sl (List.map cI (t.ni))), (V.sl (List.map cI (t.no)))]))]) (rows := [[(V.sl (List.map cI (t.ni))), (V.sl (List.map cI (t.no)))]]) (mcons (congrArg (fun v => (0, v)) (@rfl V (V.agg [(V.sl (List.map cI (t.ni))), (V.sl (List.map cI (t.no)))]))) rfl) rfl ?_
    refine R_append1 (l := ((raS o.tr t k).1)) (f := cT) (x := t) (@rfl V (V.ms 63 w 0 ((raS o.tr t k).1.length))) h63 (by first | rfl | simp | omega) (@rfl V (V.sl [[(V.sl (List.map cI (t.ni))), (V.sl (List.map cI (t.no)))]])) rfl rfl (by omega) (by omega) ?_
    refine R_fld_mp (o' := 1) t5 h5 (by first | rfl | simp [okB, Blk.own]) rfl ?_
    refine R_store (vs := [(V.ms 63 (w + 1) 0 (((raS o.tr t k).1.length) + 1))]) (B' := (⟨1, true, false, 34, 2, [[(iV (o.i)), (V.ms 63 (w + 1) 0 (((raS o.tr t k).1.length) + 1))]]⟩ : Blk)) (@rfl V (V.mp 5 1 0 1)) (@rfl V (V.ms 63 (w + 1) 0 (((raS o.tr t k).1.length) + 1))) rfl h5 (by first | rfl | simp [stB, okB, Blk.own, putAt, V.one]) ?_
    exact R_nil ⟨t2, t3, t4, t5, t8, t9, h2, h3, h4, rfl, h9, rfl, trivial⟩
   intro T H ⟨t2, t3, t4, t5, t8, t9, h2, h3, h4, h5, h9, h63, _⟩
   refine W_seq_regc (fun T H => T 2 = (V.mp 2 1 0 0) ∧ T 3 = (V.mp 3 1 0 0) ∧ T 4 = (V.mp 4 1 0 0) ∧ T 5 = (V.mp 5 1 0 0) ∧ T 6 = (V.bool true) ∧ T 8 = (iV ((k : Nat) : Int)) ∧ T 9 = (V.mp 9 (v9 + 1) 0 0) ∧ H 2 = (⟨1, true, false, 34, 2, [[(iV (o.i)), (V.sl (List.map cT (o.tr)))]]⟩ : Blk) ∧ H 3 = (⟨1, true, false, 63, 2, [[(V.sl (List.map cI (t.ni))), (V.sl (List.map cI (t.no)))]]⟩ : Blk) ∧ H 4 = (⟨1, true, false, 34, 2, [[(iV (0 : Int)), V.nilsl]]⟩ : Blk) ∧ H 5 = (⟨1, true, false, 34, 2, [[(iV (o.i)), (V.ms 63 (w + 1) 0 (((raS o.tr t k).1.length) + 1))]]⟩ : Blk) ∧ H 9 = (⟨v9 + 1, true, false, 63, 2, [[(V.sl (List.map cI ((nth (o.tr) (k)).ni))), (V.sl (List.map cI ((nth (o.tr) (k)).no)))]]⟩ : Blk) ∧ H 63 = (⟨w + 1, true, true, 63, 2, (List.map cT ((raS o.tr t k).1 ++ [t]))⟩ : Blk) ∧ True) ?_ ?_
   ·
    unfold r86_13
    refine R_mv (@rfl V (V.bool true)) ?_
    exact R_nil ⟨t2, t3, t4, t5, rfl, t8, t9, h2, h3, h4, h5, h9, h63, trivial⟩
   intro T H ⟨t2, t3, t4, t5, t6, t8, t9, h2, h3, h4, h5, h9, h63, _⟩
   refine W_seq_regc (fun T H => T 2 = (V.mp 2 1 0 0) ∧ T 3 = (V.mp 3 1 0 0) ∧ T 4 = (V.mp 4 1 0 0) ∧ T 5 = (V.mp 5 1 0 0) ∧ T 6 = (V.bool true) ∧ T 8 = (iV ((k : Nat) : Int)) ∧ T 9 = (V.mp 9 (v9 + 1) 0 0) ∧ T 79 = (V.bool ((((!hp t.ni ((nth (o.tr) (k)).ni))) || decide (((t.ni.length : Nat) : Int) = ((((nth (o.tr) (k)).ni).length : Nat) : Int))))) ∧ H 2 = (⟨1, true, false, 34, 2, [[(iV (o.i)), (V.sl (List.map cT (o.tr)))]]⟩ : Blk) ∧ H 3 = (⟨1, true, false, 63, 2, [[(V.sl (List.map cI (t.ni))), (V.sl (List.map cI (t.no)))]]⟩ : Blk) ∧ H 4 = (⟨1, true, false, 34, 2, [[(iV (0 : Int)), V.nilsl]]⟩ : Blk) ∧ H 5 = (⟨1, true, false, 34, 2, [[(iV (o.i)), (V.ms 63 (w + 1) 0 (((raS o.tr t k).1.length) + 1))]]⟩ : Blk) ∧ H 9 = (⟨v9 + 1, true, false, 63, 2, [[(V.sl (List.map cI ((nth (o.tr) (k)).ni))), (V.sl (List.map cI ((nth (o.tr) (k)).no)))]]⟩ : Blk) ∧ H 63 = (⟨w + 1, true, true, 63, 2, (List.map cT ((raS o.tr t k).1 ++ [t]))⟩ : Blk) ∧ True) ?_ ?_
   ·
    unfold r86_14
    refine R_fld_mp (o' := 0) t3 h3 (by first | rfl | simp [okB, Blk.own]) rfl ?_
    refine R_load_mp (v := (V.sl (List.map cI (t.ni)))) (@rfl V (V.mp 3 1 0 0)) h3 (by first | rfl | simp [ldB, ldV, Blk.own, V.one]) ?_
    refine R_fld_mp (o' := 0) t9 h9 (by first | rfl | simp [okB, Blk.own]) rfl ?_
    refine R_load_mp (v := (V.sl (List.map cI ((nth (o.tr) (k)).ni)))) (@rfl V (V.mp 9 (v9 + 1) 0 0)) h9 (by first | rfl | simp [ldB, ldV, Blk.own, V.one]) ?_
    refine R_call (evcons (@rfl V (V.sl (List.map cI (t.ni)))) (evcons (@rfl V (V.sl (List.map cI ((nth (o.tr) (k)).ni)))) evnil)) (rhp_pure t.ni ((nth (o.tr) (k)).ni)) (fzv_mapcanon _ _ (by simp [-List.map_take, -List.map_drop, -List.map_append, -List.map_reverse])) (by simp [-List.map_take, -List.map_drop, -List.map_append, -List.map_reverse]) (Or.inl (by simp [-List.map_take, -List.map_drop, -List.map_append, -List.map_reverse])) ?_
    refine R_notb (@rfl V (V.bool (hp t.ni ((nth (o.tr) (k)).ni)))) ?_
    refine R_mv (@rfl V (V.bool ((!hp t.ni ((nth (o.tr) (k)).ni))))) ?_
    refine Ops_seg 8 (fun T H => T 2 = (V.mp 2 1 0 0) ∧ T 3 = (V.mp 3 1 0 0) ∧ T 4 = (V.mp 4 1 0 0) ∧ T 5 = (V.mp 5 1 0 0) ∧ T 6 = (V.bool true) ∧ T 8 = (iV ((k : Nat) : Int)) ∧ T 9 = (V.mp 9 (v9 + 1) 0 0) ∧ T 79 = (V.bool ((((!hp t.ni ((nth (o.tr) (k)).ni))) || decide (((t.ni.length : Nat) : Int) = ((((nth (o.tr) (k)).ni).length : Nat) : Int))))) ∧ H 2 = (⟨1, true, false, 34, 2, [[(iV (o.i)), (V.sl (List.map cT (o.tr)))]]⟩ : Blk) ∧ H 3 = (⟨1, true, false, 63, 2, [[(V.sl (List.map cI (t.ni))), (V.sl (List.map cI (t.no)))]]⟩ : Blk) ∧ H 4 = (⟨1, true, false, 34, 2, [[(iV (0 : Int)), V.nilsl]]⟩ : Blk) ∧ H 5 = (⟨1, true, false, 34, 2, [[(iV (o.i)), (V.ms 63 (w + 1) 0 (((raS o.tr t k).1.length) + 1))]]⟩ : Blk) ∧ H 9 = (⟨v9 + 1, true, false, 63, 2, [[(V.sl (List.map cI ((nth (o.tr) (k)).ni))), (V.sl (List.map cI ((nth (o.tr) (k)).no)))]]⟩ : Blk) ∧ H 63 = (⟨w + 1, true, true, 63, 2, (List.map cT ((raS o.tr t k).1 ++ [t]))⟩ : Blk) ∧ True) ?_ ?_
    ·
     by_cases g12 : ((!hp t.ni ((nth (o.tr) (k)).ni))) = true
     ·
      refine G_no (Eq.trans (@rfl V (V.bool ((!hp t.ni ((nth (o.tr) (k)).ni))))) (bbT g12)) (by decide) ?_
      refine G_no (Eq.trans (@rfl V (V.bool ((!hp t.ni ((nth (o.tr) (k)).ni))))) (bbT g12)) (by decide) ?_
      refine G_no (Eq.trans (@rfl V (V.bool ((!hp t.ni ((nth (o.tr) (k)).ni))))) (bbT g12)) (by decide) ?_
      refine G_no (Eq.trans (@rfl V (V.bool ((!hp t.ni ((nth (o.tr) (k)).ni))))) (bbT g12)) (by decide) ?_
      refine G_no (Eq.trans (@rfl V (V.bool ((!hp t.ni ((nth (o.tr) (k)).ni))))) (bbT g12)) (by decide) ?_
      refine G_no (Eq.trans (@rfl V (V.bool ((!hp t.ni ((nth (o.tr) (k)).ni))))) (bbT g12)) (by decide) ?_
      refine G_no (Eq.trans (@rfl V (V.bool ((!hp t.ni ((nth (o.tr) (k)).ni))))) (bbT g12)) (by decide) ?_
      refine R_pickT (Eq.trans (@rfl V (V.bool ((!hp t.ni ((nth (o.tr) (k)).ni))))) (bbT g12)) (@rfl V (V.bool true)) ?_
      exact ⟨t2, t3, t4, t5, t6, t8, t9, (Eq.trans (@rfl V (V.bool true)) (borT g12)), h2, h3, h4, h5, h9, h63, trivial⟩
     ·
      refine G_yes (Eq.trans (@rfl V (V.bool ((!hp t.ni ((nth (o.tr) (k)).ni))))) (bbF g12)) ?_
      refine R_fld_mp (o' := 0) t3 h3 (by first | rfl | simp [okB, Blk.own]) rfl ?_
      refine G_yes (Eq.trans (@rfl V (V.bool ((!hp t.ni ((nth (o.tr) (k)).ni))))) (bbF g12)) ?_
      refine R_load_mp (v := (V.sl (List.map cI (t.ni)))) (@rfl V (V.mp 3 1 0 0)) h3 (by first | rfl | simp [ldB, ldV, Blk.own, V.one]) ?_
      refine G_yes (Eq.trans (@rfl V (V.bool ((!hp t.ni ((nth (o.tr) (k)).ni))))) (bbF g12)) ?_
      refine R_len (@rfl V (V.sl (List.map cI (t.ni)))) ?_
      refine G_yes (Eq.trans (@rfl V (V.bool ((!hp t.ni ((nth (o.tr) (k)).ni))))) (bbF g12)) ?_
      refine R_fld_mp (o' := 0) t9 h9 (by first | rfl | simp [okB, Blk.own]) rfl ?_
      refine G_yes (Eq.trans (@rfl V (V.bool ((!hp t.ni ((nth (o.tr) (k)).ni))))) (bbF g12)) ?_
      refine R_load_mp (v := (V.sl (List.map cI ((nth (o.tr) (k)).ni)))) (@rfl V (V.mp 9 (v9 + 1) 0 0)) h9 (by first | rfl | simp [ldB, ldV, Blk.own, V.one]) ?_
      refine G_yes (Eq.trans (@rfl V (V.bool ((!hp t.ni ((nth (o.tr) (k)).ni))))) (bbF g12)) ?_
      refine R_len (@rfl V (V.sl (List.map cI ((nth (o.tr) (k)).ni)))) ?_
      refine G_yes (Eq.trans (@rfl V (V.bool ((!hp t.ni ((nth (o.tr) (k)).ni))))) (bbF g12)) ?_
      refine R_eql (x := ((t.ni.length : Nat) : Int)) (y := ((((nth (o.tr) (k)).ni).length : Nat) : Int)) (@rfl V (iV ((t.ni.length : Nat) : Int))) (@rfl V (iV ((((nth (o.tr) (k)).ni).length : Nat) : Int))) ?_
      refine R_pickF (Eq.trans (@rfl V (V.bool ((!hp t.ni ((nth (o.tr) (k)).ni))))) (bbF g12)) (@rfl V (V.bool (decide (((t.ni.length : Nat) : Int) = ((((nth (o.tr) (k)).ni).length : Nat) : Int))))) ?_
      exact ⟨t2, t3, t4, t5, t6, t8, t9, (Eq.trans (@rfl V (V.bool (decide (((t.ni.length : Nat) : Int) = ((((nth (o.tr) (k)).ni).length : Nat) : Int))))) (borF g12)), h2, h3, h4, h5, h9, h63, trivial⟩
    intro T H ⟨t2, t3, t4, t5, t6, t8, t9, t79, h2, h3, h4, h5, h9, h63, _⟩
    exact R_nil ⟨t2, t3, t4, t5, t6, t8, t9, t79, h2, h3, h4, h5, h9, h63, trivial⟩
   intro T H ⟨t2, t3, t4, t5, t6, t8, t9, t79, h2, h3, h4, h5, h9, h63, _⟩
   refine W_ifb t79 (fun c13 => ?_) (fun c13 => ?_)
   ·
    have d2 : kpR t (nth o.tr k) = true := by simpa [kpR, Int.natCast_inj] using c13
    refine W_regc (fun T H => T 2 = (V.mp 2 1 0 0) ∧ T 3 = (V.mp 3 1 0 0) ∧ T 4 = (V.mp 4 1 0 0) ∧ T 5 = (V.mp 5 1 0 0) ∧ T 6 = (V.bool true) ∧ T 8 = (iV ((k : Nat) : Int)) ∧ H 2 = (⟨1, true, false, 34, 2, [[(iV (o.i)), (V.sl (List.map cT (o.tr)))]]⟩ : Blk) ∧ H 3 = (⟨1, true, false, 63, 2, [[(V.sl (List.map cI (t.ni))), (V.sl (List.map cI (t.no)))]]⟩ : Blk) ∧ H 4 = (⟨1, true, false, 34, 2, [[(iV (0 : Int)), V.nilsl]]⟩ : Blk) ∧ H 5 = (⟨1, true, false, 34, 2, [[(iV (o.i)), (V.ms 63 (w + 2) 0 (((raS o.tr t k).1.length) + 2))]]⟩ : Blk) ∧ H 9 = (⟨v9 + 1, true, false, 63, 2, [[(V.sl (List.map cI ((nth (o.tr) (k)).ni))), (V.sl (List.map cI ((nth (o.tr) (k)).no)))]]⟩ : Blk) ∧ H 63 = (⟨w + 2, true, true, 63, 2, (List.map cT ((raS o.tr t k).1 ++ [t] ++ [((nth (o.tr) (k)))]))⟩ : Blk) ∧ True) ?_ ?_
    ·
     unfold r86_15
     refine R_fld_mp (o' := 1) t5 h5 (by first | rfl | simp [okB, Blk.own]) rfl ?_
     refine R_load_mp (v := (V.ms 63 (w + 1) 0 (((raS o.tr t k).1.length) + 1))) (@rfl V (V.mp 5 1 0 1)) h5 (by first | rfl | simp [ldB, ldV, Blk.own, V.one]) ?_
     refine R_load_mp (v := (V.agg [(V.sl (List.map cI ((nth (o.tr) (k)).ni))), (V.sl (List.map cI ((nth (o.tr) (k)).no)))])) t9 h9 (by first | rfl | simp [ldB, ldV, Blk.own, V.one]) ?_
     refine R_call (evcons (@rfl V (V.agg [(V.sl (List.map cI ((nth (o.tr) (k)).ni))), (V.sl (List.map cI ((nth (o.tr) (k)).no)))])) evnil) (rcopied_pure ((nth (o.tr) (k))) (hbd k (by omega)).1 (hbd k (by omega)).2) (fzv_mapcanon _ _ (by simp [-List.map_take, -List.map_drop, -List.map_append, -List.map_reverse])) (by simp [-List.map_take, -List.map_drop, -List.map_append, -List.map_reverse]) (Or.inl (by simp [-List.map_take, -List.map_drop, -List.map_append, -List.map_reverse])) ?_
     refine R_bslice (qs := [(0, (V.agg [(V.sl (List.map cI (((nth (o.tr) (k))).ni))), (V.sl (List.map cI (((nth (o.tr) (k))).no)))]))]) (rows := [[(V.sl (List.map cI (((nth (o.tr) (k))).ni))), (V.sl (List.map cI (((nth (o.tr) (k))).no)))]]) (mcons (congrArg (fun v => (0, v)) (@rfl V (V.agg [(V.sl (List.map cI (((nth (o.tr) (k))).ni))), (V.sl (List.map cI (((nth (o.tr) (k))).no)))]))) rfl) rfl ?_
     refine R_append1 (l := ((raS o.tr t k).1 ++ [t])) (f := cT) (x := (((nth (o.tr) (k))))) (@rfl V (V.ms 63 (w + 1) 0 (((raS o.tr t k).1.length) + 1))) h63 (by first | rfl | simp | omega) (@rfl V (V.sl [[(V.sl (List.map cI (((nth (o.tr) (k))).ni))), (V.sl (List.map cI (((nth (o.tr) (k))).no)))]])) rfl rfl (by omega) (by omega) ?_
     refine R_fld_mp (o' := 1) t5 h5 (by first | rfl | simp [okB, Blk.own]) rfl ?_
     refine R_store (vs := [(V.ms 63 (w + 2) 0 (((raS o.tr t k).1.length) + 2))]) (B' := (⟨1, true, false, 34, 2, [[(iV (o.i)), (V.ms 63 (w + 2) 0 (((raS o.tr t k).1.length) + 2))]]⟩ : Blk)) (@rfl V (V.mp 5 1 0 1)) (@rfl V (V.ms 63 (w + 2) 0 (((raS o.tr t k).1.length) + 2))) rfl h5 (by first | rfl | simp [stB, okB, Blk.own, putAt, V.one]) ?_
     exact R_nil ⟨t2, t3, t4, t5, t6, t8, h2, h3, h4, rfl, h9, rfl, trivial⟩
    intro T H ⟨t2, t3, t4, t5, t6, t8, h2, h3, h4, h5, h9, h63, _⟩
    refine n9 _ _ ?_
    refine .done ?_
    refine W_regc (fun T H => T 2 = (V.mp 2 1 0 0) ∧ T 3 = (V.mp 3 1 0 0) ∧ T 4 = (V.mp 4 1 0 0) ∧ T 5 = (V.mp 5 1 0 0) ∧ T 6 = (V.bool true) ∧ T 8 = (iV ((k + 1 : Nat) : Int)) ∧ H 2 = (⟨1, true, false, 34, 2, [[(iV (o.i)), (V.sl (List.map cT (o.tr)))]]⟩ : Blk) ∧ H 3 = (⟨1, true, false, 63, 2, [[(V.sl (List.map cI (t.ni))), (V.sl (List.map cI (t.no)))]]⟩ : Blk) ∧ H 4 = (⟨1, true, false, 34, 2, [[(iV (0 : Int)), V.nilsl]]⟩ : Blk) ∧ H 5 = (⟨1, true, false, 34, 2, [[(iV (o.i)), (V.ms 63 (w + 2) 0 (((raS o.tr t k).1.length) + 2))]]⟩ : Blk) ∧ H 9 = (⟨v9 + 1, true, false, 63, 2, [[(V.sl (List.map cI ((nth (o.tr) (k)).ni))), (V.sl (List.map cI ((nth (o.tr) (k)).no)))]]⟩ : Blk) ∧ H 63 = (⟨w + 2, true, true, 63, 2, (List.map cT ((raS o.tr t k).1 ++ [t] ++ [((nth (o.tr) (k)))]))⟩ : Blk) ∧ True) ?_ ?_
    ·
     unfold r86_9
     refine R_mv t8 ?_
     refine R_addN (m := k) (n := 1) (@rfl V (iV ((k : Nat) : Int))) (@rfl V (iV ((1 : Nat) : Int))) (by omega) ?_
     refine R_mv (@rfl V (iV ((k + 1 : Nat) : Int))) ?_
     exact R_nil ⟨t2, t3, t4, t5, t6, rfl, h2, h3, h4, h5, h9, h63, trivial⟩
    intro T H ⟨t2, t3, t4, t5, t6, t8, h2, h3, h4, h5, h9, h63, _⟩
    refine p17 _ _ _ ?_ ⟨(k + 1), (w + 2), (v9 + 1), rfl, t2, t3, t4, t5, (Eq.trans t6 (by first | rfl | (rw [raS_tt d1 d2]; done) | (rw [raS_tf d1 d2]; done) | (rw [raS_ft d1 d2]; done) | (rw [raS_ff d1 d2]; done) | (simp [doA]; done) | (have e : k = o.tr.length := (by omega); subst e; rfl))), (Eq.trans t8 (by first | rfl | (rw [raS_tt d1 d2]; done) | (rw [raS_tf d1 d2]; done) | (rw [raS_ft d1 d2]; done) | (rw [raS_ff d1 d2]; done) | (simp [doA]; done) | (have e : k = o.tr.length := (by omega); subst e; rfl))), h2, h3, h4, (Eq.trans h5 (by first | rfl | (rw [raS_tt d1 d2]; done) | (rw [raS_tt d1 d2]; simp; done) | (rw [raS_tf d1 d2]; done) | (rw [raS_tf d1 d2]; simp; done) | (rw [raS_ft d1 d2]; done) | (rw [raS_ft d1 d2]; simp; done) | (rw [raS_ff d1 d2]; done))), (congrArg Blk.ver h9), (Eq.trans h63 (by first | rfl | (rw [raS_tt d1 d2]; done) | (rw [raS_tt d1 d2]; simp; done) | (rw [raS_tf d1 d2]; done) | (rw [raS_tf d1 d2]; simp; done) | (rw [raS_ft d1 d2]; done) | (rw [raS_ft d1 d2]; simp; done) | (rw [raS_ff d1 d2]; done))), ?_⟩
    · omega
    · omega
   have d2 : kpR t (nth o.tr k) = false := by simpa [kpR, Int.natCast_inj] using c13
   refine W_skip ?_
   refine n9 _ _ ?_
   refine .done ?_
   refine W_regc (fun T H => T 2 = (V.mp 2 1 0 0) ∧ T 3 = (V.mp 3 1 0 0) ∧ T 4 = (V.mp 4 1 0 0) ∧ T 5 = (V.mp 5 1 0 0) ∧ T 6 = (V.bool true) ∧ T 8 = (iV ((k + 1 : Nat) : Int)) ∧ H 2 = (⟨1, true, false, 34, 2, [[(iV (o.i)), (V.sl (List.map cT (o.tr)))]]⟩ : Blk) ∧ H 3 = (⟨1, true, false, 63, 2, [[(V.sl (List.map cI (t.ni))), (V.sl (List.map cI (t.no)))]]⟩ : Blk) ∧ H 4 = (⟨1, true, false, 34, 2, [[(iV (0 : Int)), V.nilsl]]⟩ : Blk) ∧ H 5 = (⟨1, true, false, 34, 2, [[(iV (o.i)), (V.ms 63 (w + 1) 0 (((raS o.tr t k).1.length) + 1))]]⟩ : Blk) ∧ H 9 = (⟨v9 + 1, true, false, 63, 2, [[(V.sl (List.map cI ((nth (o.tr) (k)).ni))), (V.sl (List.map cI ((nth (o.tr) (k)).no)))]]⟩ : Blk) ∧ H 63 = (⟨w + 1, true, true, 63, 2, (List.map cT ((raS o.tr t k).1 ++ [t]))⟩ : Blk) ∧ True) ?_ ?_
   ·
    unfold r86_9
    refine R_mv t8 ?_
    refine R_addN (m := k) (n := 1) (@rfl V (iV ((k : Nat) : Int))) (@rfl V (iV ((1 : Nat) : Int))) (by omega) ?_
    refine R_mv (@rfl V (iV ((k + 1 : Nat) : Int))) ?_
    exact R_nil ⟨t2, t3, t4, t5, t6, rfl, h2, h3, h4, h5, h9, h63, trivial⟩
   intro T H ⟨t2, t3, t4, t5, t6, t8, h2, h3, h4, h5, h9, h63, _⟩
   refine p17 _ _ _ ?_ ⟨(k + 1), (w + 1), (v9 + 1), rfl, t2, t3, t4, t5, (Eq.trans t6 (by first | rfl | (rw [raS_tt d1 d2]; done) | (rw [raS_tf d1 d2]; done) | (rw [raS_ft d1 d2]; done) | (rw [raS_ff d1 d2]; done) | (simp [doA]; done) | (have e : k = o.tr.length := (by omega); subst e; rfl))), (Eq.trans t8 (by first | rfl | (rw [raS_tt d1 d2]; done) | (rw [raS_tf d1 d2]; done) | (rw [raS_ft d1 d2]; done) | (rw [raS_ff d1 d2]; done) | (simp [doA]; done) | (have e : k = o.tr.length := (by omega); subst e; rfl))), h2, h3, h4, (Eq.trans h5 (by first | rfl | (rw [raS_tt d1 d2]; done) | (rw [raS_tt d1 d2]; simp; done) | (rw [raS_tf d1 d2]; done) | (rw [raS_tf d1 d2]; simp; done) | (rw [raS_ft d1 d2]; done) | (rw [raS_ft d1 d2]; simp; done) | (rw [raS_ff d1 d2]; done))), (congrArg Blk.ver h9), (Eq.trans h63 (by first | rfl | (rw [raS_tt d1 d2]; done) | (rw [raS_tt d1 d2]; simp; done) | (rw [raS_tf d1 d2]; done) | (rw [raS_tf d1 d2]; simp; done) | (rw [raS_ft d1 d2]; done) | (rw [raS_ft d1 d2]; simp; done) | (rw [raS_ff d1 d2]; done))), ?_⟩
   · omega
   · omega
  have d1 := c11
  refine W_seq_skip ?_
  refine W_seq_regc (fun T H => T 2 = (V.mp 2 1 0 0) ∧ T 3 = (V.mp 3 1 0 0) ∧ T 4 = (V.mp 4 1 0 0) ∧ T 5 = (V.mp 5 1 0 0) ∧ T 6 = (V.bool ((raS o.tr t k).2)) ∧ T 8 = (iV ((k : Nat) : Int)) ∧ T 9 = (V.mp 9 (v9 + 1) 0 0) ∧ T 79 = (V.bool ((((!hp t.ni ((nth (o.tr) (k)).ni))) || decide (((t.ni.length : Nat) : Int) = ((((nth (o.tr) (k)).ni).length : Nat) : Int))))) ∧ H 2 = (⟨1, true, false, 34, 2, [[(iV (o.i)), (V.sl (List.map cT (o.tr)))]]⟩ : Blk) ∧ H 3 = (⟨1, true, false, 63, 2, [[(V.sl (List.map cI (t.ni))), (V.sl (List.map cI (t.no)))]]⟩ : Blk) ∧ H 4 = (⟨1, true, false, 34, 2, [[(iV (0 : Int)), V.nilsl]]⟩ : Blk) ∧ H 5 = (⟨1, true, false, 34, 2, [[(iV (o.i)), (V.ms 63 w 0 ((raS o.tr t k).1.length))]]⟩ : Blk) ∧ H 9 = (⟨v9 + 1, true, false, 63, 2, [[(V.sl (List.map cI ((nth (o.tr) (k)).ni))), (V.sl (List.map cI ((nth (o.tr) (k)).no)))]]⟩ : Blk) ∧ H 63 = (⟨w, true, true, 63, 2, (List.map cT ((raS o.tr t k).1))⟩ : Blk) ∧ True) ?_ ?_
  ·
   unfold r86_14
   refine R_fld_mp (o' := 0) t3 h3 (by first | rfl | simp [okB, Blk.own]) rfl ?_
   refine R_load_mp (v := (V.sl (List.map cI (t.ni)))) (@rfl V (V.mp 3 1 0 0)) h3 (by first | rfl | simp [ldB, ldV, Blk.own, V.one]) ?_
   refine R_fld_mp (o' := 0) t9 h9 (by first | rfl | simp [okB, Blk.own]) rfl ?_
   refine R_load_mp (v := (V.sl (List.map cI ((nth (o.tr) (k)).ni)))) (@rfl V (V.mp 9 (v9 + 1) 0 0)) h9 (by first | rfl | simp [ldB, ldV, Blk.own, V.one]) ?_
   refine R_call (evcons (@rfl V (V.sl (List.map cI (t.ni)))) (evcons (@rfl V (V.sl (List.map cI ((nth (o.tr) (k)).ni)))) evnil)) (rhp_pure t.ni ((nth (o.tr) (k)).ni)) (fzv_mapcanon _ _ (by simp [-List.map_take, -List.map_drop, -List.map_append, -List.map_reverse])) (by simp [-List.map_take, -List.map_drop, -List.map_append, -List.map_reverse]) (Or.inl (by simp [-List.map_take, -List.map_drop, -List.map_append, -List.map_reverse])) ?_
   refine R_notb (@rfl V (V.bool (hp t.ni ((nth (o.tr) (k)).ni)))) ?_
   refine R_mv (@rfl V (V.bool ((!hp t.ni ((nth (o.tr) (k)).ni))))) ?_
   refine Ops_seg 8 (fun T H => T 2 = (V.mp 2 1 0 0) ∧ T 3 = (V.mp 3 1 0 0) ∧ T 4 = (V.mp 4 1 0 0) ∧ T 5 = (V.mp 5 1 0 0) ∧ T 6 = (V.bool ((raS o.tr t k).2)) ∧ T 8 = (iV ((k : Nat) : Int)) ∧ T 9 = (V.mp 9 (v9 + 1) 0 0) ∧ T 79 = (V.bool ((((!hp t.ni ((nth (o.tr) (k)).ni))) || decide (((t.ni.length : Nat) : Int) = ((((nth (o.tr) (k)).ni).length : Nat) : Int))))) ∧ H 2 = (⟨1, true, false, 34, 2, [[(iV (o.i)), (V.sl (List.map cT (o.tr)))]]⟩ : Blk) ∧ H 3 = (⟨1, true, false, 63, 2, [[(V.sl (List.map cI (t.ni))), (V.sl (List.map cI (t.no)))]]⟩ : Blk) ∧ H 4 = (⟨1, true, false, 34, 2, [[(iV (0 : Int)), V.nilsl]]⟩ : Blk) ∧ H 5 = (⟨1, true, false, 34, 2, [[(iV (o.i)), (V.ms 63 w 0 ((raS o.tr t k).1.length))]]⟩ : Blk) ∧ H 9 = (⟨v9 + 1, true, false, 63, 2, [[(V.sl (List.map cI ((nth (o.tr) (k)).ni))), (V.sl (List.map cI ((nth (o.tr) (k)).no)))]]⟩ : Blk) ∧ H 63 = (⟨w, true, true, 63, 2, (List.map cT ((raS o.tr t k).1))⟩ : Blk) ∧ True) ?_ ?_
   ·
    by_cases g14 : ((!hp t.ni ((nth (o.tr) (k)).ni))) = true
    ·
     refine G_no (Eq.trans (@rfl V (V.bool ((!hp t.ni ((nth (o.tr) (k)).ni))))) (bbT g14)) (by decide) ?_
     refine G_no (Eq.trans (@rfl V (V.bool ((!hp t.ni ((nth (o.tr) (k)).ni))))) (bbT g14)) (by decide) ?_
     refine G_no (Eq.trans (@rfl V (V.bool ((!hp t.ni ((nth (o.tr) (k)).ni))))) (bbT g14)) (by decide) ?_
     refine G_no (Eq.trans (@rfl V (V.bool ((!hp t.ni ((nth (o.tr) (k)).ni))))) (bbT g14)) (by decide) ?_
     refine G_no (Eq.trans (@rfl V (V.bool ((!hp t.ni ((nth (o.tr) (k)).ni))))) (bbT g14)) (by decide) ?_
     refine G_no (Eq.trans (@rfl V (V.bool ((!hp t.ni ((nth (o.tr) (k)).ni))))) (bbT g14)) (by decide) ?_
     refine G_no (Eq.trans (@rfl V (V.bool ((!hp t.ni ((nth (o.tr) (k)).ni))))) (bbT g14)) (by decide) ?_
     refine R_pickT (Eq.trans (@rfl V (V.bool ((!hp t.ni ((nth (o.tr) (k)).ni))))) (bbT g14)) (@rfl V (V.bool true)) ?_
     exact ⟨t2, t3, t4, t5, t6, t8, t9, (Eq.trans (@rfl V (V.bool true)) (borT g14)), h2, h3, h4, h5, h9, h63, trivial⟩
    ·
     refine G_yes (Eq.trans (@rfl V (V.bool ((!hp t.ni ((nth (o.tr) (k)).ni))))) (bbF g14)) ?_
     refine R_fld_mp (o' := 0) t3 h3 (by first | rfl | simp [okB, Blk.own]) rfl ?_
     refine G_yes (Eq.trans (@rfl V (V.bool ((!hp t.ni ((nth (o.tr) (k)).ni))))) (bbF g14)) ?_
     refine R_load_mp (v := (V.sl (List.map cI (t.ni)))) (@rfl V (V.mp 3 1 0 0)) h3 (by first | rfl | simp [ldB, ldV, Blk.own, V.one]) ?_
     refine G_yes (Eq.trans (@rfl V (V.bool ((!hp t.ni ((nth (o.tr) (k)).ni))))) (bbF g14)) ?_
     refine R_len (@rfl V (V.sl (List.map cI (t.ni)))) ?_
     refine G_yes (Eq.trans (@rfl V (V.bool ((!hp t.ni ((nth (o.tr) (k)).ni))))) (bbF g14)) ?_
     refine R_fld_mp (o' := 0) t9 h9 (by first | rfl | simp [okB, Blk.own]) rfl ?_
     refine G_yes (Eq.trans (@rfl V (V.bool ((!hp t.ni ((nth (o.tr) (k)).ni))))) (bbF g14)) ?_
     refine R_load_mp (v := (V.sl (List.map cI ((nth (o.tr) (k)).ni)))) (@rfl V (V.mp 9 (v9 + 1) 0 0)) h9 (by first | rfl | simp [ldB, ldV, Blk.own, V.one]) ?_
     refine G_yes (Eq.trans (@rfl V (V.bool ((!hp t.ni ((nth (o.tr) (k)).ni))))) (bbF g14)) ?_
     refine R_len (@rfl V (V.sl (List.map cI ((nth (o.tr) (k)).ni)))) ?_
     refine G_yes (Eq.trans (@rfl V (V.bool ((!hp t.ni ((nth (o.tr) (k)).ni))))) (bbF g14)) ?_
     refine R_eql (x := ((t.ni.length : Nat) : Int)) (y := ((((nth (o.tr) (k)).ni).length : Nat) : Int)) (@rfl V (iV ((t.ni.length : Nat) : Int))) (@rfl V (iV ((((nth (o.tr) (k)).ni).length : Nat) : Int))) ?_
     refine R_pickF (Eq.trans (@rfl V (V.bool ((!hp t.ni ((nth (o.tr) (k)).ni))))) (bbF g14)) (@rfl V (V.bool (decide (((t.ni.length : Nat) : Int) = ((((nth (o.tr) (k)).ni).length : Nat) : Int))))) ?_
     exact ⟨t2, t3, t4, t5, t6, t8, t9, (Eq.trans (@rfl V (V.bool (decide (((t.ni.length : Nat) : Int) = ((((nth (o.tr) (k)).ni).length : Nat) : Int))))) (borF g14)), h2, h3, h4, h5, h9, h63, trivial⟩
   intro T H ⟨t2, t3, t4, t5, t6, t8, t9, t79, h2, h3, h4, h5, h9, h63, _⟩
   exact R_nil ⟨t2, t3, t4, t5, t6, t8, t9, t79, h2, h3, h4, h5, h9, h63, trivial⟩
  intro T H ⟨t2, t3, t4, t5, t6, t8, t9, t79, h2, h3, h4, h5, h9, h63, _⟩
  refine W_ifb t79 (fun c15 => ?_) (fun c15 => ?_)
  ·
   have d2 : kpR t (nth o.tr k) = true := by simpa [kpR, Int.natCast_inj] using c15
   refine W_regc (fun T H => T 2 = (V.mp 2 1 0 0) ∧ T 3 = (V.mp 3 1 0 0) ∧ T 4 = (V.mp 4 1 0 0) ∧ T 5 = (V.mp 5 1 0 0) ∧ T 6 = (V.bool ((raS o.tr t k).2)) ∧ T 8 = (iV ((k : Nat) : Int)) ∧ H 2 = (⟨1, true, false, 34, 2, [[(iV (o.i)), (V.sl (List.map cT (o.tr)))]]⟩ : Blk) ∧ H 3 = (⟨1, true, false, 63, 2, [[(V.sl (List.map cI (t.ni))), (V.sl (List.map cI (t.no)))]]⟩ : Blk) ∧ H 4 = (⟨1, true, false, 34, 2, [[(iV (0 : Int)), V.nilsl]]⟩ : Blk) ∧ H 5 = (⟨1, true, false, 34, 2, [[(iV (o.i)), (V.ms 63 (w + 1) 0 (((raS o.tr t k).1.length) + 1))]]⟩ : Blk) ∧ H 9 = (⟨v9 + 1, true, false, 63, 2, [[(V.sl (List.map cI ((nth (o.tr) (k)).ni))), (V.sl (List.map cI ((nth (o.tr) (k)).no)))]]⟩ : Blk) ∧ H 63 = (⟨w + 1, true, true, 63, 2, (List.map cT ((raS o.tr t k).1 ++ [((nth (o.tr) (k)))]))⟩ : Blk) ∧ True) ?_ ?_
   ·
    unfold r86_15
    refine R_fld_mp (o' := 1) t5 h5 (by first | rfl | simp [okB, Blk.own]) rfl ?_
    refine R_load_mp (v := (V.ms 63 w 0 ((raS o.tr t k).1.length))) (@rfl V (V.mp 5 1 0 1)) h5 (by first | rfl | simp [ldB, ldV, Blk.own, V.one]) ?_
    refine R_load_mp (v := (V.agg [(V.sl (List.map cI ((nth (o.tr) (k)).ni))), (V.sl (List.map cI ((nth (o.tr) (k)).no)))])) t9 h9 (by first | rfl | simp [ldB, ldV, Blk.own, V.one]) ?_
    refine R_call (evcons (@rfl V (V.agg [(V.sl (List.map cI ((nth (o.tr) (k)).ni))), (V.sl (List.map cI ((nth (o.tr) (k)).no)))])) evnil) (rcopied_pure ((nth (o.tr) (k))) (hbd k (by omega)).1 (hbd k (by omega)).2) (fzv_mapcanon _ _ (by simp [-List.map_take, -List.map_drop, -List.map_append, -List.map_reverse])) (by simp [-List.map_take, -List.map_drop, -List.map_append, -List.map_reverse]) (Or.inl (by simp [-List.map_take, -List.map_drop, -List.map_append, -List.map_reverse])) ?_
    refine R_bslice (qs := [(0, (V.agg [(V.sl (List.map cI (((nth (o.tr) (k))).ni))), (V.sl (List.map cI (((nth (o.tr) (k))).no)))]))]) (rows := [[(V.sl (List.map cI (((nth (o.tr) (k))).ni))), (V.sl (List.map cI (((nth (o.tr) (k))).no)))]]) (mcons (congrArg (fun v => (0, v)) (@rfl V (V.agg [(V.sl (List.map cI (((nth (o.tr) (k))).ni))), (V.sl (List.map cI (((nth (o.tr) (k))).no)))]))) rfl) rfl ?_
    refine R_append1 (l := ((raS o.tr t k).1)) (f := cT) (x := (((nth (o.tr) (k))))) (@rfl V (V.ms 63 w 0 ((raS o.tr t k).1.length))) h63 (by first | rfl | simp | omega) (@rfl V (V.sl [[(V.sl (List.map cI (((nth (o.tr) (k))).ni))), (V.sl (List.map cI (((nth (o.tr) (k))).no)))]])) rfl rfl (by omega) (by omega) ?_
    refine R_fld_mp (o' := 1) t5 h5 (by first | rfl | simp [okB, Blk.own]) rfl ?_
    refine R_store (vs := [(V.ms 63 (w + 1) 0 (((raS o.tr t k).1.length) + 1))]) (B' := (⟨1, true, false, 34, 2, [[(iV (o.i)), (V.ms 63 (w + 1) 0 (((raS o.tr t k).1.length) + 1))]]⟩ : Blk)) (@rfl V (V.mp 5 1 0 1)) (@rfl V (V.ms 63 (w + 1) 0 (((raS o.tr t k).1.length) + 1))) rfl h5 (by first | rfl | simp [stB, okB, Blk.own, putAt, V.one]) ?_
    exact R_nil ⟨t2, t3, t4, t5, t6, t8, h2, h3, h4, rfl, h9, rfl, trivial⟩
   intro T H ⟨t2, t3, t4, t5, t6, t8, h2, h3, h4, h5, h9, h63, _⟩
   refine n9 _ _ ?_
   refine .done ?_
   refine W_regc (fun T H => T 2 = (V.mp 2 1 0 0) ∧ T 3 = (V.mp 3 1 0 0) ∧ T 4 = (V.mp 4 1 0 0) ∧ T 5 = (V.mp 5 1 0 0) ∧ T 6 = (V.bool ((raS o.tr t k).2)) ∧ T 8 = (iV ((k + 1 : Nat) : Int)) ∧ H 2 = (⟨1, true, false, 34, 2, [[(iV (o.i)), (V.sl (List.map cT (o.tr)))]]⟩ : Blk) ∧ H 3 = (⟨1, true, false, 63, 2, [[(V.sl (List.map cI (t.ni))), (V.sl (List.map cI (t.no)))]]⟩ : Blk) ∧ H 4 = (⟨1, true, false, 34, 2, [[(iV (0 : Int)), V.nilsl]]⟩ : Blk) ∧ H 5 = (⟨1, true, false, 34, 2, [[(iV (o.i)), (V.ms 63 (w + 1) 0 (((raS o.tr t k).1.length) + 1))]]⟩ : Blk) ∧ H 9 = (⟨v9 + 1, true, false, 63, 2, [[(V.sl (List.map cI ((nth (o.tr) (k)).ni))), (V.sl (List.map cI ((nth (o.tr) (k)).no)))]]⟩ : Blk) ∧ H 63 = (⟨w + 1, true, true, 63, 2, (List.map cT ((raS o.tr t k).1 ++ [((nth (o.tr) (k)))]))⟩ : Blk) ∧ True) ?_ ?_
   ·
    unfold r86_9
    refine R_mv t8 ?_
    refine R_addN (m := k) (n := 1) (@rfl V (iV ((k : Nat) : Int))) (@rfl V (iV ((1 : Nat) : Int))) (by omega) ?_
    refine R_mv (@rfl V (iV ((k + 1 : Nat) : Int))) ?_
    exact R_nil ⟨t2, t3, t4, t5, t6, rfl, h2, h3, h4, h5, h9, h63, trivial⟩
   intro T H ⟨t2, t3, t4, t5, t6, t8, h2, h3, h4, h5, h9, h63, _⟩
   refine p17 _ _ _ ?_ ⟨(k + 1), (w + 1), (v9 + 1), rfl, t2, t3, t4, t5, (Eq.trans t6 (by first | rfl | (rw [raS_tt d1 d2]; done) | (rw [raS_tf d1 d2]; done) | (rw [raS_ft d1 d2]; done) | (rw [raS_ff d1 d2]; done) | (simp [doA]; done) | (have e : k = o.tr.length := (by omega); subst e; rfl))), (Eq.trans t8 (by first | rfl | (rw [raS_tt d1 d2]; done) | (rw [raS_tf d1 d2]; done) | (rw [raS_ft d1 d2]; done) | (rw [raS_ff d1 d2]; done) | (simp [doA]; done) | (have e : k = o.tr.length := (by omega); subst e; rfl))), h2, h3, h4, (Eq.trans h5 (by first | rfl | (rw [raS_tt d1 d2]; done) | (rw [raS_tt d1 d2]; simp; done) | (rw [raS_tf d1 d2]; done) | (rw [raS_tf d1 d2]; simp; done) | (rw [raS_ft d1 d2]; done) | (rw [raS_ft d1 d2]; simp; done) | (rw [raS_ff d1 d2]; done))), (congrArg Blk.ver h9), (Eq.trans h63 (by first | rfl | (rw [raS_tt d1 d2]; done) | (rw [raS_tt d1 d2]; simp; done) | (rw [raS_tf d1 d2]; done) | (rw [raS_tf d1 d2]; simp; done) | (rw [raS_ft d1 d2]; done) | (rw [raS_ft d1 d2]; simp; done) | (rw [raS_ff d1 d2]; done))), ?_⟩
   · omega
   · omega
  have d2 : kpR t (nth o.tr k) = false := by simpa [kpR, Int.natCast_inj] using c15
  refine W_skip ?_
  refine n9 _ _ ?_
  refine .done ?_
  refine W_regc (fun T H => T 2 = (V.mp 2 1 0 0) ∧ T 3 = (V.mp 3 1 0 0) ∧ T 4 = (V.mp 4 1 0 0) ∧ T 5 = (V.mp 5 1 0 0) ∧ T 6 = (V.bool ((raS o.tr t k).2)) ∧ T 8 = (iV ((k + 1 : Nat) : Int)) ∧ H 2 = (⟨1, true, false, 34, 2, [[(iV (o.i)), (V.sl (List.map cT (o.tr)))]]⟩ : Blk) ∧ H 3 = (⟨1, true, false, 63, 2, [[(V.sl (List.map cI (t.ni))), (V.sl (List.map cI (t.no)))]]⟩ : Blk) ∧ H 4 = (⟨1, true, false, 34, 2, [[(iV (0 : Int)), V.nilsl]]⟩ : Blk) ∧ H 5 = (⟨1, true, false, 34, 2, [[(iV (o.i)), (V.ms 63 w 0 ((raS o.tr t k).1.length))]]⟩ : Blk) ∧ H 9 = (⟨v9 + 1, true, false, 63, 2, [[(V.sl (List.map cI ((nth (o.tr) (k)).ni))), (V.sl (List.map cI ((nth (o.tr) (k)).no)))]]⟩ : Blk) ∧ H 63 = (⟨w, true, true, 63, 2, (List.map cT ((raS o.tr t k).1))⟩ : Blk) ∧ True) ?_ ?_
  ·
   unfold r86_9
   refine R_mv t8 ?_
   refine R_addN (m := k) (n := 1) (@rfl V (iV ((k : Nat) : Int))) (@rfl V (iV ((1 : Nat) : Int))) (by omega) ?_
   refine R_mv (@rfl V (iV ((k + 1 : Nat) : Int))) ?_
   exact R_nil ⟨t2, t3, t4, t5, t6, rfl, h2, h3, h4, h5, h9, h63, trivial⟩
  intro T H ⟨t2, t3, t4, t5, t6, t8, h2, h3, h4, h5, h9, h63, _⟩
  refine p17 _ _ _ ?_ ⟨(k + 1), w, (v9 + 1), rfl, t2, t3, t4, t5, (Eq.trans t6 (by first | rfl | (rw [raS_tt d1 d2]; done) | (rw [raS_tf d1 d2]; done) | (rw [raS_ft d1 d2]; done) | (rw [raS_ff d1 d2]; done) | (simp [doA]; done) | (have e : k = o.tr.length := (by omega); subst e; rfl))), (Eq.trans t8 (by first | rfl | (rw [raS_tt d1 d2]; done) | (rw [raS_tf d1 d2]; done) | (rw [raS_ft d1 d2]; done) | (rw [raS_ff d1 d2]; done) | (simp [doA]; done) | (have e : k = o.tr.length := (by omega); subst e; rfl))), h2, h3, h4, (Eq.trans h5 (by first | rfl | (rw [raS_tt d1 d2]; done) | (rw [raS_tt d1 d2]; simp; done) | (rw [raS_tf d1 d2]; done) | (rw [raS_tf d1 d2]; simp; done) | (rw [raS_ft d1 d2]; done) | (rw [raS_ft d1 d2]; simp; done) | (rw [raS_ff d1 d2]; done))), (congrArg Blk.ver h9), (Eq.trans h63 (by first | rfl | (rw [raS_tt d1 d2]; done) | (rw [raS_tt d1 d2]; simp; done) | (rw [raS_tf d1 d2]; done) | (rw [raS_tf d1 d2]; simp; done) | (rw [raS_ft d1 d2]; done) | (rw [raS_ft d1 d2]; simp; done) | (rw [raS_ff d1 d2]; done))), ?_⟩
  · omega
  · omega
 refine W_seq_exit ?_
 refine p37 _ _ _ ?_
 refine x6 _ _ ?_
 refine .done ?_
 refine W_seq_seq ?_
 refine W_seq_regc (fun T H => T 3 = (V.mp 3 1 0 0) ∧ T 4 = (V.mp 4 1 0 0) ∧ T 5 = (V.mp 5 1 0 0) ∧ T 88 = (V.bool ((!(raS o.tr t k).2))) ∧ H 2 = (⟨1, true, false, 34, 2, [[(iV (o.i)), (V.sl (List.map cT (o.tr)))]]⟩ : Blk) ∧ H 3 = (⟨1, true, false, 63, 2, [[(V.sl (List.map cI (t.ni))), (V.sl (List.map cI (t.no)))]]⟩ : Blk) ∧ H 4 = (⟨1, true, false, 34, 2, [[(iV (0 : Int)), V.nilsl]]⟩ : Blk) ∧ H 5 = (⟨1, true, false, 34, 2, [[(iV (o.i)), (V.ms 63 w 0 ((raS o.tr t k).1.length))]]⟩ : Blk) ∧ (H 9).ver = v9 ∧ H 63 = (⟨w, true, true, 63, 2, (List.map cT ((raS o.tr t k).1))⟩ : Blk) ∧ True) ?_ ?_
 ·
  unfold r86_16
  refine R_mv t6 ?_
  refine R_notb (@rfl V (V.bool ((raS o.tr t k).2))) ?_
  exact R_nil ⟨t3, t4, t5, rfl, h2, h3, h4, h5, h9, h63, trivial⟩
 intro T H ⟨t3, t4, t5, t88, h2, h3, h4, h5, h9, h63, _⟩
 refine W_seq_ifb t88 (fun c16 => ?_) (fun c16 => ?_)
 ·
  have d3 := c16
  refine W_seq_regc (fun T H => T 4 = (V.mp 4 1 0 0) ∧ T 5 = (V.mp 5 1 0 0) ∧ H 2 = (⟨1, true, false, 34, 2, [[(iV (o.i)), (V.sl (List.map cT (o.tr)))]]⟩ : Blk) ∧ H 3 = (⟨1, true, false, 63, 2, [[(V.sl (List.map cI (t.ni))), (V.sl (List.map cI (t.no)))]]⟩ : Blk) ∧ H 4 = (⟨1, true, false, 34, 2, [[(iV (0 : Int)), V.nilsl]]⟩ : Blk) ∧ H 5 = (⟨1, true, false, 34, 2, [[(iV (o.i)), (V.ms 63 (w + 1) 0 (((raS o.tr t k).1.length) + 1))]]⟩ : Blk) ∧ (H 9).ver = v9 ∧ H 63 = (⟨w + 1, true, true, 63, 2, (List.map cT ((raS o.tr t k).1 ++ [t]))⟩ : Blk) ∧ True) ?_ ?_
  ·
   unfold r86_17
   refine R_fld_mp (o' := 1) t5 h5 (by first | rfl | simp [okB, Blk.own]) rfl ?_
   refine R_load_mp (v := (V.ms 63 w 0 ((raS o.tr t k).1.length))) (@rfl V (V.mp 5 1 0 1)) h5 (by first | rfl | simp [ldB, ldV, Blk.own, V.one]) ?_
   refine R_load_mp (v := (V.agg [(V.sl (List.map cI (t.ni))), (V.sl (List.map cI (t.no)))])) t3 h3 (by first | rfl | simp [ldB, ldV, Blk.own, V.one]) ?_
   refine R_call (evcons (@rfl V (V.agg [(V.sl (List.map cI (t.ni))), (V.sl (List.map cI (t.no)))])) evnil) (rcopied_pure t hn1 hn2) (fzv_mapcanon _ _ (by simp [-List.map_take, -List.map_drop, -List.map_append, -List.map_reverse])) (by simp [-List.map_take, -List.map_drop, -List.map_append, -List.map_reverse]) (Or.inl (by simp [-List.map_take, -List.map_drop, -List.map_append, -List.map_reverse])) ?_
   refine R_bslice (qs := [(0, (V.agg [(V.sl (List.map cI (t.ni))), (V.sl (List.map cI (t.no)))]))]) (rows := [[(V.sl (List.map cI (t.ni))), (V.sl (List.map cI (t.no)))]]) (mcons (congrArg (fun v => (0, v)) (@rfl V (V.agg [(V.sl (List.map cI (t.ni))), (V.sl (List.map cI (t.no)))]))) rfl) rfl ?_
   refine R_append1 (l := ((raS o.tr t k).1)) (f := cT) (x := t) (@rfl V (V.ms 63 w 0 ((raS o.tr t k).1.length))) h63 (by first | rfl | simp | omega) (@rfl V (V.sl [[(V.sl (List.map cI (t.ni))), (V.sl (List.map cI (t.no)))]])) rfl rfl (by omega) (by omega) ?_
   refine R_fld_mp (o' := 1) t5 h5 (by first | rfl | simp [okB, Blk.own]) rfl ?_
   refine R_store (vs := [(V.ms 63 (w + 1) 0 (((raS o.tr t k).1.length) + 1))]) (B' := (⟨1, true, false, 34, 2, [[(iV (o.i)), (V.ms 63 (w + 1) 0 (((raS o.tr t k).1.length) + 1))]]⟩ : Blk)) (@rfl V (V.mp 5 1 0 1)) (@rfl V (V.ms 63 (w + 1) 0 (((raS o.tr t k).1.length) + 1))) rfl h5 (by first | rfl | simp [stB, okB, Blk.own, putAt, V.one]) ?_
   exact R_nil ⟨t4, t5, h2, h3, h4, rfl, h9, rfl, trivial⟩
  intro T H ⟨t4, t5, h2, h3, h4, h5, h9, h63, _⟩
  refine W_seq_regc (fun T H => T 4 = (V.mp 4 1 0 0) ∧ H 2 = (⟨1, true, false, 34, 2, [[(iV (o.i)), (V.sl (List.map cT (o.tr)))]]⟩ : Blk) ∧ H 3 = (⟨1, true, false, 63, 2, [[(V.sl (List.map cI (t.ni))), (V.sl (List.map cI (t.no)))]]⟩ : Blk) ∧ H 4 = (⟨1, true, false, 34, 2, [[(iV (o.i)), (V.ms 63 (w + 1) 0 (((raS o.tr t k).1.length) + 1))]]⟩ : Blk) ∧ H 5 = (⟨1, true, false, 34, 2, [[(iV (o.i)), (V.ms 63 (w + 1) 0 (((raS o.tr t k).1.length) + 1))]]⟩ : Blk) ∧ (H 9).ver = v9 ∧ H 63 = (⟨w + 1, true, true, 63, 2, (List.map cT ((raS o.tr t k).1 ++ [t]))⟩ : Blk) ∧ True) ?_ ?_
  ·
   unfold r86_18
   refine R_load_mp (v := (V.agg [(iV (o.i)), (V.ms 63 (w + 1) 0 (((raS o.tr t k).1.length) + 1))])) t5 h5 (by first | rfl | simp [ldB, ldV, Blk.own, V.one]) ?_
   refine R_store (vs := [(iV (o.i)), (V.ms 63 (w + 1) 0 (((raS o.tr t k).1.length) + 1))]) (B' := (⟨1, true, false, 34, 2, [[(iV (o.i)), (V.ms 63 (w + 1) 0 (((raS o.tr t k).1.length) + 1))]]⟩ : Blk)) t4 (@rfl V (V.agg [(iV (o.i)), (V.ms 63 (w + 1) 0 (((raS o.tr t k).1.length) + 1))])) rfl h4 (by first | rfl | simp [stB, okB, Blk.own, putAt, V.one]) ?_
   exact R_nil ⟨t4, h2, h3, rfl, h5, h9, h63, trivial⟩
  intro T H ⟨t4, h2, h3, h4, h5, h9, h63, _⟩
  refine W_ret ?_
  refine RetC_1 (resV_c (u := (V.agg [(iV (o.i)), (V.ms 63 (w + 1) 0 (((raS o.tr t k).1.length) + 1))])) t4 h4 (by first | rfl | simp [ldB, ldV, Blk.own, V.one])) (fz_agg2 (fz_canon (by simp) rfl) (fz_ms h63 (by first | rfl | simp) (l := ((raS o.tr t k).1 ++ [t])) rfl (by first | rfl | simp | omega) (fun _ => by simp) ?_))
  · unfold raL; have e : k = o.tr.length := by omega
    rw [← e, if_neg (by simpa using d3)]
 have d3 := c16
 refine W_seq_skip ?_
 refine W_seq_regc (fun T H => T 4 = (V.mp 4 1 0 0) ∧ H 2 = (⟨1, true, false, 34, 2, [[(iV (o.i)), (V.sl (List.map cT (o.tr)))]]⟩ : Blk) ∧ H 3 = (⟨1, true, false, 63, 2, [[(V.sl (List.map cI (t.ni))), (V.sl (List.map cI (t.no)))]]⟩ : Blk) ∧ H 4 = (⟨1, true, false, 34, 2, [[(iV (o.i)), (V.ms 63 w 0 ((raS o.tr t k).1.length))]]⟩ : Blk) ∧ H 5 = (⟨1, true, false, 34, 2, [[(iV (o.i)), (V.ms 63 w 0 ((raS o.tr t k).1.length))]]⟩ : Blk) ∧ (H 9).ver = v9 ∧ H 63 = (⟨w, true, true, 63, 2, (List.map cT ((raS o.tr t k).1))⟩ : Blk) ∧ True) ?_ ?_
 ·
  unfold r86_18
  refine R_load_mp (v := (V.agg [(iV (o.i)), (V.ms 63 w 0 ((raS o.tr t k).1.length))])) t5 h5 (by first | rfl | simp [ldB, ldV, Blk.own, V.one]) ?_
  refine R_store (vs := [(iV (o.i)), (V.ms 63 w 0 ((raS o.tr t k).1.length))]) (B' := (⟨1, true, false, 34, 2, [[(iV (o.i)), (V.ms 63 w 0 ((raS o.tr t k).1.length))]]⟩ : Blk)) t4 (@rfl V (V.agg [(iV (o.i)), (V.ms 63 w 0 ((raS o.tr t k).1.length))])) rfl h4 (by first | rfl | simp [stB, okB, Blk.own, putAt, V.one]) ?_
  exact R_nil ⟨t4, h2, h3, rfl, h5, h9, h63, trivial⟩
 intro T H ⟨t4, h2, h3, h4, h5, h9, h63, _⟩
 refine W_ret ?_
 refine RetC_1 (resV_c (u := (V.agg [(iV (o.i)), (V.ms 63 w 0 ((raS o.tr t k).1.length))])) t4 h4 (by first | rfl | simp [ldB, ldV, Blk.own, V.one])) (fz_agg2 (fz_canon (by simp) rfl) (fz_ms h63 (by first | rfl | simp) (l := ((raS o.tr t k).1)) rfl (by first | rfl | simp | omega) (fun _ => by simp) ?_))
 · unfold raL; have e : k = o.tr.length := by omega
   rw [← e, if_pos (by simpa using d3)]
end Go.Proofs.Ytngkckefanbhgaa

namespace Go.Proofs.Ytngkckefanbhgaa
open Go Go.Proofs
theorem rAdd_pure (o : Ob) (t : Tr) (ho : OK o) : PureC Try.prog 46 [(V.agg [(iV (o.i)), (V.sl (List.map cT (o.tr)))]), (V.agg [(V.sl (List.map cI (t.ni))), (V.sl (List.map cI (t.no)))])] (V.tup [(V.agg [(iV ((alO o [t]).i)), (V.sl (List.map cT ((alO o [t]).tr)))]), (iV ((alR o.i o.tr [t]).2))]) := by
 refine pure_of_Wb true 6 Try.func46 s46_ok (by kernel_rfl) (by simp [s46]) (by simp) (by simp) fun hB => ?_
 simp only [bnd_map, bnd_int, bnd_bool, bnd_str, bnd_agg, bnd_pp, bnd_nil, bnd_cons, implies_true, and_true, true_and] at hB
 unfold s46
 dsimp only
 have hbd : ∀ k, k < o.tr.length → (nth o.tr k).ni.length ≤ 1048576 ∧ (nth o.tr k).no.length ≤ 1048576 := fun k hk => by have := (ho.pr k hk).1.len; have := (ho.pr k hk).1.lel; omega
 have hol := ho.len
 have e1 := alR_oneE ho t
 have e2 := alO_one ho t
 refine W_seq_regc (fun T H => T 2 = (V.mp 2 1 0 0) ∧ T 3 = (V.mp 3 1 0 0) ∧ T 4 = (V.mp 4 1 0 0) ∧ H 2 = (⟨1, true, false, 34, 2, [[(iV (o.i)), (V.sl (List.map cT (o.tr)))]]⟩ : Blk) ∧ H 3 = (⟨1, true, false, 63, 2, [[(V.sl (List.map cI (t.ni))), (V.sl (List.map cI (t.no)))]]⟩ : Blk) ∧ H 4 = (⟨1, true, false, 34, 2, [[(iV (0 : Int)), V.nilsl]]⟩ : Blk) ∧ H 8 = (⟨0, false, false, 0, 0, []⟩ : Blk) ∧ True) ?_ ?_
 ·
  unfold r46_0
  refine R_box (i := 2) (n := 0) (m := 2) (cs := [(iV (o.i)), (V.sl (List.map cT (o.tr)))]) rfl (congrArg Blk.ver rfl) (@rfl V (V.agg [(iV (o.i)), (V.sl (List.map cT (o.tr)))])) rfl rfl ?_
  refine R_box (i := 3) (n := 0) (m := 2) (cs := [(V.sl (List.map cI (t.ni))), (V.sl (List.map cI (t.no)))]) rfl (congrArg Blk.ver rfl) (@rfl V (V.agg [(V.sl (List.map cI (t.ni))), (V.sl (List.map cI (t.no)))])) rfl rfl ?_
  refine R_alloc (i := 4) (n := 0) (m := 2) rfl (congrArg Blk.ver rfl) rfl ?_
  refine R_mv (@rfl V (iV (0 : Int))) ?_
  exact R_nil ⟨rfl, rfl, rfl, rfl, rfl, rfl, rfl, trivial⟩
 intro T H ⟨t2, t3, t4, h2, h3, h4, h8, _⟩
 refine W_seq_seq ?_
 refine W_seq_regc (fun T H => T 2 = (V.mp 2 1 0 0) ∧ T 3 = (V.mp 3 1 0 0) ∧ T 4 = (V.mp 4 1 0 0) ∧ T 6 = (iV (prE t ((o.i)))) ∧ H 2 = (⟨1, true, false, 34, 2, [[(iV (o.i)), (V.sl (List.map cT (o.tr)))]]⟩ : Blk) ∧ H 3 = (⟨1, true, false, 63, 2, [[(V.sl (List.map cI (t.ni))), (V.sl (List.map cI (t.no)))]]⟩ : Blk) ∧ H 4 = (⟨1, true, false, 34, 2, [[(iV (0 : Int)), V.nilsl]]⟩ : Blk) ∧ H 8 = (⟨0, false, false, 0, 0, []⟩ : Blk) ∧ True) ?_ ?_
 ·
  unfold r46_1
  refine R_load_mp (v := (V.agg [(V.sl (List.map cI (t.ni))), (V.sl (List.map cI (t.no)))])) t3 h3 (by first | rfl | simp [ldB, ldV, Blk.own, V.one]) ?_
  refine R_fld_mp (o' := 0) t2 h2 (by first | rfl | simp [okB, Blk.own]) rfl ?_
  refine R_load_mp (v := (iV (o.i))) (@rfl V (V.mp 2 1 0 0)) h2 (by first | rfl | simp [ldB, ldV, Blk.own, V.one]) ?_
  refine R_call (evcons (@rfl V (V.agg [(V.sl (List.map cI (t.ni))), (V.sl (List.map cI (t.no)))])) (evcons (@rfl V (iV (o.i))) evnil)) (rproper_pure t ((o.i))) (fzv_mapcanon _ _ (by simp [-List.map_take, -List.map_drop, -List.map_append, -List.map_reverse])) (by simp [-List.map_take, -List.map_drop, -List.map_append, -List.map_reverse]) (Or.inl (by simp [-List.map_take, -List.map_drop, -List.map_append, -List.map_reverse])) ?_
  refine R_mv (@rfl V (iV (prE t ((o.i))))) ?_
  exact R_nil ⟨t2, t3, t4, rfl, h2, h3, h4, h8, trivial⟩
 intro T H ⟨t2, t3, t4, t6, h2, h3, h4, h8, _⟩
 refine W_seq_seq ?_
 refine W_seq_regc (fun T H => T 2 = (V.mp 2 1 0 0) ∧ T 3 = (V.mp 3 1 0 0) ∧ T 4 = (V.mp 4 1 0 0) ∧ T 6 = (iV (prE t ((o.i)))) ∧ T 14 = (V.bool (decide ((prE t ((o.i))) ≠ (0 : Int)))) ∧ H 2 = (⟨1, true, false, 34, 2, [[(iV (o.i)), (V.sl (List.map cT (o.tr)))]]⟩ : Blk) ∧ H 3 = (⟨1, true, false, 63, 2, [[(V.sl (List.map cI (t.ni))), (V.sl (List.map cI (t.no)))]]⟩ : Blk) ∧ H 4 = (⟨1, true, false, 34, 2, [[(iV (0 : Int)), V.nilsl]]⟩ : Blk) ∧ H 8 = (⟨0, false, false, 0, 0, []⟩ : Blk) ∧ True) ?_ ?_
 ·
  unfold r46_2
  refine R_mv t6 ?_
  refine R_neq (x := (prE t ((o.i)))) (y := (0 : Int)) (@rfl V (iV (prE t ((o.i))))) (@rfl V (iV (0 : Int))) ?_
  exact R_nil ⟨t2, t3, t4, t6, rfl, h2, h3, h4, h8, trivial⟩
 intro T H ⟨t2, t3, t4, t6, t14, h2, h3, h4, h8, _⟩
 refine W_seq_if (p := (prE t ((o.i))) ≠ (0 : Int)) t14 (fun c1 => ?_) (fun c1 => ?_)
 ·
  have d1 := c1
  refine W_seq_seq ?_
  refine W_seq_regc (fun T H => T 4 = (V.mp 4 1 0 0) ∧ T 5 = (iV (prE t ((o.i)))) ∧ H 2 = (⟨1, true, false, 34, 2, [[(iV (o.i)), (V.sl (List.map cT (o.tr)))]]⟩ : Blk) ∧ H 3 = (⟨1, true, false, 63, 2, [[(V.sl (List.map cI (t.ni))), (V.sl (List.map cI (t.no)))]]⟩ : Blk) ∧ H 4 = (⟨1, true, false, 34, 2, [[(iV (o.i)), (V.sl (List.map cT (o.tr)))]]⟩ : Blk) ∧ H 8 = (⟨0, false, false, 0, 0, []⟩ : Blk) ∧ True) ?_ ?_
  ·
   unfold r46_3
   refine R_load_mp (v := (V.agg [(iV (o.i)), (V.sl (List.map cT (o.tr)))])) t2 h2 (by first | rfl | simp [ldB, ldV, Blk.own, V.one]) ?_
   refine R_mv t6 ?_
   refine R_store (vs := [(iV (o.i)), (V.sl (List.map cT (o.tr)))]) (B' := (⟨1, true, false, 34, 2, [[(iV (o.i)), (V.sl (List.map cT (o.tr)))]]⟩ : Blk)) t4 (@rfl V (V.agg [(iV (o.i)), (V.sl (List.map cT (o.tr)))])) rfl h4 (by first | rfl | simp [stB, okB, Blk.own, putAt, V.one]) ?_
   refine R_mv (@rfl V (iV (prE t ((o.i))))) ?_
   exact R_nil ⟨t4, rfl, h2, h3, rfl, h8, trivial⟩
  intro T H ⟨t4, t5, h2, h3, h4, h8, _⟩
  refine W_seq_ret ?_
  refine RetC_2 (resV_c (u := (V.agg [(iV (o.i)), (V.sl (List.map cT (o.tr)))])) t4 h4 (by first | rfl | simp [ldB, ldV, Blk.own, V.one])) (resV_t t5) (fz_agg2 (fz_int ?_) (fz_sl ?_ (fun _ => by simp))) (fz_int ?_)
  · rw [alO_i]
  · rw [e2, if_pos (by rw [e1, if_pos d1]; first | exact d1 | decide)]
  · rw [e1, if_pos d1]
 have d1 := c1
 have hp1 := prE_ok (t := t) (n := o.i) (by omega)
 have hp2 := hp1.len
 have hp3 := hp1.lel
 refine W_seq_skip ?_
 refine W_seq_seq ?_
 refine W_seq_regc (fun T H => T 2 = (V.mp 2 1 0 0) ∧ T 3 = (V.mp 3 1 0 0) ∧ T 4 = (V.mp 4 1 0 0) ∧ T 7 = (iV (0 : Int)) ∧ H 2 = (⟨1, true, false, 34, 2, [[(iV (o.i)), (V.sl (List.map cT (o.tr)))]]⟩ : Blk) ∧ H 3 = (⟨1, true, false, 63, 2, [[(V.sl (List.map cI (t.ni))), (V.sl (List.map cI (t.no)))]]⟩ : Blk) ∧ H 4 = (⟨1, true, false, 34, 2, [[(iV (0 : Int)), V.nilsl]]⟩ : Blk) ∧ H 8 = (⟨0, false, false, 0, 0, []⟩ : Blk) ∧ True) ?_ ?_
 ·
  unfold r46_4
  refine R_mv (@rfl V (iV (0 : Int))) ?_
  exact R_nil ⟨t2, t3, t4, rfl, h2, h3, h4, h8, trivial⟩
 intro T H ⟨t2, t3, t4, t7, h2, h3, h4, h8, _⟩
 refine W_seq_blockg fun Q2 n2 x2 y2 z2 => ?_
 refine W_loop (fun mm T H => ∃ (k : Nat), mm = o.tr.length - k ∧ T 2 = (V.mp 2 1 0 0) ∧ T 3 = (V.mp 3 1 0 0) ∧ T 4 = (V.mp 4 1 0 0) ∧ T 7 = (iV ((k : Nat) : Int)) ∧ H 2 = (⟨1, true, false, 34, 2, [[(iV (o.i)), (V.sl (List.map cT (o.tr)))]]⟩ : Blk) ∧ H 3 = (⟨1, true, false, 63, 2, [[(V.sl (List.map cI (t.ni))), (V.sl (List.map cI (t.no)))]]⟩ : Blk) ∧ H 4 = (⟨1, true, false, 34, 2, [[(iV (0 : Int)), V.nilsl]]⟩ : Blk) ∧ H 8 = (⟨0, false, false, 0, 0, []⟩ : Blk) ∧ (k ≤ o.tr.length) ∧ (fi (ndP o.tr t) 0 o.tr.length = fi (ndP o.tr t) k (o.tr.length - k))) ?_ ?_
 ·
  refine ⟨_, 0, rfl, t2, t3, t4, (Eq.trans t7 (by first | rfl | simp)), h2, h3, h4, h8, ?_, ?_⟩
  · omega
  · rfl
 intro mm T H ⟨k, hmm, t2, t3, t4, t7, h2, h3, h4, h8, hk, hc⟩ Q3 p13 p23 p33
 unfold b46_0
 refine W_seq_seq ?_
 refine W_seq_regc (fun T H => T 2 = (V.mp 2 1 0 0) ∧ T 3 = (V.mp 3 1 0 0) ∧ T 4 = (V.mp 4 1 0 0) ∧ T 7 = (iV ((k : Nat) : Int)) ∧ T 21 = (V.bool (decide (((k : Nat) : Int) < ((o.tr.length : Nat) : Int)))) ∧ H 2 = (⟨1, true, false, 34, 2, [[(iV (o.i)), (V.sl (List.map cT (o.tr)))]]⟩ : Blk) ∧ H 3 = (⟨1, true, false, 63, 2, [[(V.sl (List.map cI (t.ni))), (V.sl (List.map cI (t.no)))]]⟩ : Blk) ∧ H 4 = (⟨1, true, false, 34, 2, [[(iV (0 : Int)), V.nilsl]]⟩ : Blk) ∧ H 8 = (⟨0, false, false, 0, 0, []⟩ : Blk) ∧ True) ?_ ?_
 ·
  unfold r46_5
  refine R_mv t7 ?_
  refine R_fld_mp (o' := 1) t2 h2 (by first | rfl | simp [okB, Blk.own]) rfl ?_
  refine R_load_mp (v := (V.sl (List.map cT (o.tr)))) (@rfl V (V.mp 2 1 0 1)) h2 (by first | rfl | simp [ldB, ldV, Blk.own, V.one]) ?_
  refine R_len (@rfl V (V.sl (List.map cT (o.tr)))) ?_
  refine R_lss (x := ((k : Nat) : Int)) (y := ((o.tr.length : Nat) : Int)) (@rfl V (iV ((k : Nat) : Int))) (@rfl V (iV ((o.tr.length : Nat) : Int))) ?_
  exact R_nil ⟨t2, t3, t4, t7, rfl, h2, h3, h4, h8, trivial⟩
 intro T H ⟨t2, t3, t4, t7, t21, h2, h3, h4, h8, _⟩
 refine W_seq_if (p := ((k : Nat) : Int) < ((o.tr.length : Nat) : Int)) t21 (fun c4 => ?_) (fun c4 => ?_)
 ·
  refine W_seq_skip ?_
  refine W_seq_blockg fun Q5 n5 x5 y5 z5 => ?_
  refine W_seq_regc (fun T H => T 2 = (V.mp 2 1 0 0) ∧ T 3 = (V.mp 3 1 0 0) ∧ T 4 = (V.mp 4 1 0 0) ∧ T 7 = (iV ((k : Nat) : Int)) ∧ T 31 = (V.bool (decide ((0 : Int) ≤ (df ((nth (o.tr) (k))) t)))) ∧ H 2 = (⟨1, true, false, 34, 2, [[(iV (o.i)), (V.sl (List.map cT (o.tr)))]]⟩ : Blk) ∧ H 3 = (⟨1, true, false, 63, 2, [[(V.sl (List.map cI (t.ni))), (V.sl (List.map cI (t.no)))]]⟩ : Blk) ∧ H 4 = (⟨1, true, false, 34, 2, [[(iV (0 : Int)), V.nilsl]]⟩ : Blk) ∧ H 8 = (⟨0, false, false, 0, 0, []⟩ : Blk) ∧ True) ?_ ?_
  ·
   unfold r46_7
   refine R_fld_mp (o' := 1) t2 h2 (by first | rfl | simp [okB, Blk.own]) rfl ?_
   refine R_load_mp (v := (V.sl (List.map cT (o.tr)))) (@rfl V (V.mp 2 1 0 1)) h2 (by first | rfl | simp [ldB, ldV, Blk.own, V.one]) ?_
   refine R_mv t7 ?_
   refine R_idx (i := k) (@rfl V (V.sl (List.map cT (o.tr)))) (@rfl V (iV ((k : Nat) : Int))) (by omega) rfl ?_
   refine R_load_pp (v := (V.agg [(V.sl (List.map cI ((nth (o.tr) (k)).ni))), (V.sl (List.map cI ((nth (o.tr) (k)).no)))])) (@rfl V (V.pp [(V.sl (List.map cI ((nth (o.tr) (k)).ni))), (V.sl (List.map cI ((nth (o.tr) (k)).no)))])) (by first | rfl | simp [ldV]) ?_
   refine R_load_mp (v := (V.agg [(V.sl (List.map cI (t.ni))), (V.sl (List.map cI (t.no)))])) t3 h3 (by first | rfl | simp [ldB, ldV, Blk.own, V.one]) ?_
   refine R_call (evcons (@rfl V (V.agg [(V.sl (List.map cI ((nth (o.tr) (k)).ni))), (V.sl (List.map cI ((nth (o.tr) (k)).no)))])) (evcons (@rfl V (V.agg [(V.sl (List.map cI (t.ni))), (V.sl (List.map cI (t.no)))])) evnil)) (rdiffer_pure ((nth (o.tr) (k))) t ((ho.pr k (by omega)).1.len) hp1.len) (fzv_mapcanon _ _ (by simp [-List.map_take, -List.map_drop, -List.map_append, -List.map_reverse])) (by simp [-List.map_take, -List.map_drop, -List.map_append, -List.map_reverse]) (Or.inl (by simp [-List.map_take, -List.map_drop, -List.map_append, -List.map_reverse])) ?_
   refine R_geq (x := (df ((nth (o.tr) (k))) t)) (y := (0 : Int)) (@rfl V (iV (df ((nth (o.tr) (k))) t))) (@rfl V (iV (0 : Int))) ?_
   exact R_nil ⟨t2, t3, t4, t7, rfl, h2, h3, h4, h8, trivial⟩
  intro T H ⟨t2, t3, t4, t7, t31, h2, h3, h4, h8, _⟩
  refine W_if (p := (0 : Int) ≤ (df ((nth (o.tr) (k))) t)) t31 (fun c6 => ?_) (fun c6 => ?_)
  ·
   have d2 : ndP o.tr t k = true := decide_eq_true c6
   refine W_seq_regc (fun T H => T 4 = (V.mp 4 1 0 0) ∧ T 5 = (iV (13 : Int)) ∧ H 2 = (⟨1, true, false, 34, 2, [[(iV (o.i)), (V.sl (List.map cT (o.tr)))]]⟩ : Blk) ∧ H 3 = (⟨1, true, false, 63, 2, [[(V.sl (List.map cI (t.ni))), (V.sl (List.map cI (t.no)))]]⟩ : Blk) ∧ H 4 = (⟨1, true, false, 34, 2, [[(iV (o.i)), (V.sl (List.map cT (o.tr)))]]⟩ : Blk) ∧ H 8 = (⟨0, false, false, 0, 0, []⟩ : Blk) ∧ True) ?_ ?_
   ·
    unfold r46_8
    refine R_load_mp (v := (V.agg [(iV (o.i)), (V.sl (List.map cT (o.tr)))])) t2 h2 (by first | rfl | simp [ldB, ldV, Blk.own, V.one]) ?_
    refine R_store (vs := [(iV (o.i)), (V.sl (List.map cT (o.tr)))]) (B' := (⟨1, true, false, 34, 2, [[(iV (o.i)), (V.sl (List.map cT (o.tr)))]]⟩ : Blk)) t4 (@rfl V (V.agg [(iV (o.i)), (V.sl (List.map cT (o.tr)))])) rfl h4 (by first | rfl | simp [stB, okB, Blk.own, putAt, V.one]) ?_
    refine R_mv (@rfl V (iV (13 : Int))) ?_
    exact R_nil ⟨t4, rfl, h2, h3, rfl, h8, trivial⟩
   intro T H ⟨t4, t5, h2, h3, h4, h8, _⟩
   refine W_ret ?_
   refine y5 _ _ ?_
   refine p23 _ _ ?_
   refine y2 _ _ ?_
   refine RetC_2 (resV_c (u := (V.agg [(iV (o.i)), (V.sl (List.map cT (o.tr)))])) t4 h4 (by first | rfl | simp [ldB, ldV, Blk.own, V.one])) (resV_t t5) (fz_agg2 (fz_int ?_) (fz_sl ?_ (fun _ => by simp))) (fz_int ?_)
   · rw [alO_i]
   · rw [e2, if_pos (by rw [e1, if_neg d1, if_pos (by rw [hc, fi_hit d2 (by omega)]; omega)]; first | exact d1 | decide)]
   · rw [e1, if_neg d1, if_pos (by rw [hc, fi_hit d2 (by omega)]; omega)]
  have d2 : ndP o.tr t k = false := decide_eq_false c6
  refine W_skip ?_
  refine n5 _ _ ?_
  refine .done ?_
  refine W_regc (fun T H => T 2 = (V.mp 2 1 0 0) ∧ T 3 = (V.mp 3 1 0 0) ∧ T 4 = (V.mp 4 1 0 0) ∧ T 7 = (iV ((k + 1 : Nat) : Int)) ∧ H 2 = (⟨1, true, false, 34, 2, [[(iV (o.i)), (V.sl (List.map cT (o.tr)))]]⟩ : Blk) ∧ H 3 = (⟨1, true, false, 63, 2, [[(V.sl (List.map cI (t.ni))), (V.sl (List.map cI (t.no)))]]⟩ : Blk) ∧ H 4 = (⟨1, true, false, 34, 2, [[(iV (0 : Int)), V.nilsl]]⟩ : Blk) ∧ H 8 = (⟨0, false, false, 0, 0, []⟩ : Blk) ∧ True) ?_ ?_
  ·
   unfold r46_6
   refine R_mv t7 ?_
   refine R_addN (m := k) (n := 1) (@rfl V (iV ((k : Nat) : Int))) (@rfl V (iV ((1 : Nat) : Int))) (by omega) ?_
   refine R_mv (@rfl V (iV ((k + 1 : Nat) : Int))) ?_
   exact R_nil ⟨t2, t3, t4, rfl, h2, h3, h4, h8, trivial⟩
  intro T H ⟨t2, t3, t4, t7, h2, h3, h4, h8, _⟩
  refine p13 _ _ _ ?_ ⟨(k + 1), rfl, t2, t3, t4, (Eq.trans t7 (by first | rfl | simp)), h2, h3, h4, h8, ?_, ?_⟩
  · omega
  · omega
  · rw [hc, fi_skip d2 (by omega)]
 refine W_seq_exit ?_
 refine p33 _ _ _ ?_
 refine x2 _ _ ?_
 refine .done ?_
 refine W_seq_regc (fun T H => T 2 = (V.mp 2 1 0 0) ∧ T 4 = (V.mp 4 1 0 0) ∧ T 8 = (V.mp 8 1 0 0) ∧ H 2 = (⟨1, true, false, 34, 2, [[(iV (o.i)), (V.sl (List.map cT (o.tr)))]]⟩ : Blk) ∧ H 3 = (⟨1, true, false, 63, 2, [[(V.sl (List.map cI (t.ni))), (V.sl (List.map cI (t.no)))]]⟩ : Blk) ∧ H 4 = (⟨1, true, false, 34, 2, [[(iV (0 : Int)), V.nilsl]]⟩ : Blk) ∧ H 8 = (⟨1, true, false, 34, 2, [[(iV (o.i)), (V.sl (List.map cT (raL o.tr t)))]]⟩ : Blk) ∧ True) ?_ ?_
 ·
  unfold r46_9
  refine R_load_mp (v := (V.agg [(iV (o.i)), (V.sl (List.map cT (o.tr)))])) t2 h2 (by first | rfl | simp [ldB, ldV, Blk.own, V.one]) ?_
  refine R_load_mp (v := (V.agg [(V.sl (List.map cI (t.ni))), (V.sl (List.map cI (t.no)))])) t3 h3 (by first | rfl | simp [ldB, ldV, Blk.own, V.one]) ?_
  refine R_call (evcons (@rfl V (V.agg [(iV (o.i)), (V.sl (List.map cT (o.tr)))])) (evcons (@rfl V (V.agg [(V.sl (List.map cI (t.ni))), (V.sl (List.map cI (t.no)))])) evnil)) (radd_pure o t (by omega) (by omega) hbd (by omega)) (fzv_mapcanon _ _ (by simp [-List.map_take, -List.map_drop, -List.map_append, -List.map_reverse])) (by simp [-List.map_take, -List.map_drop, -List.map_append, -List.map_reverse]) (Or.inl (by simp [-List.map_take, -List.map_drop, -List.map_append, -List.map_reverse])) ?_
  refine R_alloc (i := 8) (n := 0) (m := 2) rfl (congrArg Blk.ver h8) rfl ?_
  refine R_store (vs := [(iV (o.i)), (V.sl (List.map cT (raL o.tr t)))]) (B' := (⟨1, true, false, 34, 2, [[(iV (o.i)), (V.sl (List.map cT (raL o.tr t)))]]⟩ : Blk)) (@rfl V (V.mp 8 1 0 0)) (@rfl V (V.agg [(iV (o.i)), (V.sl (List.map cT (raL o.tr t)))])) rfl (@rfl Blk (⟨1, true, false, 34, 2, [[(iV (0 : Int)), V.nilsl]]⟩ : Blk)) (by first | rfl | simp [stB, okB, Blk.own, putAt, V.one]) ?_
  exact R_nil ⟨t2, t4, rfl, h2, h3, h4, rfl, trivial⟩
 intro T H ⟨t2, t4, t8, h2, h3, h4, h8, _⟩
 refine W_seq_seq ?_
 refine W_seq_regc (fun T H => T 2 = (V.mp 2 1 0 0) ∧ T 4 = (V.mp 4 1 0 0) ∧ T 8 = (V.mp 8 1 0 0) ∧ T 39 = (V.bool (decide ((10000 : Int) < (((raL o.tr t).length : Nat) : Int)))) ∧ H 2 = (⟨1, true, false, 34, 2, [[(iV (o.i)), (V.sl (List.map cT (o.tr)))]]⟩ : Blk) ∧ H 3 = (⟨1, true, false, 63, 2, [[(V.sl (List.map cI (t.ni))), (V.sl (List.map cI (t.no)))]]⟩ : Blk) ∧ H 4 = (⟨1, true, false, 34, 2, [[(iV (0 : Int)), V.nilsl]]⟩ : Blk) ∧ H 8 = (⟨1, true, false, 34, 2, [[(iV (o.i)), (V.sl (List.map cT (raL o.tr t)))]]⟩ : Blk) ∧ True) ?_ ?_
 ·
  unfold r46_10
  refine R_fld_mp (o' := 1) t8 h8 (by first | rfl | simp [okB, Blk.own]) rfl ?_
  refine R_load_mp (v := (V.sl (List.map cT (raL o.tr t)))) (@rfl V (V.mp 8 1 0 1)) h8 (by first | rfl | simp [ldB, ldV, Blk.own, V.one]) ?_
  refine R_len (@rfl V (V.sl (List.map cT (raL o.tr t)))) ?_
  refine R_gtr (x := (((raL o.tr t).length : Nat) : Int)) (y := (10000 : Int)) (@rfl V (iV (((raL o.tr t).length : Nat) : Int))) (@rfl V (iV (10000 : Int))) ?_
  exact R_nil ⟨t2, t4, t8, rfl, h2, h3, h4, h8, trivial⟩
 intro T H ⟨t2, t4, t8, t39, h2, h3, h4, h8, _⟩
 refine W_seq_if (p := (10000 : Int) < (((raL o.tr t).length : Nat) : Int)) t39 (fun c7 => ?_) (fun c7 => ?_)
 ·
  have d3 := c7
  refine W_seq_seq ?_
  refine W_seq_regc (fun T H => T 4 = (V.mp 4 1 0 0) ∧ T 5 = (iV (11 : Int)) ∧ H 2 = (⟨1, true, false, 34, 2, [[(iV (o.i)), (V.sl (List.map cT (o.tr)))]]⟩ : Blk) ∧ H 3 = (⟨1, true, false, 63, 2, [[(V.sl (List.map cI (t.ni))), (V.sl (List.map cI (t.no)))]]⟩ : Blk) ∧ H 4 = (⟨1, true, false, 34, 2, [[(iV (o.i)), (V.sl (List.map cT (o.tr)))]]⟩ : Blk) ∧ H 8 = (⟨1, true, false, 34, 2, [[(iV (o.i)), (V.sl (List.map cT (raL o.tr t)))]]⟩ : Blk) ∧ True) ?_ ?_
  ·
   unfold r46_11
   refine R_load_mp (v := (V.agg [(iV (o.i)), (V.sl (List.map cT (o.tr)))])) t2 h2 (by first | rfl | simp [ldB, ldV, Blk.own, V.one]) ?_
   refine R_store (vs := [(iV (o.i)), (V.sl (List.map cT (o.tr)))]) (B' := (⟨1, true, false, 34, 2, [[(iV (o.i)), (V.sl (List.map cT (o.tr)))]]⟩ : Blk)) t4 (@rfl V (V.agg [(iV (o.i)), (V.sl (List.map cT (o.tr)))])) rfl h4 (by first | rfl | simp [stB, okB, Blk.own, putAt, V.one]) ?_
   refine R_mv (@rfl V (iV (11 : Int))) ?_
   exact R_nil ⟨t4, rfl, h2, h3, rfl, h8, trivial⟩
  intro T H ⟨t4, t5, h2, h3, h4, h8, _⟩
  refine W_seq_ret ?_
  refine RetC_2 (resV_c (u := (V.agg [(iV (o.i)), (V.sl (List.map cT (o.tr)))])) t4 h4 (by first | rfl | simp [ldB, ldV, Blk.own, V.one])) (resV_t t5) (fz_agg2 (fz_int ?_) (fz_sl ?_ (fun _ => by simp))) (fz_int ?_)
  · rw [alO_i]
  · rw [e2, if_pos (by rw [e1, if_neg d1, if_neg (by rw [hc, fi_end (by omega)]; omega), if_pos (by omega)]; first | exact d1 | decide)]
  · rw [e1, if_neg d1, if_neg (by rw [hc, fi_end (by omega)]; omega), if_pos (by omega)]
 have d3 := c7
 refine W_seq_skip ?_
 refine W_seq_regc (fun T H => T 4 = (V.mp 4 1 0 0) ∧ T 5 = (iV (0 : Int)) ∧ H 2 = (⟨1, true, false, 34, 2, [[(iV (o.i)), (V.sl (List.map cT (o.tr)))]]⟩ : Blk) ∧ H 3 = (⟨1, true, false, 63, 2, [[(V.sl (List.map cI (t.ni))), (V.sl (List.map cI (t.no)))]]⟩ : Blk) ∧ H 4 = (⟨1, true, false, 34, 2, [[(iV (o.i)), (V.sl (List.map cT (raL o.tr t)))]]⟩ : Blk) ∧ H 8 = (⟨1, true, false, 34, 2, [[(iV (o.i)), (V.sl (List.map cT (raL o.tr t)))]]⟩ : Blk) ∧ True) ?_ ?_
 ·
  unfold r46_12
  refine R_load_mp (v := (V.agg [(iV (o.i)), (V.sl (List.map cT (raL o.tr t)))])) t8 h8 (by first | rfl | simp [ldB, ldV, Blk.own, V.one]) ?_
  refine R_store (vs := [(iV (o.i)), (V.sl (List.map cT (raL o.tr t)))]) (B' := (⟨1, true, false, 34, 2, [[(iV (o.i)), (V.sl (List.map cT (raL o.tr t)))]]⟩ : Blk)) t4 (@rfl V (V.agg [(iV (o.i)), (V.sl (List.map cT (raL o.tr t)))])) rfl h4 (by first | rfl | simp [stB, okB, Blk.own, putAt, V.one]) ?_
  refine R_mv (@rfl V (iV (0 : Int))) ?_
  exact R_nil ⟨t4, rfl, h2, h3, rfl, h8, trivial⟩
 intro T H ⟨t4, t5, h2, h3, h4, h8, _⟩
 refine W_ret ?_
 refine RetC_2 (resV_c (u := (V.agg [(iV (o.i)), (V.sl (List.map cT (raL o.tr t)))])) t4 h4 (by first | rfl | simp [ldB, ldV, Blk.own, V.one])) (resV_t t5) (fz_agg2 (fz_int ?_) (fz_sl ?_ (fun _ => by simp))) (fz_int ?_)
 · rw [alO_i]
 · rw [e2, if_neg (by rw [e1, if_neg d1, if_neg (by rw [hc, fi_end (by omega)]; omega), if_neg (by omega)]; decide)]
 · rw [e1, if_neg d1, if_neg (by rw [hc, fi_end (by omega)]; omega), if_neg (by omega)]
end Go.Proofs.Ytngkckefanbhgaa

namespace Go.Proofs.Ytngkckefanbhgaa
open Go Go.Proofs
theorem rall_pure (o : Ob) (l : List Tr) (ho : OK o) : PureC Try.prog 88 [(V.agg [(iV (o.i)), (V.sl (List.map cT (o.tr)))]), (V.sl (List.map cT (l)))] (V.tup [(V.agg [(iV ((alO o l).i)), (V.sl (List.map cT ((alO o l).tr)))]), (iV ((alR o.i o.tr l).2))]) := by
 refine pure_of_Wb true 6 Try.func88 s88_ok (by kernel_rfl) (by simp [s88]) (by simp) (by simp) fun hB => ?_
 simp only [bnd_map, bnd_int, bnd_bool, bnd_str, bnd_agg, bnd_pp, bnd_nil, bnd_cons, implies_true, and_true, true_and] at hB
 unfold s88
 dsimp only
 refine W_seq_regc (fun T H => T 1 = (V.sl (List.map cT (l))) ∧ T 2 = (V.mp 2 1 0 0) ∧ T 4 = (V.mp 4 1 0 0) ∧ H 2 = (⟨1, true, false, 34, 2, [[(iV (o.i)), (V.sl (List.map cT (o.tr)))]]⟩ : Blk) ∧ H 4 = (⟨1, true, false, 34, 2, [[(iV (0 : Int)), V.nilsl]]⟩ : Blk) ∧ H 6 = (⟨0, false, false, 0, 0, []⟩ : Blk) ∧ H 8 = (⟨0, false, false, 0, 0, []⟩ : Blk) ∧ True) ?_ ?_
 ·
  unfold r88_0
  refine R_box (i := 2) (n := 0) (m := 2) (cs := [(iV (o.i)), (V.sl (List.map cT (o.tr)))]) rfl (congrArg Blk.ver rfl) (@rfl V (V.agg [(iV (o.i)), (V.sl (List.map cT (o.tr)))])) rfl rfl ?_
  refine R_alloc (i := 4) (n := 0) (m := 2) rfl (congrArg Blk.ver rfl) rfl ?_
  refine R_mv (@rfl V (iV (0 : Int))) ?_
  exact R_nil ⟨rfl, rfl, rfl, rfl, rfl, rfl, rfl, trivial⟩
 intro T H ⟨t1, t2, t4, h2, h4, h6, h8, _⟩
 refine W_seq_regc (fun T H => T 1 = (V.sl (List.map cT (l))) ∧ T 2 = (V.mp 2 1 0 0) ∧ T 4 = (V.mp 4 1 0 0) ∧ T 6 = (V.mp 6 1 0 0) ∧ H 2 = (⟨1, true, false, 34, 2, [[(iV (o.i)), (V.sl (List.map cT (o.tr)))]]⟩ : Blk) ∧ H 4 = (⟨1, true, false, 34, 2, [[(iV (0 : Int)), V.nilsl]]⟩ : Blk) ∧ H 6 = (⟨1, true, false, 34, 2, [[(iV (o.i)), (V.sl (List.map cT (o.tr)))]]⟩ : Blk) ∧ H 8 = (⟨0, false, false, 0, 0, []⟩ : Blk) ∧ True) ?_ ?_
 ·
  unfold r88_1
  refine R_load_mp (v := (V.agg [(iV (o.i)), (V.sl (List.map cT (o.tr)))])) t2 h2 (by first | rfl | simp [ldB, ldV, Blk.own, V.one]) ?_
  refine R_alloc (i := 6) (n := 0) (m := 2) rfl (congrArg Blk.ver h6) rfl ?_
  refine R_store (vs := [(iV (o.i)), (V.sl (List.map cT (o.tr)))]) (B' := (⟨1, true, false, 34, 2, [[(iV (o.i)), (V.sl (List.map cT (o.tr)))]]⟩ : Blk)) (@rfl V (V.mp 6 1 0 0)) (@rfl V (V.agg [(iV (o.i)), (V.sl (List.map cT (o.tr)))])) rfl (@rfl Blk (⟨1, true, false, 34, 2, [[(iV (0 : Int)), V.nilsl]]⟩ : Blk)) (by first | rfl | simp [stB, okB, Blk.own, putAt, V.one]) ?_
  exact R_nil ⟨t1, t2, t4, rfl, h2, h4, rfl, h8, trivial⟩
 intro T H ⟨t1, t2, t4, t6, h2, h4, h6, h8, _⟩
 refine W_seq_seq ?_
 refine W_seq_regc (fun T H => T 1 = (V.sl (List.map cT (l))) ∧ T 2 = (V.mp 2 1 0 0) ∧ T 4 = (V.mp 4 1 0 0) ∧ T 6 = (V.mp 6 1 0 0) ∧ T 7 = (iV (0 : Int)) ∧ H 2 = (⟨1, true, false, 34, 2, [[(iV (o.i)), (V.sl (List.map cT (o.tr)))]]⟩ : Blk) ∧ H 4 = (⟨1, true, false, 34, 2, [[(iV (0 : Int)), V.nilsl]]⟩ : Blk) ∧ H 6 = (⟨1, true, false, 34, 2, [[(iV (o.i)), (V.sl (List.map cT (o.tr)))]]⟩ : Blk) ∧ H 8 = (⟨0, false, false, 0, 0, []⟩ : Blk) ∧ True) ?_ ?_
 ·
  unfold r88_2
  refine R_mv (@rfl V (iV (0 : Int))) ?_
  exact R_nil ⟨t1, t2, t4, t6, rfl, h2, h4, h6, h8, trivial⟩
 intro T H ⟨t1, t2, t4, t6, t7, h2, h4, h6, h8, _⟩
 refine W_seq_blockg fun Q1 n1 x1 y1 z1 => ?_
 refine W_loop (fun mm T H => ∃ (k : Nat) (q : Ob) (v8 : Nat), mm = l.length - k ∧ T 1 = (V.sl (List.map cT (l))) ∧ T 2 = (V.mp 2 1 0 0) ∧ T 4 = (V.mp 4 1 0 0) ∧ T 6 = (V.mp 6 1 0 0) ∧ T 7 = (iV ((k : Nat) : Int)) ∧ H 2 = (⟨1, true, false, 34, 2, [[(iV (o.i)), (V.sl (List.map cT (o.tr)))]]⟩ : Blk) ∧ H 4 = (⟨1, true, false, 34, 2, [[(iV (0 : Int)), V.nilsl]]⟩ : Blk) ∧ H 6 = (⟨1, true, false, 34, 2, [[(iV (q.i)), (V.sl (List.map cT (q.tr)))]]⟩ : Blk) ∧ ((H 8).ver = v8 ∧ (H 8).live = false) ∧ (k ≤ l.length) ∧ (q.i = o.i) ∧ (OK q) ∧ (alR o.i o.tr l = alR q.i q.tr (l.drop k))) ?_ ?_
 ·
  refine ⟨_, 0, o, 0, rfl, t1, t2, t4, t6, (Eq.trans t7 (by first | rfl | simp)), h2, h4, h6, ⟨(congrArg Blk.ver h8), congrArg Blk.live h8⟩, ?_, ?_, ?_, ?_⟩
  · omega
  · rfl
  · exact ho
  · rfl
 intro mm T H ⟨k, q, v8, hmm, t1, t2, t4, t6, t7, h2, h4, h6, h8, hk, hi, hok, hc⟩ Q2 p12 p22 p32
 unfold b88_0
 refine W_seq_seq ?_
 refine W_seq_regc (fun T H => T 1 = (V.sl (List.map cT (l))) ∧ T 2 = (V.mp 2 1 0 0) ∧ T 4 = (V.mp 4 1 0 0) ∧ T 6 = (V.mp 6 1 0 0) ∧ T 7 = (iV ((k : Nat) : Int)) ∧ T 14 = (V.bool (decide (((k : Nat) : Int) < ((l.length : Nat) : Int)))) ∧ H 2 = (⟨1, true, false, 34, 2, [[(iV (o.i)), (V.sl (List.map cT (o.tr)))]]⟩ : Blk) ∧ H 4 = (⟨1, true, false, 34, 2, [[(iV (0 : Int)), V.nilsl]]⟩ : Blk) ∧ H 6 = (⟨1, true, false, 34, 2, [[(iV (q.i)), (V.sl (List.map cT (q.tr)))]]⟩ : Blk) ∧ ((H 8).ver = v8 ∧ (H 8).live = false) ∧ True) ?_ ?_
 ·
  unfold r88_3
  refine R_mv t7 ?_
  refine R_mv t1 ?_
  refine R_len (@rfl V (V.sl (List.map cT (l)))) ?_
  refine R_lss (x := ((k : Nat) : Int)) (y := ((l.length : Nat) : Int)) (@rfl V (iV ((k : Nat) : Int))) (@rfl V (iV ((l.length : Nat) : Int))) ?_
  exact R_nil ⟨t1, t2, t4, t6, t7, rfl, h2, h4, h6, h8, trivial⟩
 intro T H ⟨t1, t2, t4, t6, t7, t14, h2, h4, h6, h8, _⟩
 refine W_seq_if (p := ((k : Nat) : Int) < ((l.length : Nat) : Int)) t14 (fun c3 => ?_) (fun c3 => ?_)
 ·
  refine W_seq_skip ?_
  refine W_seq_blockg fun Q4 n4 x4 y4 z4 => ?_
  refine W_seq_dregc (fun T H => T 1 = (V.sl (List.map cT (l))) ∧ T 2 = (V.mp 2 1 0 0) ∧ T 4 = (V.mp 4 1 0 0) ∧ T 6 = (V.mp 6 1 0 0) ∧ T 7 = (iV ((k : Nat) : Int)) ∧ T 8 = (V.mp 8 (v8 + 1) 0 0) ∧ T 9 = (iV ((alR q.i q.tr [((nth (l) (k)))]).2)) ∧ H 2 = (⟨1, true, false, 34, 2, [[(iV (o.i)), (V.sl (List.map cT (o.tr)))]]⟩ : Blk) ∧ H 4 = (⟨1, true, false, 34, 2, [[(iV (0 : Int)), V.nilsl]]⟩ : Blk) ∧ H 6 = (⟨1, true, false, 34, 2, [[(iV (q.i)), (V.sl (List.map cT (q.tr)))]]⟩ : Blk) ∧ H 8 = (⟨v8 + 1, true, false, 34, 2, [[(iV ((alO q [((nth (l) (k)))]).i)), (V.sl (List.map cT ((alO q [((nth (l) (k)))]).tr)))]]⟩ : Blk) ∧ True) (by intro d hd; simp only [List.mem_cons, List.not_mem_nil, or_false] at hd; rcases hd with rfl <;> simp [h2, h4, h6, h8]) ?_ ?_
  ·
   unfold r88_5
   refine R_load_mp (v := (V.agg [(iV (q.i)), (V.sl (List.map cT (q.tr)))])) t6 h6 (by first | rfl | simp [ldB, ldV, Blk.own, V.one]) ?_
   refine R_mv t1 ?_
   refine R_mv t7 ?_
   refine R_idx (i := k) (@rfl V (V.sl (List.map cT (l)))) (@rfl V (iV ((k : Nat) : Int))) (by omega) rfl ?_
   refine R_load_pp (v := (V.agg [(V.sl (List.map cI ((nth (l) (k)).ni))), (V.sl (List.map cI ((nth (l) (k)).no)))])) (@rfl V (V.pp [(V.sl (List.map cI ((nth (l) (k)).ni))), (V.sl (List.map cI ((nth (l) (k)).no)))])) (by first | rfl | simp [ldV]) ?_
   refine R_call (evcons (@rfl V (V.agg [(iV (q.i)), (V.sl (List.map cT (q.tr)))])) (evcons (@rfl V (V.agg [(V.sl (List.map cI ((nth (l) (k)).ni))), (V.sl (List.map cI ((nth (l) (k)).no)))])) evnil)) (rAdd_pure q ((nth (l) (k))) hok) (fzv_mapcanon _ _ (by simp [-List.map_take, -List.map_drop, -List.map_append, -List.map_reverse])) (by simp [-List.map_take, -List.map_drop, -List.map_append, -List.map_reverse]) (Or.inl (by simp [-List.map_take, -List.map_drop, -List.map_append, -List.map_reverse])) ?_
   refine R_mv (@rfl V (V.tup [(V.agg [(iV ((alO q [((nth (l) (k)))]).i)), (V.sl (List.map cT ((alO q [((nth (l) (k)))]).tr)))]), (iV ((alR q.i q.tr [((nth (l) (k)))]).2))])) ?_
   refine R_ext (v := (V.agg [(iV ((alO q [((nth (l) (k)))]).i)), (V.sl (List.map cT ((alO q [((nth (l) (k)))]).tr)))])) (@rfl V (V.tup [(V.agg [(iV ((alO q [((nth (l) (k)))]).i)), (V.sl (List.map cT ((alO q [((nth (l) (k)))]).tr)))]), (iV ((alR q.i q.tr [((nth (l) (k)))]).2))])) rfl ?_
   refine R_ext (v := (iV ((alR q.i q.tr [((nth (l) (k)))]).2))) (@rfl V (V.tup [(V.agg [(iV ((alO q [((nth (l) (k)))]).i)), (V.sl (List.map cT ((alO q [((nth (l) (k)))]).tr)))]), (iV ((alR q.i q.tr [((nth (l) (k)))]).2))])) rfl ?_
   refine R_alloc (i := 8) (n := v8) (m := 2) rfl (h8).1 rfl ?_
   refine R_store (vs := [(iV ((alO q [((nth (l) (k)))]).i)), (V.sl (List.map cT ((alO q [((nth (l) (k)))]).tr)))]) (B' := (⟨v8 + 1, true, false, 34, 2, [[(iV ((alO q [((nth (l) (k)))]).i)), (V.sl (List.map cT ((alO q [((nth (l) (k)))]).tr)))]]⟩ : Blk)) (@rfl V (V.mp 8 (v8 + 1) 0 0)) (@rfl V (V.agg [(iV ((alO q [((nth (l) (k)))]).i)), (V.sl (List.map cT ((alO q [((nth (l) (k)))]).tr)))])) rfl (@rfl Blk (⟨v8 + 1, true, false, 34, 2, [[(iV (0 : Int)), V.nilsl]]⟩ : Blk)) (by first | rfl | simp [stB, okB, Blk.own, putAt, V.one]) ?_
   refine R_mv (@rfl V (iV ((alR q.i q.tr [((nth (l) (k)))]).2))) ?_
   exact R_nil ⟨t1, t2, t4, t6, t7, rfl, rfl, h2, h4, h6, rfl, trivial⟩
  intro T H ⟨t1, t2, t4, t6, t7, t8, t9, h2, h4, h6, h8, _⟩
  refine W_seq_seq ?_
  refine W_seq_regc (fun T H => T 1 = (V.sl (List.map cT (l))) ∧ T 2 = (V.mp 2 1 0 0) ∧ T 4 = (V.mp 4 1 0 0) ∧ T 6 = (V.mp 6 1 0 0) ∧ T 7 = (iV ((k : Nat) : Int)) ∧ T 8 = (V.mp 8 (v8 + 1) 0 0) ∧ T 9 = (iV ((alR q.i q.tr [((nth (l) (k)))]).2)) ∧ T 27 = (V.bool (decide (((alR q.i q.tr [((nth (l) (k)))]).2) ≠ (0 : Int)))) ∧ H 2 = (⟨1, true, false, 34, 2, [[(iV (o.i)), (V.sl (List.map cT (o.tr)))]]⟩ : Blk) ∧ H 4 = (⟨1, true, false, 34, 2, [[(iV (0 : Int)), V.nilsl]]⟩ : Blk) ∧ H 6 = (⟨1, true, false, 34, 2, [[(iV (q.i)), (V.sl (List.map cT (q.tr)))]]⟩ : Blk) ∧ H 8 = (⟨v8 + 1, true, false, 34, 2, [[(iV ((alO q [((nth (l) (k)))]).i)), (V.sl (List.map cT ((alO q [((nth (l) (k)))]).tr)))]]⟩ : Blk) ∧ True) ?_ ?_
  ·
   unfold r88_6
   refine R_mv t9 ?_
   refine R_neq (x := ((alR q.i q.tr [((nth (l) (k)))]).2)) (y := (0 : Int)) (@rfl V (iV ((alR q.i q.tr [((nth (l) (k)))]).2))) (@rfl V (iV (0 : Int))) ?_
   exact R_nil ⟨t1, t2, t4, t6, t7, t8, t9, rfl, h2, h4, h6, h8, trivial⟩
  intro T H ⟨t1, t2, t4, t6, t7, t8, t9, t27, h2, h4, h6, h8, _⟩
  refine W_seq_if (p := ((alR q.i q.tr [((nth (l) (k)))]).2) ≠ (0 : Int)) t27 (fun c5 => ?_) (fun c5 => ?_)
  ·
   have d1 := c5
   refine W_seq_seq ?_
   refine W_seq_regc (fun T H => T 4 = (V.mp 4 1 0 0) ∧ T 5 = (iV ((alR q.i q.tr [((nth (l) (k)))]).2)) ∧ H 2 = (⟨1, true, false, 34, 2, [[(iV (o.i)), (V.sl (List.map cT (o.tr)))]]⟩ : Blk) ∧ H 4 = (⟨1, true, false, 34, 2, [[(iV (o.i)), (V.sl (List.map cT (o.tr)))]]⟩ : Blk) ∧ H 6 = (⟨1, true, false, 34, 2, [[(iV (q.i)), (V.sl (List.map cT (q.tr)))]]⟩ : Blk) ∧ H 8 = (⟨v8 + 1, true, false, 34, 2, [[(iV ((alO q [((nth (l) (k)))]).i)), (V.sl (List.map cT ((alO q [((nth (l) (k)))]).tr)))]]⟩ : Blk) ∧ True) ?_ ?_
   ·
    unfold r88_7
    refine R_load_mp (v := (V.agg [(iV (o.i)), (V.sl (List.map cT (o.tr)))])) t2 h2 (by first | rfl | simp [ldB, ldV, Blk.own, V.one]) ?_
    refine R_mv t9 ?_
    refine R_store (vs := [(iV (o.i)), (V.sl (List.map cT (o.tr)))]) (B' := (⟨1, true, false, 34, 2, [[(iV (o.i)), (V.sl (List.map cT (o.tr)))]]⟩ : Blk)) t4 (@rfl V (V.agg [(iV (o.i)), (V.sl (List.map cT (o.tr)))])) rfl h4 (by first | rfl | simp [stB, okB, Blk.own, putAt, V.one]) ?_
    refine R_mv (@rfl V (iV ((alR q.i q.tr [((nth (l) (k)))]).2))) ?_
    exact R_nil ⟨t4, rfl, h2, rfl, h6, h8, trivial⟩
   intro T H ⟨t4, t5, h2, h4, h6, h8, _⟩
   refine W_seq_ret ?_
   refine y4 _ _ ?_
   refine p22 _ _ ?_
   refine y1 _ _ ?_
   refine RetC_2 (resV_c (u := (V.agg [(iV (o.i)), (V.sl (List.map cT (o.tr)))])) t4 h4 (by first | rfl | simp [ldB, ldV, Blk.own, V.one])) (resV_t t5) (fz_agg2 (fz_int ?_) (fz_sl ?_ (fun _ => by simp))) (fz_int ?_)
   · rw [alO_i]
   · unfold alO; rw [if_pos (by rw [hc, alR_one_er (by omega) d1]; exact d1)]
   · rw [hc, alR_one_er (by omega) d1]
  have d1 := c5
  refine W_seq_skip ?_
  refine W_regc (fun T H => T 1 = (V.sl (List.map cT (l))) ∧ T 2 = (V.mp 2 1 0 0) ∧ T 4 = (V.mp 4 1 0 0) ∧ T 6 = (V.mp 6 1 0 0) ∧ T 7 = (iV ((k : Nat) : Int)) ∧ H 2 = (⟨1, true, false, 34, 2, [[(iV (o.i)), (V.sl (List.map cT (o.tr)))]]⟩ : Blk) ∧ H 4 = (⟨1, true, false, 34, 2, [[(iV (0 : Int)), V.nilsl]]⟩ : Blk) ∧ H 6 = (⟨1, true, false, 34, 2, [[(iV ((alO q [((nth (l) (k)))]).i)), (V.sl (List.map cT ((alO q [((nth (l) (k)))]).tr)))]]⟩ : Blk) ∧ H 8 = (⟨v8 + 1, true, false, 34, 2, [[(iV ((alO q [((nth (l) (k)))]).i)), (V.sl (List.map cT ((alO q [((nth (l) (k)))]).tr)))]]⟩ : Blk) ∧ True) ?_ ?_
  ·
   unfold r88_8
   refine R_load_mp (v := (V.agg [(iV ((alO q [((nth (l) (k)))]).i)), (V.sl (List.map cT ((alO q [((nth (l) (k)))]).tr)))])) t8 h8 (by first | rfl | simp [ldB, ldV, Blk.own, V.one]) ?_
   refine R_store (vs := [(iV ((alO q [((nth (l) (k)))]).i)), (V.sl (List.map cT ((alO q [((nth (l) (k)))]).tr)))]) (B' := (⟨1, true, false, 34, 2, [[(iV ((alO q [((nth (l) (k)))]).i)), (V.sl (List.map cT ((alO q [((nth (l) (k)))]).tr)))]]⟩ : Blk)) t6 (@rfl V (V.agg [(iV ((alO q [((nth (l) (k)))]).i)), (V.sl (List.map cT ((alO q [((nth (l) (k)))]).tr)))])) rfl h6 (by first | rfl | simp [stB, okB, Blk.own, putAt, V.one]) ?_
   exact R_nil ⟨t1, t2, t4, t6, t7, h2, h4, rfl, h8, trivial⟩
  intro T H ⟨t1, t2, t4, t6, t7, h2, h4, h6, h8, _⟩
  refine n4 _ _ ?_
  refine .freeze 8 (.done ?_)
  refine fork_ (R := fun T H => T 1 = (V.sl (List.map cT (l))) ∧ T 2 = (V.mp 2 1 0 0) ∧ T 4 = (V.mp 4 1 0 0) ∧ T 6 = (V.mp 6 1 0 0) ∧ T 7 = (iV ((k : Nat) : Int)) ∧ H 2 = (⟨1, true, false, 34, 2, [[(iV (o.i)), (V.sl (List.map cT (o.tr)))]]⟩ : Blk) ∧ H 4 = (⟨1, true, false, 34, 2, [[(iV (0 : Int)), V.nilsl]]⟩ : Blk) ∧ H 6 = (⟨1, true, false, 34, 2, [[(iV ((alO q [((nth (l) (k)))]).i)), (V.sl (List.map cT ((alO q [((nth (l) (k)))]).tr)))]]⟩ : Blk) ∧ ((H 8).ver = v8 + 1 ∧ (H 8).live = false) ∧ True) ⟨(fzT_q t1 rfl), (fzT_q t2 rfl), (fzT_q t4 rfl), (fzT_q t6 rfl), (fzT_q t7 rfl), (kill_ne h2 (by decide)), (kill_ne h4 (by decide)), (kill_ne h6 (by decide)), (kill_self (congrArg Blk.ver h8)), trivial⟩ ?_
  clear t1 t2 t4 t6 t7 h2 h4 h6 h8 T H
  intro T H ⟨t1, t2, t4, t6, t7, h2, h4, h6, h8, _⟩
  refine W_regc (fun T H => T 1 = (V.sl (List.map cT (l))) ∧ T 2 = (V.mp 2 1 0 0) ∧ T 4 = (V.mp 4 1 0 0) ∧ T 6 = (V.mp 6 1 0 0) ∧ T 7 = (iV ((k + 1 : Nat) : Int)) ∧ H 2 = (⟨1, true, false, 34, 2, [[(iV (o.i)), (V.sl (List.map cT (o.tr)))]]⟩ : Blk) ∧ H 4 = (⟨1, true, false, 34, 2, [[(iV (0 : Int)), V.nilsl]]⟩ : Blk) ∧ H 6 = (⟨1, true, false, 34, 2, [[(iV ((alO q [((nth (l) (k)))]).i)), (V.sl (List.map cT ((alO q [((nth (l) (k)))]).tr)))]]⟩ : Blk) ∧ ((H 8).ver = v8 + 1 ∧ (H 8).live = false) ∧ True) ?_ ?_
  ·
   unfold r88_4
   refine R_mv t7 ?_
   refine R_addN (m := k) (n := 1) (@rfl V (iV ((k : Nat) : Int))) (@rfl V (iV ((1 : Nat) : Int))) (by omega) ?_
   refine R_mv (@rfl V (iV ((k + 1 : Nat) : Int))) ?_
   exact R_nil ⟨t1, t2, t4, t6, rfl, h2, h4, h6, h8, trivial⟩
  intro T H ⟨t1, t2, t4, t6, t7, h2, h4, h6, h8, _⟩
  refine p12 _ _ _ ?_ ⟨(k + 1), (alO q [nth l k]), (v8 + 1), rfl, t1, t2, t4, t6, (Eq.trans t7 (by first | rfl | simp)), h2, h4, (Eq.trans h6 (by first | rfl | simp)), h8, ?_, ?_, ?_, ?_⟩
  · omega
  · omega
  · rw [alO_i]; exact hi
  · exact alO_ok hok
  · rw [hc, alR_one_go (by omega) d1]
 refine W_seq_exit ?_
 refine p32 _ _ _ ?_
 refine x1 _ _ ?_
 refine .done ?_
 refine W_seq_regc (fun T H => T 4 = (V.mp 4 1 0 0) ∧ T 5 = (iV (0 : Int)) ∧ H 2 = (⟨1, true, false, 34, 2, [[(iV (o.i)), (V.sl (List.map cT (o.tr)))]]⟩ : Blk) ∧ H 4 = (⟨1, true, false, 34, 2, [[(iV (q.i)), (V.sl (List.map cT (q.tr)))]]⟩ : Blk) ∧ H 6 = (⟨1, true, false, 34, 2, [[(iV (q.i)), (V.sl (List.map cT (q.tr)))]]⟩ : Blk) ∧ ((H 8).ver = v8 ∧ (H 8).live = false) ∧ True) ?_ ?_
 ·
  unfold r88_9
  refine R_load_mp (v := (V.agg [(iV (q.i)), (V.sl (List.map cT (q.tr)))])) t6 h6 (by first | rfl | simp [ldB, ldV, Blk.own, V.one]) ?_
  refine R_store (vs := [(iV (q.i)), (V.sl (List.map cT (q.tr)))]) (B' := (⟨1, true, false, 34, 2, [[(iV (q.i)), (V.sl (List.map cT (q.tr)))]]⟩ : Blk)) t4 (@rfl V (V.agg [(iV (q.i)), (V.sl (List.map cT (q.tr)))])) rfl h4 (by first | rfl | simp [stB, okB, Blk.own, putAt, V.one]) ?_
  refine R_mv (@rfl V (iV (0 : Int))) ?_
  exact R_nil ⟨t4, rfl, h2, rfl, h6, h8, trivial⟩
 intro T H ⟨t4, t5, h2, h4, h6, h8, _⟩
 refine W_ret ?_
 refine RetC_2 (resV_c (u := (V.agg [(iV (q.i)), (V.sl (List.map cT (q.tr)))])) t4 h4 (by first | rfl | simp [ldB, ldV, Blk.own, V.one])) (resV_t t5) (fz_agg2 (fz_int ?_) (fz_sl ?_ (fun _ => by simp))) (fz_int ?_)
 · rw [alO_i]; exact hi
 · unfold alO; rw [if_neg (by rw [hc, alR_end (by omega)]; simp), hc, alR_end (by omega)]
 · rw [hc, alR_end (by omega)]
end Go.Proofs.Ytngkckefanbhgaa

namespace Go.Proofs.Ytngkckefanbhgaa
open Go Go.Proofs
def r92_0 : List SO := [
  ⟨none, some 2, .box 24 4 (.t 0)⟩,
  ⟨none, some 4, .mv (.c (.nilsl))⟩,
  ⟨none, some 5, .mv (.c (.int .i64 0))⟩]
def r92_1 : List SO := [
  ⟨none, some 12, .load true 4 (.t 2)⟩,
  ⟨none, some 13, .call false 57 [.t 12]⟩,
  ⟨none, some 6, .mv (.t 13)⟩]
def r92_2 : List SO := [
  ⟨none, some 14, .mv (.t 6)⟩,
  ⟨none, some 15, .bin .neq (.t 14) (.c (.int .i64 0))⟩]
def r92_3 : List SO := [
  ⟨none, some 16, .mv (.t 6)⟩,
  ⟨none, some 4, .mv (.c (.nilsl))⟩,
  ⟨none, some 5, .mv (.t 16)⟩]
def r92_4 : List SO := [
  ⟨none, some 17, .mv (.t 1)⟩,
  ⟨none, some 18, .len (.t 17)⟩,
  ⟨none, some 19, .bin .gtr (.t 18) (.c (.int .i64 10000))⟩]
def r92_5 : List SO := [
  ⟨none, some 4, .mv (.c (.nilsl))⟩,
  ⟨none, some 5, .mv (.c (.int .i64 11))⟩]
def r92_6 : List SO := [
  ⟨none, some 7, .lazy 63 2⟩]
def r92_7 : List SO := [
  ⟨none, some 8, .mv (.c (.int .i64 0))⟩]
def r92_8 : List SO := [
  ⟨none, some 20, .mv (.t 8)⟩,
  ⟨none, some 21, .mv (.t 1)⟩,
  ⟨none, some 22, .len (.t 21)⟩,
  ⟨none, some 23, .bin .lss (.t 20) (.t 22)⟩]
def r92_10 : List SO := [
  ⟨none, some 26, .mv (.t 1)⟩,
  ⟨none, some 27, .mv (.t 8)⟩,
  ⟨none, some 28, .idx 1 (.t 26) (.t 27)⟩,
  ⟨none, some 29, .load false 1 (.t 28)⟩,
  ⟨none, some 30, .fld 0 (.t 2)⟩,
  ⟨none, some 31, .load false 1 (.t 30)⟩,
  ⟨none, some 32, .call false 58 [.t 29, .t 31]⟩,
  ⟨none, some 9, .mv (.t 32)⟩]
def r92_11 : List SO := [
  ⟨none, some 33, .mv (.t 9)⟩,
  ⟨none, some 34, .bin .neq (.t 33) (.c (.int .i64 0))⟩]
def r92_12 : List SO := [
  ⟨none, some 35, .mv (.t 9)⟩,
  ⟨none, some 4, .mv (.c (.nilsl))⟩,
  ⟨none, some 5, .mv (.t 35)⟩]
def r92_13 : List SO := [
  ⟨none, some 37, .load true 4 (.t 2)⟩,
  ⟨none, some 38, .fld 1 (.t 2)⟩,
  ⟨none, some 39, .load false 1 (.t 38)⟩,
  ⟨none, some 40, .mv (.t 1)⟩,
  ⟨none, some 41, .mv (.t 8)⟩,
  ⟨none, some 42, .idx 1 (.t 40) (.t 41)⟩,
  ⟨none, some 43, .load false 1 (.t 42)⟩,
  ⟨none, some 44, .call false 59 [.t 37, .t 39, .t 43]⟩,
  ⟨none, some 36, .mv (.t 44)⟩,
  ⟨none, some 45, .ext (.t 36) 0⟩,
  ⟨none, some 46, .ext (.t 36) 1⟩,
  ⟨none, some 10, .mv (.t 45)⟩,
  ⟨none, some 11, .mv (.t 46)⟩]
def r92_14 : List SO := [
  ⟨none, some 47, .mv (.t 7)⟩,
  ⟨none, some 48, .mv (.t 1)⟩,
  ⟨none, some 49, .mv (.t 8)⟩,
  ⟨none, some 50, .idx 1 (.t 48) (.t 49)⟩,
  ⟨none, some 51, .load false 1 (.t 50)⟩,
  ⟨none, some 52, .bslice 35 1 false [.nilsl] 1 [(0, .t 51)]⟩,
  ⟨none, some 53, .call false 35 [.t 52]⟩,
  ⟨none, some 54, .mv (.t 10)⟩,
  ⟨none, some 55, .build [.nilsl, .nilsl] [(0, 1, .t 53), (1, 1, .t 54)]⟩,
  ⟨none, some 56, .bslice 63 2 false [.nilsl, .nilsl] 1 [(0, .t 55)]⟩,
  ⟨none, some 57, .append 63 2 48 (.t 47) (.t 56)⟩,
  ⟨none, some 7, .mv (.t 57)⟩]
def r92_9 : List SO := [
  ⟨none, some 24, .mv (.t 8)⟩,
  ⟨none, some 25, .bin .add (.t 24) (.c (.int .i64 1))⟩,
  ⟨none, some 8, .mv (.t 25)⟩]
def b92_0 : SC := .seq (.seq (.reg r92_8) (.cond (.t 23) (.skip) (.exit 0))) (.seq (.block 1 (.seq (.seq (.reg r92_10) (.seq (.reg r92_11) (.cond (.t 34) (.seq (.reg r92_12) (.ret)) (.skip)))) (.seq (.reg r92_13) (.reg r92_14)))) (.reg r92_9))
def r92_15 : List SO := [
  ⟨none, some 58, .mv (.t 7)⟩,
  ⟨none, some 4, .mv (.t 58)⟩,
  ⟨none, some 5, .mv (.c (.int .i64 0))⟩]
def s92 : SF := ⟨59, [.tmp 4, .tmp 5], .seq (.reg r92_0) (.seq (.seq (.reg r92_1) (.seq (.reg r92_2) (.cond (.t 15) (.seq (.reg r92_3) (.ret)) (.skip)))) (.seq (.seq (.reg r92_4) (.cond (.t 19) (.seq (.reg r92_5) (.ret)) (.skip))) (.seq (.reg r92_6) (.seq (.seq (.reg r92_7) (.block 0 (.loop b92_0))) (.seq (.reg r92_15) (.ret))))))⟩
theorem s92_ok : slimF Try.prog ⟨[94, 102, 103, 108, 109, 116, 119, 121, 125], [7]⟩ Try.f92 = some s92 := by kernel_rfl
end Go.Proofs.Ytngkckefanbhgaa

namespace Go.Proofs.Ytngkckefanbhgaa
open Go Go.Proofs
def r57_0 : List SO := [
  ⟨none, some 1, .box 24 4 (.t 0)⟩,
  ⟨none, some 2, .mv (.c (.int .i64 0))⟩]
def r57_1 : List SO := [
  ⟨none, some 5, .fld 0 (.t 1)⟩,
  ⟨none, some 6, .load false 1 (.t 5)⟩,
  ⟨none, some 7, .bin .lss (.t 6) (.c (.int .i64 1))⟩,
  ⟨none, some 8, .mv (.t 7)⟩,
  ⟨some (8, false), some 9, .fld 0 (.t 1)⟩,
  ⟨some (8, false), some 10, .load false 1 (.t 9)⟩,
  ⟨some (8, false), some 11, .bin .gtr (.t 10) (.c (.int .i64 64))⟩,
  ⟨none, some 12, .pick (.t 8) (.c (.bool true)) (.t 11)⟩]
def r57_2 : List SO := [
  ⟨none, some 2, .mv (.c (.int .i64 2))⟩]
def r57_3 : List SO := [
  ⟨none, some 13, .fld 2 (.t 1)⟩,
  ⟨none, some 14, .load false 1 (.t 13)⟩,
  ⟨none, some 15, .len (.t 14)⟩,
  ⟨none, some 16, .bin .eql (.t 15) (.c (.int .i64 0))⟩]
def r57_4 : List SO := [
  ⟨none, some 2, .mv (.c (.int .i64 19))⟩]
def r57_5 : List SO := [
  ⟨none, some 17, .fld 2 (.t 1)⟩,
  ⟨none, some 18, .load false 1 (.t 17)⟩,
  ⟨none, some 19, .len (.t 18)⟩,
  ⟨none, some 20, .bin .gtr (.t 19) (.c (.int .i64 128))⟩]
def r57_6 : List SO := [
  ⟨none, some 2, .mv (.c (.int .i64 11))⟩]
def r57_7 : List SO := [
  ⟨none, some 21, .fld 1 (.t 1)⟩,
  ⟨none, some 22, .load false 1 (.t 21)⟩,
  ⟨none, some 23, .bin .lss (.t 22) (.c (.int .i64 0))⟩,
  ⟨none, some 24, .mv (.t 23)⟩,
  ⟨some (24, false), some 25, .fld 1 (.t 1)⟩,
  ⟨some (24, false), some 26, .load false 1 (.t 25)⟩,
  ⟨some (24, false), some 27, .fld 2 (.t 1)⟩,
  ⟨some (24, false), some 28, .load false 1 (.t 27)⟩,
  ⟨some (24, false), some 29, .len (.t 28)⟩,
  ⟨some (24, false), some 30, .bin .geq (.t 26) (.t 29)⟩,
  ⟨none, some 31, .pick (.t 24) (.c (.bool true)) (.t 30)⟩]
def r57_8 : List SO := [
  ⟨none, some 2, .mv (.c (.int .i64 2))⟩]
def r57_9 : List SO := [
  ⟨none, some 32, .fld 3 (.t 1)⟩,
  ⟨none, some 33, .load false 1 (.t 32)⟩,
  ⟨none, some 34, .len (.t 33)⟩,
  ⟨none, some 35, .fld 2 (.t 1)⟩,
  ⟨none, some 36, .load false 1 (.t 35)⟩,
  ⟨none, some 37, .len (.t 36)⟩,
  ⟨none, some 38, .bin .neq (.t 34) (.t 37)⟩]
def r57_10 : List SO := [
  ⟨none, some 2, .mv (.c (.int .i64 1))⟩]
def r57_11 : List SO := [
  ⟨none, some 3, .mv (.c (.int .i64 0))⟩]
def r57_12 : List SO := [
  ⟨none, some 39, .mv (.t 3)⟩,
  ⟨none, some 40, .fld 2 (.t 1)⟩,
  ⟨none, some 41, .load false 1 (.t 40)⟩,
  ⟨none, some 42, .len (.t 41)⟩,
  ⟨none, some 43, .bin .lss (.t 39) (.t 42)⟩]
def r57_14 : List SO := [
  ⟨none, some 46, .load true 4 (.t 1)⟩,
  ⟨none, some 47, .mv (.t 3)⟩,
  ⟨none, some 48, .call false 95 [.t 46, .t 47]⟩,
  ⟨none, some 4, .mv (.t 48)⟩]
def r57_15 : List SO := [
  ⟨none, some 49, .mv (.t 4)⟩,
  ⟨none, some 50, .bin .neq (.t 49) (.c (.int .i64 0))⟩]
def r57_16 : List SO := [
  ⟨none, some 51, .mv (.t 4)⟩,
  ⟨none, some 2, .mv (.t 51)⟩]
def r57_13 : List SO := [
  ⟨none, some 44, .mv (.t 3)⟩,
  ⟨none, some 45, .bin .add (.t 44) (.c (.int .i64 1))⟩,
  ⟨none, some 3, .mv (.t 45)⟩]
def b57_0 : SC := .seq (.seq (.reg r57_12) (.cond (.t 43) (.skip) (.exit 0))) (.seq (.block 1 (.seq (.reg r57_14) (.seq (.reg r57_15) (.cond (.t 50) (.seq (.reg r57_16) (.ret)) (.skip))))) (.reg r57_13))
def r57_17 : List SO := [
  ⟨none, some 2, .mv (.c (.int .i64 0))⟩]
def s57 : SF := ⟨52, [.tmp 2], .seq (.reg r57_0) (.seq (.seq (.reg r57_1) (.cond (.t 12) (.seq (.reg r57_2) (.ret)) (.skip))) (.seq (.seq (.reg r57_3) (.cond (.t 16) (.seq (.reg r57_4) (.ret)) (.skip))) (.seq (.seq (.reg r57_5) (.cond (.t 20) (.seq (.reg r57_6) (.ret)) (.skip))) (.seq (.seq (.reg r57_7) (.cond (.t 31) (.seq (.reg r57_8) (.ret)) (.skip))) (.seq (.seq (.reg r57_9) (.cond (.t 38) (.seq (.reg r57_10) (.ret)) (.skip))) (.seq (.seq (.reg r57_11) (.block 0 (.loop b57_0))) (.seq (.reg r57_17) (.ret))))))))⟩
theorem s57_ok : slimF Try.prog ⟨[94, 102, 103, 108, 109, 116, 119, 121, 125], []⟩ Try.f57 = some s57 := by kernel_rfl
end Go.Proofs.Ytngkckefanbhgaa

namespace Go.Proofs.Ytngkckefanbhgaa
open Go Go.Proofs
def r95_0 : List SO := [
  ⟨none, some 2, .box 24 4 (.t 0)⟩,
  ⟨none, some 4, .mv (.c (.int .i64 0))⟩]
def r95_1 : List SO := [
  ⟨none, some 6, .fld 2 (.t 2)⟩,
  ⟨none, some 7, .load false 1 (.t 6)⟩,
  ⟨none, some 8, .mv (.t 1)⟩,
  ⟨none, some 9, .idx 1 (.t 7) (.t 8)⟩,
  ⟨none, some 10, .load false 1 (.t 9)⟩,
  ⟨none, some 11, .len (.t 10)⟩,
  ⟨none, some 12, .fld 0 (.t 2)⟩,
  ⟨none, some 13, .load false 1 (.t 12)⟩,
  ⟨none, some 14, .bin .neq (.t 11) (.t 13)⟩,
  ⟨none, some 15, .mv (.t 14)⟩,
  ⟨some (15, false), some 16, .fld 3 (.t 2)⟩,
  ⟨some (15, false), some 17, .load false 1 (.t 16)⟩,
  ⟨some (15, false), some 18, .mv (.t 1)⟩,
  ⟨some (15, false), some 19, .idx 1 (.t 17) (.t 18)⟩,
  ⟨some (15, false), some 20, .load false 1 (.t 19)⟩,
  ⟨some (15, false), some 21, .len (.t 20)⟩,
  ⟨some (15, false), some 22, .fld 0 (.t 2)⟩,
  ⟨some (15, false), some 23, .load false 1 (.t 22)⟩,
  ⟨some (15, false), some 24, .bin .neq (.t 21) (.t 23)⟩,
  ⟨none, some 25, .pick (.t 15) (.c (.bool true)) (.t 24)⟩]
def r95_2 : List SO := [
  ⟨none, some 4, .mv (.c (.int .i64 1))⟩]
def r95_3 : List SO := [
  ⟨none, some 5, .mv (.c (.int .i64 0))⟩]
def r95_4 : List SO := [
  ⟨none, some 26, .mv (.t 5)⟩,
  ⟨none, some 27, .fld 0 (.t 2)⟩,
  ⟨none, some 28, .load false 1 (.t 27)⟩,
  ⟨none, some 29, .bin .lss (.t 26) (.t 28)⟩]
def r95_6 : List SO := [
  ⟨none, some 32, .fld 2 (.t 2)⟩,
  ⟨none, some 33, .load false 1 (.t 32)⟩,
  ⟨none, some 34, .mv (.t 1)⟩,
  ⟨none, some 35, .idx 1 (.t 33) (.t 34)⟩,
  ⟨none, some 36, .load false 1 (.t 35)⟩,
  ⟨none, some 37, .mv (.t 5)⟩,
  ⟨none, some 38, .idx 1 (.t 36) (.t 37)⟩,
  ⟨none, some 39, .load false 1 (.t 38)⟩,
  ⟨none, some 40, .bin .lss (.t 39) (.c (.int .i64 0))⟩,
  ⟨none, some 41, .mv (.t 40)⟩,
  ⟨some (41, false), some 42, .fld 2 (.t 2)⟩,
  ⟨some (41, false), some 43, .load false 1 (.t 42)⟩,
  ⟨some (41, false), some 44, .mv (.t 1)⟩,
  ⟨some (41, false), some 45, .idx 1 (.t 43) (.t 44)⟩,
  ⟨some (41, false), some 46, .load false 1 (.t 45)⟩,
  ⟨some (41, false), some 47, .mv (.t 5)⟩,
  ⟨some (41, false), some 48, .idx 1 (.t 46) (.t 47)⟩,
  ⟨some (41, false), some 49, .load false 1 (.t 48)⟩,
  ⟨some (41, false), some 50, .fld 2 (.t 2)⟩,
  ⟨some (41, false), some 51, .load false 1 (.t 50)⟩,
  ⟨some (41, false), some 52, .len (.t 51)⟩,
  ⟨some (41, false), some 53, .bin .geq (.t 49) (.t 52)⟩,
  ⟨none, some 54, .pick (.t 41) (.c (.bool true)) (.t 53)⟩,
  ⟨none, some 55, .mv (.t 54)⟩,
  ⟨some (55, false), some 56, .fld 3 (.t 2)⟩,
  ⟨some (55, false), some 57, .load false 1 (.t 56)⟩,
  ⟨some (55, false), some 58, .mv (.t 1)⟩,
  ⟨some (55, false), some 59, .idx 1 (.t 57) (.t 58)⟩,
  ⟨some (55, false), some 60, .load false 1 (.t 59)⟩,
  ⟨some (55, false), some 61, .mv (.t 5)⟩,
  ⟨some (55, false), some 62, .idx 1 (.t 60) (.t 61)⟩,
  ⟨some (55, false), some 63, .load false 1 (.t 62)⟩,
  ⟨some (55, false), some 64, .bin .lss (.t 63) (.c (.int .i64 0))⟩,
  ⟨none, some 65, .pick (.t 55) (.c (.bool true)) (.t 64)⟩,
  ⟨none, some 66, .mv (.t 65)⟩,
  ⟨some (66, false), some 67, .fld 3 (.t 2)⟩,
  ⟨some (66, false), some 68, .load false 1 (.t 67)⟩,
  ⟨some (66, false), some 69, .mv (.t 1)⟩,
  ⟨some (66, false), some 70, .idx 1 (.t 68) (.t 69)⟩,
  ⟨some (66, false), some 71, .load false 1 (.t 70)⟩,
  ⟨some (66, false), some 72, .mv (.t 5)⟩,
  ⟨some (66, false), some 73, .idx 1 (.t 71) (.t 72)⟩,
  ⟨some (66, false), some 74, .load false 1 (.t 73)⟩,
  ⟨some (66, false), some 75, .bin .gtr (.t 74) (.c (.int .i64 1048576))⟩,
  ⟨none, some 76, .pick (.t 66) (.c (.bool true)) (.t 75)⟩]
def r95_7 : List SO := [
  ⟨none, some 4, .mv (.c (.int .i64 2))⟩]
def r95_5 : List SO := [
  ⟨none, some 30, .mv (.t 5)⟩,
  ⟨none, some 31, .bin .add (.t 30) (.c (.int .i64 1))⟩,
  ⟨none, some 5, .mv (.t 31)⟩]
def b95_0 : SC := .seq (.seq (.reg r95_4) (.cond (.t 29) (.skip) (.exit 0))) (.seq (.block 1 (.seq (.reg r95_6) (.cond (.t 76) (.seq (.reg r95_7) (.ret)) (.skip)))) (.reg r95_5))
def r95_8 : List SO := [
  ⟨none, some 4, .mv (.c (.int .i64 0))⟩]
def s95 : SF := ⟨77, [.tmp 4], .seq (.reg r95_0) (.seq (.seq (.reg r95_1) (.cond (.t 25) (.seq (.reg r95_2) (.ret)) (.skip))) (.seq (.seq (.reg r95_3) (.block 0 (.loop b95_0))) (.seq (.reg r95_8) (.ret))))⟩
theorem s95_ok : slimF Try.prog ⟨[94, 102, 103, 108, 109, 116, 119, 121, 125], []⟩ Try.f95 = some s95 := by kernel_rfl
end Go.Proofs.Ytngkckefanbhgaa

namespace Go.Proofs.Ytngkckefanbhgaa
open Go Go.Proofs
theorem row_pure (m : M) (s : Nat) (h1 : s < m.nx.length) (h2 : s < m.ot.length) (hi : 1 ≤ m.i ∧ m.i ≤ 64) : PureC Try.prog 95 [(V.agg [(iV (m.i)), (iV (m.s)), (V.sl (List.map cL (m.nx))), (V.sl (List.map cL (m.ot)))]), (iV ((s : Nat) : Int))] (iV (rowE m s)) := by
 refine pure_of_Wb true 6 Try.func95 s95_ok (by kernel_rfl) (by simp [s95]) (by simp) (by simp) fun hB => ?_
 simp only [bnd_map, bnd_int, bnd_bool, bnd_str, bnd_agg, bnd_pp, bnd_nil, bnd_cons, implies_true, and_true, true_and] at hB
 unfold s95
 dsimp only
 refine W_seq_regc (fun T H => T 1 = (iV ((s : Nat) : Int)) ∧ T 2 = (V.mp 2 1 0 0) ∧ H 2 = (⟨1, true, false, 24, 4, [[(iV (m.i)), (iV (m.s)), (V.sl (List.map cL (m.nx))), (V.sl (List.map cL (m.ot)))]]⟩ : Blk) ∧ True) ?_ ?_
 ·
  unfold r95_0
  refine R_box (i := 2) (n := 0) (m := 4) (cs := [(iV (m.i)), (iV (m.s)), (V.sl (List.map cL (m.nx))), (V.sl (List.map cL (m.ot)))]) rfl (congrArg Blk.ver rfl) (@rfl V (V.agg [(iV (m.i)), (iV (m.s)), (V.sl (List.map cL (m.nx))), (V.sl (List.map cL (m.ot)))])) rfl rfl ?_
  refine R_mv (@rfl V (iV (0 : Int))) ?_
  exact R_nil ⟨rfl, rfl, rfl, trivial⟩
 intro T H ⟨t1, t2, h2, _⟩
 refine W_seq_seq ?_
 refine W_seq_regc (fun T H => T 1 = (iV ((s : Nat) : Int)) ∧ T 2 = (V.mp 2 1 0 0) ∧ T 25 = (V.bool (decide ((((((nth (m.nx) (s))).length : Nat) : Int) ≠ (m.i)) ∨ (((((nth (m.ot) (s))).length : Nat) : Int) ≠ (m.i))))) ∧ H 2 = (⟨1, true, false, 24, 4, [[(iV (m.i)), (iV (m.s)), (V.sl (List.map cL (m.nx))), (V.sl (List.map cL (m.ot)))]]⟩ : Blk) ∧ True) ?_ ?_
 ·
  unfold r95_1
  refine R_fld_mp (o' := 2) t2 h2 (by first | rfl | simp [okB, Blk.own]) rfl ?_
  refine R_load_mp (v := (V.sl (List.map cL (m.nx)))) (@rfl V (V.mp 2 1 0 2)) h2 (by first | rfl | simp [ldB, ldV, Blk.own, V.one]) ?_
  refine R_mv t1 ?_
  refine R_idx (i := s) (@rfl V (V.sl (List.map cL (m.nx)))) (@rfl V (iV ((s : Nat) : Int))) (by omega) rfl ?_
  refine R_load_pp (v := (V.sl (List.map cI ((nth (m.nx) (s)))))) (@rfl V (V.pp [(V.sl (List.map cI ((nth (m.nx) (s)))))])) (by first | rfl | simp [ldV]) ?_
  refine R_len (@rfl V (V.sl (List.map cI ((nth (m.nx) (s)))))) ?_
  refine R_fld_mp (o' := 0) t2 h2 (by first | rfl | simp [okB, Blk.own]) rfl ?_
  refine R_load_mp (v := (iV (m.i))) (@rfl V (V.mp 2 1 0 0)) h2 (by first | rfl | simp [ldB, ldV, Blk.own, V.one]) ?_
  refine R_neq (x := ((((nth (m.nx) (s))).length : Nat) : Int)) (y := (m.i)) (@rfl V (iV ((((nth (m.nx) (s))).length : Nat) : Int))) (@rfl V (iV (m.i))) ?_
  refine R_mv (@rfl V (V.bool (decide (((((nth (m.nx) (s))).length : Nat) : Int) ≠ (m.i))))) ?_
  refine Ops_seg 10 (fun T H => T 1 = (iV ((s : Nat) : Int)) ∧ T 2 = (V.mp 2 1 0 0) ∧ T 25 = (V.bool (decide ((((((nth (m.nx) (s))).length : Nat) : Int) ≠ (m.i)) ∨ (((((nth (m.ot) (s))).length : Nat) : Int) ≠ (m.i))))) ∧ H 2 = (⟨1, true, false, 24, 4, [[(iV (m.i)), (iV (m.s)), (V.sl (List.map cL (m.nx))), (V.sl (List.map cL (m.ot)))]]⟩ : Blk) ∧ True) ?_ ?_
  ·
   by_cases g1 : ((((nth (m.nx) (s))).length : Nat) : Int) ≠ (m.i)
   ·
    refine G_no (Eq.trans (@rfl V (V.bool (decide (((((nth (m.nx) (s))).length : Nat) : Int) ≠ (m.i))))) (bdT g1)) (by decide) ?_
    refine G_no (Eq.trans (@rfl V (V.bool (decide (((((nth (m.nx) (s))).length : Nat) : Int) ≠ (m.i))))) (bdT g1)) (by decide) ?_
    refine G_no (Eq.trans (@rfl V (V.bool (decide (((((nth (m.nx) (s))).length : Nat) : Int) ≠ (m.i))))) (bdT g1)) (by decide) ?_
    refine G_no (Eq.trans (@rfl V (V.bool (decide (((((nth (m.nx) (s))).length : Nat) : Int) ≠ (m.i))))) (bdT g1)) (by decide) ?_
    refine G_no (Eq.trans (@rfl V (V.bool (decide (((((nth (m.nx) (s))).length : Nat) : Int) ≠ (m.i))))) (bdT g1)) (by decide) ?_
    refine G_no (Eq.trans (@rfl V (V.bool (decide (((((nth (m.nx) (s))).length : Nat) : Int) ≠ (m.i))))) (bdT g1)) (by decide) ?_
    refine G_no (Eq.trans (@rfl V (V.bool (decide (((((nth (m.nx) (s))).length : Nat) : Int) ≠ (m.i))))) (bdT g1)) (by decide) ?_
    refine G_no (Eq.trans (@rfl V (V.bool (decide (((((nth (m.nx) (s))).length : Nat) : Int) ≠ (m.i))))) (bdT g1)) (by decide) ?_
    refine G_no (Eq.trans (@rfl V (V.bool (decide (((((nth (m.nx) (s))).length : Nat) : Int) ≠ (m.i))))) (bdT g1)) (by decide) ?_
    refine R_pickT (Eq.trans (@rfl V (V.bool (decide (((((nth (m.nx) (s))).length : Nat) : Int) ≠ (m.i))))) (bdT g1)) (@rfl V (V.bool true)) ?_
    exact ⟨t1, t2, (Eq.trans (@rfl V (V.bool true)) (dec_orT g1)), h2, trivial⟩
   ·
    refine G_yes (Eq.trans (@rfl V (V.bool (decide (((((nth (m.nx) (s))).length : Nat) : Int) ≠ (m.i))))) (bdF g1)) ?_
    refine R_fld_mp (o' := 3) t2 h2 (by first | rfl | simp [okB, Blk.own]) rfl ?_
    refine G_yes (Eq.trans (@rfl V (V.bool (decide (((((nth (m.nx) (s))).length : Nat) : Int) ≠ (m.i))))) (bdF g1)) ?_
    refine R_load_mp (v := (V.sl (List.map cL (m.ot)))) (@rfl V (V.mp 2 1 0 3)) h2 (by first | rfl | simp [ldB, ldV, Blk.own, V.one]) ?_
    refine G_yes (Eq.trans (@rfl V (V.bool (decide (((((nth (m.nx) (s))).length : Nat) : Int) ≠ (m.i))))) (bdF g1)) ?_
    refine R_mv t1 ?_
    refine G_yes (Eq.trans (@rfl V (V.bool (decide (((((nth (m.nx) (s))).length : Nat) : Int) ≠ (m.i))))) (bdF g1)) ?_
    refine R_idx (i := s) (@rfl V (V.sl (List.map cL (m.ot)))) (@rfl V (iV ((s : Nat) : Int))) (by omega) rfl ?_
    refine G_yes (Eq.trans (@rfl V (V.bool (decide (((((nth (m.nx) (s))).length : Nat) : Int) ≠ (m.i))))) (bdF g1)) ?_
    refine R_load_pp (v := (V.sl (List.map cI ((nth (m.ot) (s)))))) (@rfl V (V.pp [(V.sl (List.map cI ((nth (m.ot) (s)))))])) (by first | rfl | simp [ldV]) ?_
    refine G_yes (Eq.trans (@rfl V (V.bool (decide (((((nth (m.nx) (s))).length : Nat) : Int) ≠ (m.i))))) (bdF g1)) ?_
    refine R_len (@rfl V (V.sl (List.map cI ((nth (m.ot) (s)))))) ?_
    refine G_yes (Eq.trans (@rfl V (V.bool (decide (((((nth (m.nx) (s))).length : Nat) : Int) ≠ (m.i))))) (bdF g1)) ?_
    refine R_fld_mp (o' := 0) t2 h2 (by first | rfl | simp [okB, Blk.own]) rfl ?_
    refine G_yes (Eq.trans (@rfl V (V.bool (decide (((((nth (m.nx) (s))).length : Nat) : Int) ≠ (m.i))))) (bdF g1)) ?_
    refine R_load_mp (v := (iV (m.i))) (@rfl V (V.mp 2 1 0 0)) h2 (by first | rfl | simp [ldB, ldV, Blk.own, V.one]) ?_
    refine G_yes (Eq.trans (@rfl V (V.bool (decide (((((nth (m.nx) (s))).length : Nat) : Int) ≠ (m.i))))) (bdF g1)) ?_
    refine R_neq (x := ((((nth (m.ot) (s))).length : Nat) : Int)) (y := (m.i)) (@rfl V (iV ((((nth (m.ot) (s))).length : Nat) : Int))) (@rfl V (iV (m.i))) ?_
    refine R_pickF (Eq.trans (@rfl V (V.bool (decide (((((nth (m.nx) (s))).length : Nat) : Int) ≠ (m.i))))) (bdF g1)) (@rfl V (V.bool (decide (((((nth (m.ot) (s))).length : Nat) : Int) ≠ (m.i))))) ?_
    exact ⟨t1, t2, (Eq.trans (@rfl V (V.bool (decide (((((nth (m.ot) (s))).length : Nat) : Int) ≠ (m.i))))) (dec_orF g1)), h2, trivial⟩
  intro T H ⟨t1, t2, t25, h2, _⟩
  exact R_nil ⟨t1, t2, t25, h2, trivial⟩
 intro T H ⟨t1, t2, t25, h2, _⟩
 refine W_seq_if (p := (((((nth (m.nx) (s))).length : Nat) : Int) ≠ (m.i)) ∨ (((((nth (m.ot) (s))).length : Nat) : Int) ≠ (m.i))) t25 (fun c2 => ?_) (fun c2 => ?_)
 ·
  refine W_seq_seq ?_
  refine W_seq_regc (fun T H => T 4 = (iV (1 : Int)) ∧ H 2 = (⟨1, true, false, 24, 4, [[(iV (m.i)), (iV (m.s)), (V.sl (List.map cL (m.nx))), (V.sl (List.map cL (m.ot)))]]⟩ : Blk) ∧ True) ?_ ?_
  ·
   unfold r95_2
   refine R_mv (@rfl V (iV (1 : Int))) ?_
   exact R_nil ⟨rfl, h2, trivial⟩
  intro T H ⟨t4, h2, _⟩
  refine W_seq_ret ?_
  refine Ret_1 t4 (fz_int ?_)
  · rw [rowE, if_pos (by omega)]
 refine W_seq_skip ?_
 refine W_seq_seq ?_
 refine W_seq_regc (fun T H => T 1 = (iV ((s : Nat) : Int)) ∧ T 2 = (V.mp 2 1 0 0) ∧ T 5 = (iV (0 : Int)) ∧ H 2 = (⟨1, true, false, 24, 4, [[(iV (m.i)), (iV (m.s)), (V.sl (List.map cL (m.nx))), (V.sl (List.map cL (m.ot)))]]⟩ : Blk) ∧ True) ?_ ?_
 ·
  unfold r95_3
  refine R_mv (@rfl V (iV (0 : Int))) ?_
  exact R_nil ⟨t1, t2, rfl, h2, trivial⟩
 intro T H ⟨t1, t2, t5, h2, _⟩
 refine W_seq_blockg fun Q3 n3 x3 y3 z3 => ?_
 refine W_loop (fun mm T H => ∃ (k : Nat), mm = ((m.i).toNat) - k ∧ T 1 = (iV ((s : Nat) : Int)) ∧ T 2 = (V.mp 2 1 0 0) ∧ T 5 = (iV ((k : Nat) : Int)) ∧ H 2 = (⟨1, true, false, 24, 4, [[(iV (m.i)), (iV (m.s)), (V.sl (List.map cL (m.nx))), (V.sl (List.map cL (m.ot)))]]⟩ : Blk) ∧ (k ≤ (m.i).toNat) ∧ (((nth m.nx s).length : Int) = m.i ∧ ((nth m.ot s).length : Int) = m.i) ∧ (rowE m s = fe (celE m s) k (m.i.toNat - k))) ?_ ?_
 ·
  refine ⟨_, 0, rfl, t1, t2, (Eq.trans t5 (by first | rfl | simp)), h2, ?_, ?_, ?_⟩
  · omega
  · omega
  · rw [rowE, if_neg (by omega)]; rfl
 intro mm T H ⟨k, hmm, t1, t2, t5, h2, hk, hl, hc⟩ Q4 p14 p24 p34
 unfold b95_0
 refine W_seq_seq ?_
 refine W_seq_regc (fun T H => T 1 = (iV ((s : Nat) : Int)) ∧ T 2 = (V.mp 2 1 0 0) ∧ T 5 = (iV ((k : Nat) : Int)) ∧ T 29 = (V.bool (decide (((k : Nat) : Int) < (m.i)))) ∧ H 2 = (⟨1, true, false, 24, 4, [[(iV (m.i)), (iV (m.s)), (V.sl (List.map cL (m.nx))), (V.sl (List.map cL (m.ot)))]]⟩ : Blk) ∧ True) ?_ ?_
 ·
  unfold r95_4
  refine R_mv t5 ?_
  refine R_fld_mp (o' := 0) t2 h2 (by first | rfl | simp [okB, Blk.own]) rfl ?_
  refine R_load_mp (v := (iV (m.i))) (@rfl V (V.mp 2 1 0 0)) h2 (by first | rfl | simp [ldB, ldV, Blk.own, V.one]) ?_
  refine R_lss (x := ((k : Nat) : Int)) (y := (m.i)) (@rfl V (iV ((k : Nat) : Int))) (@rfl V (iV (m.i))) ?_
  exact R_nil ⟨t1, t2, t5, rfl, h2, trivial⟩
 intro T H ⟨t1, t2, t5, t29, h2, _⟩
 refine W_seq_if (p := ((k : Nat) : Int) < (m.i)) t29 (fun c5 => ?_) (fun c5 => ?_)
 ·
  refine W_seq_skip ?_
  refine W_seq_blockg fun Q6 n6 x6 y6 z6 => ?_
  refine W_seq_regc (fun T H => T 1 = (iV ((s : Nat) : Int)) ∧ T 2 = (V.mp 2 1 0 0) ∧ T 5 = (iV ((k : Nat) : Int)) ∧ T 76 = (V.bool (decide ((((((nth ((nth (m.nx) (s))) (k))) < (0 : Int)) ∨ (((m.nx.length : Nat) : Int) ≤ ((nth ((nth (m.nx) (s))) (k))))) ∨ (((nth ((nth (m.ot) (s))) (k))) < (0 : Int))) ∨ ((1048576 : Int) < ((nth ((nth (m.ot) (s))) (k))))))) ∧ H 2 = (⟨1, true, false, 24, 4, [[(iV (m.i)), (iV (m.s)), (V.sl (List.map cL (m.nx))), (V.sl (List.map cL (m.ot)))]]⟩ : Blk) ∧ True) ?_ ?_
  ·
   unfold r95_6
   refine R_fld_mp (o' := 2) t2 h2 (by first | rfl | simp [okB, Blk.own]) rfl ?_
   refine R_load_mp (v := (V.sl (List.map cL (m.nx)))) (@rfl V (V.mp 2 1 0 2)) h2 (by first | rfl | simp [ldB, ldV, Blk.own, V.one]) ?_
   refine R_mv t1 ?_
   refine R_idx (i := s) (@rfl V (V.sl (List.map cL (m.nx)))) (@rfl V (iV ((s : Nat) : Int))) (by omega) rfl ?_
   refine R_load_pp (v := (V.sl (List.map cI ((nth (m.nx) (s)))))) (@rfl V (V.pp [(V.sl (List.map cI ((nth (m.nx) (s)))))])) (by first | rfl | simp [ldV]) ?_
   refine R_mv t5 ?_
   refine R_idx (i := k) (@rfl V (V.sl (List.map cI ((nth (m.nx) (s)))))) (@rfl V (iV ((k : Nat) : Int))) (by omega) rfl ?_
   refine R_load_pp (v := (iV ((nth ((nth (m.nx) (s))) (k))))) (@rfl V (V.pp [(iV ((nth ((nth (m.nx) (s))) (k))))])) (by first | rfl | simp [ldV]) ?_
   refine R_lss (x := ((nth ((nth (m.nx) (s))) (k)))) (y := (0 : Int)) (@rfl V (iV ((nth ((nth (m.nx) (s))) (k))))) (@rfl V (iV (0 : Int))) ?_
   refine R_mv (@rfl V (V.bool (decide (((nth ((nth (m.nx) (s))) (k))) < (0 : Int))))) ?_
   refine Ops_seg 13 (fun T H => T 1 = (iV ((s : Nat) : Int)) ∧ T 2 = (V.mp 2 1 0 0) ∧ T 5 = (iV ((k : Nat) : Int)) ∧ T 54 = (V.bool (decide ((((nth ((nth (m.nx) (s))) (k))) < (0 : Int)) ∨ (((m.nx.length : Nat) : Int) ≤ ((nth ((nth (m.nx) (s))) (k))))))) ∧ H 2 = (⟨1, true, false, 24, 4, [[(iV (m.i)), (iV (m.s)), (V.sl (List.map cL (m.nx))), (V.sl (List.map cL (m.ot)))]]⟩ : Blk) ∧ True) ?_ ?_
   ·
    by_cases g7 : ((nth ((nth (m.nx) (s))) (k))) < (0 : Int)
    ·
     refine G_no (Eq.trans (@rfl V (V.bool (decide (((nth ((nth (m.nx) (s))) (k))) < (0 : Int))))) (bdT g7)) (by decide) ?_
     refine G_no (Eq.trans (@rfl V (V.bool (decide (((nth ((nth (m.nx) (s))) (k))) < (0 : Int))))) (bdT g7)) (by decide) ?_
     refine G_no (Eq.trans (@rfl V (V.bool (decide (((nth ((nth (m.nx) (s))) (k))) < (0 : Int))))) (bdT g7)) (by decide) ?_
     refine G_no (Eq.trans (@rfl V (V.bool (decide (((nth ((nth (m.nx) (s))) (k))) < (0 : Int))))) (bdT g7)) (by decide) ?_
     refine G_no (Eq.trans (@rfl V (V.bool (decide (((nth ((nth (m.nx) (s))) (k))) < (0 : Int))))) (bdT g7)) (by decide) ?_
     refine G_no (Eq.trans (@rfl V (V.bool (decide (((nth ((nth (m.nx) (s))) (k))) < (0 : Int))))) (bdT g7)) (by decide) ?_
     refine G_no (Eq.trans (@rfl V (V.bool (decide (((nth ((nth (m.nx) (s))) (k))) < (0 : Int))))) (bdT g7)) (by decide) ?_
     refine G_no (Eq.trans (@rfl V (V.bool (decide (((nth ((nth (m.nx) (s))) (k))) < (0 : Int))))) (bdT g7)) (by decide) ?_
     refine G_no (Eq.trans (@rfl V (V.bool (decide (((nth ((nth (m.nx) (s))) (k))) < (0 : Int))))) (bdT g7)) (by decide) ?_
     refine G_no (Eq.trans (@rfl V (V.bool (decide (((nth ((nth (m.nx) (s))) (k))) < (0 : Int))))) (bdT g7)) (by decide) ?_
     refine G_no (Eq.trans (@rfl V (V.bool (decide (((nth ((nth (m.nx) (s))) (k))) < (0 : Int))))) (bdT g7)) (by decide) ?_
     refine G_no (Eq.trans (@rfl V (V.bool (decide (((nth ((nth (m.nx) (s))) (k))) < (0 : Int))))) (bdT g7)) (by decide) ?_
     refine R_pickT (Eq.trans (@rfl V (V.bool (decide (((nth ((nth (m.nx) (s))) (k))) < (0 : Int))))) (bdT g7)) (@rfl V (V.bool true)) ?_
     exact ⟨t1, t2, t5, (Eq.trans (@rfl V (V.bool true)) (dec_orT g7)), h2, trivial⟩
    ·
     refine G_yes (Eq.trans (@rfl V (V.bool (decide (((nth ((nth (m.nx) (s))) (k))) < (0 : Int))))) (bdF g7)) ?_
     refine R_fld_mp (o' := 2) t2 h2 (by first | rfl | simp [okB, Blk.own]) rfl ?_
     refine G_yes (Eq.trans (@rfl V (V.bool (decide (((nth ((nth (m.nx) (s))) (k))) < (0 : Int))))) (bdF g7)) ?_
     refine R_load_mp (v := (V.sl (List.map cL (m.nx)))) (@rfl V (V.mp 2 1 0 2)) h2 (by first | rfl | simp [ldB, ldV, Blk.own, V.one]) ?_
     refine G_yes (Eq.trans (@rfl V (V.bool (decide (((nth ((nth (m.nx) (s))) (k))) < (0 : Int))))) (bdF g7)) ?_
     refine R_mv t1 ?_
     refine G_yes (Eq.trans (@rfl V (V.bool (decide (((nth ((nth (m.nx) (s))) (k))) < (0 : Int))))) (bdF g7)) ?_
     refine R_idx (i := s) (@rfl V (V.sl (List.map cL (m.nx)))) (@rfl V (iV ((s : Nat) : Int))) (by omega) rfl ?_
     refine G_yes (Eq.trans (@rfl V (V.bool (decide (((nth ((nth (m.nx) (s))) (k))) < (0 : Int))))) (bdF g7)) ?_
     refine R_load_pp (v := (V.sl (List.map cI ((nth (m.nx) (s)))))) (@rfl V (V.pp [(V.sl (List.map cI ((nth (m.nx) (s)))))])) (by first | rfl | simp [ldV]) ?_
     refine G_yes (Eq.trans (@rfl V (V.bool (decide (((nth ((nth (m.nx) (s))) (k))) < (0 : Int))))) (bdF g7)) ?_
     refine R_mv t5 ?_
     refine G_yes (Eq.trans (@rfl V (V.bool (decide (((nth ((nth (m.nx) (s))) (k))) < (0 : Int))))) (bdF g7)) ?_
     refine R_idx (i := k) (@rfl V (V.sl (List.map cI ((nth (m.nx) (s)))))) (@rfl V (iV ((k : Nat) : Int))) (by omega) rfl ?_
     refine G_yes (Eq.trans (@rfl V (V.bool (decide (((nth ((nth (m.nx) (s))) (k))) < (0 : Int))))) (bdF g7)) ?_
     refine R_load_pp (v := (iV ((nth ((nth (m.nx) (s))) (k))))) (@rfl V (V.pp [(iV ((nth ((nth (m.nx) (s))) (k))))])) (by first | rfl | simp [ldV]) ?_
     refine G_yes (Eq.trans (@rfl V (V.bool (decide (((nth ((nth (m.nx) (s))) (k))) < (0 : Int))))) (bdF g7)) ?_
     refine R_fld_mp (o' := 2) t2 h2 (by first | rfl | simp [okB, Blk.own]) rfl ?_
     refine G_yes (Eq.trans (@rfl V (V.bool (decide (((nth ((nth (m.nx) (s))) (k))) < (0 : Int))))) (bdF g7)) ?_
     refine R_load_mp (v := (V.sl (List.map cL (m.nx)))) (@rfl V (V.mp 2 1 0 2)) h2 (by first | rfl | simp [ldB, ldV, Blk.own, V.one]) ?_
     refine G_yes (Eq.trans (@rfl V (V.bool (decide (((nth ((nth (m.nx) (s))) (k))) < (0 : Int))))) (bdF g7)) ?_
     refine R_len (@rfl V (V.sl (List.map cL (m.nx)))) ?_
     refine G_yes (Eq.trans (@rfl V (V.bool (decide (((nth ((nth (m.nx) (s))) (k))) < (0 : Int))))) (bdF g7)) ?_
     refine R_geq (x := ((nth ((nth (m.nx) (s))) (k)))) (y := ((m.nx.length : Nat) : Int)) (@rfl V (iV ((nth ((nth (m.nx) (s))) (k))))) (@rfl V (iV ((m.nx.length : Nat) : Int))) ?_
     refine R_pickF (Eq.trans (@rfl V (V.bool (decide (((nth ((nth (m.nx) (s))) (k))) < (0 : Int))))) (bdF g7)) (@rfl V (V.bool (decide (((m.nx.length : Nat) : Int) ≤ ((nth ((nth (m.nx) (s))) (k))))))) ?_
     exact ⟨t1, t2, t5, (Eq.trans (@rfl V (V.bool (decide (((m.nx.length : Nat) : Int) ≤ ((nth ((nth (m.nx) (s))) (k))))))) (dec_orF g7)), h2, trivial⟩
   intro T H ⟨t1, t2, t5, t54, h2, _⟩
   refine R_mv t54 ?_
   refine Ops_seg 10 (fun T H => T 1 = (iV ((s : Nat) : Int)) ∧ T 2 = (V.mp 2 1 0 0) ∧ T 5 = (iV ((k : Nat) : Int)) ∧ T 65 = (V.bool (decide (((((nth ((nth (m.nx) (s))) (k))) < (0 : Int)) ∨ (((m.nx.length : Nat) : Int) ≤ ((nth ((nth (m.nx) (s))) (k))))) ∨ (((nth ((nth (m.ot) (s))) (k))) < (0 : Int))))) ∧ H 2 = (⟨1, true, false, 24, 4, [[(iV (m.i)), (iV (m.s)), (V.sl (List.map cL (m.nx))), (V.sl (List.map cL (m.ot)))]]⟩ : Blk) ∧ True) ?_ ?_
   ·
    by_cases g8 : (((nth ((nth (m.nx) (s))) (k))) < (0 : Int)) ∨ (((m.nx.length : Nat) : Int) ≤ ((nth ((nth (m.nx) (s))) (k))))
    ·
     refine G_no (Eq.trans (@rfl V (V.bool (decide ((((nth ((nth (m.nx) (s))) (k))) < (0 : Int)) ∨ (((m.nx.length : Nat) : Int) ≤ ((nth ((nth (m.nx) (s))) (k)))))))) (bdT g8)) (by decide) ?_
     refine G_no (Eq.trans (@rfl V (V.bool (decide ((((nth ((nth (m.nx) (s))) (k))) < (0 : Int)) ∨ (((m.nx.length : Nat) : Int) ≤ ((nth ((nth (m.nx) (s))) (k)))))))) (bdT g8)) (by decide) ?_
     refine G_no (Eq.trans (@rfl V (V.bool (decide ((((nth ((nth (m.nx) (s))) (k))) < (0 : Int)) ∨ (((m.nx.length : Nat) : Int) ≤ ((nth ((nth (m.nx) (s))) (k)))))))) (bdT g8)) (by decide) ?_
     refine G_no (Eq.trans (@rfl V (V.bool (decide ((((nth ((nth (m.nx) (s))) (k))) < (0 : Int)) ∨ (((m.nx.length : Nat) : Int) ≤ ((nth ((nth (m.nx) (s))) (k)))))))) (bdT g8)) (by decide) ?_
     refine G_no (Eq.trans (@rfl V (V.bool (decide ((((nth ((nth (m.nx) (s))) (k))) < (0 : Int)) ∨ (((m.nx.length : Nat) : Int) ≤ ((nth ((nth (m.nx) (s))) (k)))))))) (bdT g8)) (by decide) ?_
     refine G_no (Eq.trans (@rfl V (V.bool (decide ((((nth ((nth (m.nx) (s))) (k))) < (0 : Int)) ∨ (((m.nx.length : Nat) : Int) ≤ ((nth ((nth (m.nx) (s))) (k)))))))) (bdT g8)) (by decide) ?_
     refine G_no (Eq.trans (@rfl V (V.bool (decide ((((nth ((nth (m.nx) (s))) (k))) < (0 : Int)) ∨ (((m.nx.length : Nat) : Int) ≤ ((nth ((nth (m.nx) (s))) (k)))))))) (bdT g8)) (by decide) ?_
     refine G_no (Eq.trans (@rfl V (V.bool (decide ((((nth ((nth (m.nx) (s))) (k))) < (0 : Int)) ∨ (((m.nx.length : Nat) : Int) ≤ ((nth ((nth (m.nx) (s))) (k)))))))) (bdT g8)) (by decide) ?_
     refine G_no (Eq.trans (@rfl V (V.bool (decide ((((nth ((nth (m.nx) (s))) (k))) < (0 : Int)) ∨ (((m.nx.length : Nat) : Int) ≤ ((nth ((nth (m.nx) (s))) (k)))))))) (bdT g8)) (by decide) ?_
     refine R_pickT (Eq.trans (@rfl V (V.bool (decide ((((nth ((nth (m.nx) (s))) (k))) < (0 : Int)) ∨ (((m.nx.length : Nat) : Int) ≤ ((nth ((nth (m.nx) (s))) (k)))))))) (bdT g8)) (@rfl V (V.bool true)) ?_
     exact ⟨t1, t2, t5, (Eq.trans (@rfl V (V.bool true)) (dec_orT g8)), h2, trivial⟩
    ·
     refine G_yes (Eq.trans (@rfl V (V.bool (decide ((((nth ((nth (m.nx) (s))) (k))) < (0 : Int)) ∨ (((m.nx.length : Nat) : Int) ≤ ((nth ((nth (m.nx) (s))) (k)))))))) (bdF g8)) ?_
     refine R_fld_mp (o' := 3) t2 h2 (by first | rfl | simp [okB, Blk.own]) rfl ?_
     refine G_yes (Eq.trans (@rfl V (V.bool (decide ((((nth ((nth (m.nx) (s))) (k))) < (0 : Int)) ∨ (((m.nx.length : Nat) : Int) ≤ ((nth ((nth (m.nx) (s))) (k)))))))) (bdF g8)) ?_
     refine R_load_mp (v := (V.sl (List.map cL (m.ot)))) (@rfl V (V.mp 2 1 0 3)) h2 (by first | rfl | simp [ldB, ldV, Blk.own, V.one]) ?_
     refine G_yes (Eq.trans (@rfl V (V.bool (decide ((((nth ((nth (m.nx) (s))) (k))) < (0 : Int)) ∨ (((m.nx.length : Nat) : Int) ≤ ((nth ((nth (m.nx) (s))) (k)))))))) (bdF g8)) ?_
     refine R_mv t1 ?_
     refine G_yes (Eq.trans (@rfl V (V.bool (decide ((((nth ((nth (m.nx) (s))) (k))) < (0 : Int)) ∨ (((m.nx.length : Nat) : Int) ≤ ((nth ((nth (m.nx) (s))) (k)))))))) (bdF g8)) ?_
     refine R_idx (i := s) (@rfl V (V.sl (List.map cL (m.ot)))) (@rfl V (iV ((s : Nat) : Int))) (by omega) rfl ?_
     refine G_yes (Eq.trans (@rfl V (V.bool (decide ((((nth ((nth (m.nx) (s))) (k))) < (0 : Int)) ∨ (((m.nx.length : Nat) : Int) ≤ ((nth ((nth (m.nx) (s))) (k)))))))) (bdF g8)) ?_
     refine R_load_pp (v := (V.sl (List.map cI ((nth (m.ot) (s)))))) (@rfl V (V.pp [(V.sl (List.map cI ((nth (m.ot) (s)))))])) (by first | rfl | simp [ldV]) ?_
     refine G_yes (Eq.trans (@rfl V (V.bool (decide ((((nth ((nth (m.nx) (s))) (k))) < (0 : Int)) ∨ (((m.nx.length : Nat) : Int) ≤ ((nth ((nth (m.nx) (s))) (k)))))))) (bdF g8)) ?_
     refine R_mv t5 ?_
     refine G_yes (Eq.trans (@rfl V (V.bool (decide ((((nth ((nth (m.nx) (s))) (k))) < (0 : Int)) ∨ (((m.nx.length : Nat) : Int) ≤ ((nth ((nth (m.nx) (s))) (k)))))))) (bdF g8)) ?_
     refine R_idx (i := k) (@rfl V (V.sl (List.map cI ((nth (m.ot) (s)))))) (@rfl V (iV ((k : Nat) : Int))) (by omega) rfl ?_
     refine G_yes (Eq.trans (@rfl V (V.bool (decide ((((nth ((nth (m.nx) (s))) (k))) < (0 : Int)) ∨ (((m.nx.length : Nat) : Int) ≤ ((nth ((nth (m.nx) (s))) (k)))))))) (bdF g8)) ?_
     refine R_load_pp (v := (iV ((nth ((nth (m.ot) (s))) (k))))) (@rfl V (V.pp [(iV ((nth ((nth (m.ot) (s))) (k))))])) (by first | rfl | simp [ldV]) ?_
     refine G_yes (Eq.trans (@rfl V (V.bool (decide ((((nth ((nth (m.nx) (s))) (k))) < (0 : Int)) ∨ (((m.nx.length : Nat) : Int) ≤ ((nth ((nth (m.nx) (s))) (k)))))))) (bdF g8)) ?_
     refine R_lss (x := ((nth ((nth (m.ot) (s))) (k)))) (y := (0 : Int)) (@rfl V (iV ((nth ((nth (m.ot) (s))) (k))))) (@rfl V (iV (0 : Int))) ?_
     refine R_pickF (Eq.trans (@rfl V (V.bool (decide ((((nth ((nth (m.nx) (s))) (k))) < (0 : Int)) ∨ (((m.nx.length : Nat) : Int) ≤ ((nth ((nth (m.nx) (s))) (k)))))))) (bdF g8)) (@rfl V (V.bool (decide (((nth ((nth (m.ot) (s))) (k))) < (0 : Int))))) ?_
     exact ⟨t1, t2, t5, (Eq.trans (@rfl V (V.bool (decide (((nth ((nth (m.ot) (s))) (k))) < (0 : Int))))) (dec_orF g8)), h2, trivial⟩
   intro T H ⟨t1, t2, t5, t65, h2, _⟩
   refine R_mv t65 ?_
   refine Ops_seg 10 (fun T H => T 1 = (iV ((s : Nat) : Int)) ∧ T 2 = (V.mp 2 1 0 0) ∧ T 5 = (iV ((k : Nat) : Int)) ∧ T 76 = (V.bool (decide ((((((nth ((nth (m.nx) (s))) (k))) < (0 : Int)) ∨ (((m.nx.length : Nat) : Int) ≤ ((nth ((nth (m.nx) (s))) (k))))) ∨ (((nth ((nth (m.ot) (s))) (k))) < (0 : Int))) ∨ ((1048576 : Int) < ((nth ((nth (m.ot) (s))) (k))))))) ∧ H 2 = (⟨1, true, false, 24, 4, [[(iV (m.i)), (iV (m.s)), (V.sl (List.map cL (m.nx))), (V.sl (List.map cL (m.ot)))]]⟩ : Blk) ∧ True) ?_ ?_
   ·
    by_cases g9 : ((((nth ((nth (m.nx) (s))) (k))) < (0 : Int)) ∨ (((m.nx.length : Nat) : Int) ≤ ((nth ((nth (m.nx) (s))) (k))))) ∨ (((nth ((nth (m.ot) (s))) (k))) < (0 : Int))
    ·
     refine G_no (Eq.trans (@rfl V (V.bool (decide (((((nth ((nth (m.nx) (s))) (k))) < (0 : Int)) ∨ (((m.nx.length : Nat) : Int) ≤ ((nth ((nth (m.nx) (s))) (k))))) ∨ (((nth ((nth (m.ot) (s))) (k))) < (0 : Int)))))) (bdT g9)) (by decide) ?_
     refine G_no (Eq.trans (@rfl V (V.bool (decide (((((nth ((nth (m.nx) (s))) (k))) < (0 : Int)) ∨ (((m.nx.length : Nat) : Int) ≤ ((nth ((nth (m.nx) (s))) (k))))) ∨ (((nth ((nth (m.ot) (s))) (k))) < (0 : Int)))))) (bdT g9)) (by decide) ?_
     refine G_no (Eq.trans (@rfl V (V.bool (decide (((((nth ((nth (m.nx) (s))) (k))) < (0 : Int)) ∨ (((m.nx.length : Nat) : Int) ≤ ((nth ((nth (m.nx) (s))) (k))))) ∨ (((nth ((nth (m.ot) (s))) (k))) < (0 : Int)))))) (bdT g9)) (by decide) ?_
     refine G_no (Eq.trans (@rfl V (V.bool (decide (((((nth ((nth (m.nx) (s))) (k))) < (0 : Int)) ∨ (((m.nx.length : Nat) : Int) ≤ ((nth ((nth (m.nx) (s))) (k))))) ∨ (((nth ((nth (m.ot) (s))) (k))) < (0 : Int)))))) (bdT g9)) (by decide) ?_
     refine G_no (Eq.trans (@rfl V (V.bool (decide (((((nth ((nth (m.nx) (s))) (k))) < (0 : Int)) ∨ (((m.nx.length : Nat) : Int) ≤ ((nth ((nth (m.nx) (s))) (k))))) ∨ (((nth ((nth (m.ot) (s))) (k))) < (0 : Int)))))) (bdT g9)) (by decide) ?_
     refine G_no (Eq.trans (@rfl V (V.bool (decide (((((nth ((nth (m.nx) (s))) (k))) < (0 : Int)) ∨ (((m.nx.length : Nat) : Int) ≤ ((nth ((nth (m.nx) (s))) (k))))) ∨ (((nth ((nth (m.ot) (s))) (k))) < (0 : Int)))))) (bdT g9)) (by decide) ?_
     refine G_no (Eq.trans (@rfl V (V.bool (decide (((((nth ((nth (m.nx) (s))) (k))) < (0 : Int)) ∨ (((m.nx.length : Nat) : Int) ≤ ((nth ((nth (m.nx) (s))) (k))))) ∨ (((nth ((nth (m.ot) (s))) (k))) < (0 : Int)))))) (bdT g9)) (by decide) ?_
     refine G_no (Eq.trans (@rfl V (V.bool (decide (((((nth ((nth (m.nx) (s))) (k))) < (0 : Int)) ∨ (((m.nx.length : Nat) : Int) ≤ ((nth ((nth (m.nx) (s))) (k))))) ∨ (((nth ((nth (m.ot) (s))) (k))) < (0 : Int)))))) (bdT g9)) (by decide) ?_
     refine G_no (Eq.trans (@rfl V (V.bool (decide (((((nth ((nth (m.nx) (s))) (k))) < (0 : Int)) ∨ (((m.nx.length : Nat) : Int) ≤ ((nth ((nth (m.nx) (s))) (k))))) ∨ (((nth ((nth (m.ot) (s))) (k))) < (0 : Int)))))) (bdT g9)) (by decide) ?_
     refine R_pickT (Eq.trans (@rfl V (V.bool (decide (((((nth ((nth (m.nx) (s))) (k))) < (0 : Int)) ∨ (((m.nx.length : Nat) : Int) ≤ ((nth ((nth (m.nx) (s))) (k))))) ∨ (((nth ((nth (m.ot) (s))) (k))) < (0 : Int)))))) (bdT g9)) (@rfl V (V.bool true)) ?_
     exact ⟨t1, t2, t5, (Eq.trans (@rfl V (V.bool true)) (dec_orT g9)), h2, trivial⟩
    ·
     refine G_yes (Eq.trans (@rfl V (V.bool (decide (((((nth ((nth (m.nx) (s))) (k))) < (0 : Int)) ∨ (((m.nx.length : Nat) : Int) ≤ ((nth ((nth (m.nx) (s))) (k))))) ∨ (((nth ((nth (m.ot) (s))) (k))) < (0 : Int)))))) (bdF g9)) ?_
     refine R_fld_mp (o' := 3) t2 h2 (by first | rfl | simp [okB, Blk.own]) rfl ?_
     refine G_yes (Eq.trans (@rfl V (V.bool (decide (((((nth ((nth (m.nx) (s))) (k))) < (0 : Int)) ∨ (((m.nx.length : Nat) : Int) ≤ ((nth ((nth (m.nx) (s))) (k))))) ∨ (((nth ((nth (m.ot) (s))) (k))) < (0 : Int)))))) (bdF g9)) ?_
     refine R_load_mp (v := (V.sl (List.map cL (m.ot)))) (@rfl V (V.mp 2 1 0 3)) h2 (by first | rfl | simp [ldB, ldV, Blk.own, V.one]) ?_
     refine G_yes (Eq.trans (@rfl V (V.bool (decide (((((nth ((nth (m.nx) (s))) (k))) < (0 : Int)) ∨ (((m.nx.length : Nat) : Int) ≤ ((nth ((nth (m.nx) (s))) (k))))) ∨ (((nth ((nth (m.ot) (s))) (k))) < (0 : Int)))))) (bdF g9)) ?_
     refine R_mv t1 ?_
     refine G_yes (Eq.trans (@rfl V (V.bool (decide (((((nth ((nth (m.nx) (s))) (k))) < (0 : Int)) ∨ (((m.nx.length : Nat) : Int) ≤ ((nth ((nth (m.nx) (s))) (k))))) ∨ (((nth ((nth (m.ot) (s))) (k))) < (0 : Int)))))) (bdF g9)) ?_
     refine R_idx (i := s) (@rfl V (V.sl (List.map cL (m.ot)))) (@rfl V (iV ((s : Nat) : Int))) (by omega) rfl ?_
     refine G_yes (Eq.trans (@rfl V (V.bool (decide (((((nth ((nth (m.nx) (s))) (k))) < (0 : Int)) ∨ (((m.nx.length : Nat) : Int) ≤ ((nth ((nth (m.nx) (s))) (k))))) ∨ (((nth ((nth (m.ot) (s))) (k))) < (0 : Int)))))) (bdF g9)) ?_
     refine R_load_pp (v := (V.sl (List.map cI ((nth (m.ot) (s)))))) (@rfl V (V.pp [(V.sl (List.map cI ((nth (m.ot) (s)))))])) (by first | rfl | simp [ldV]) ?_
     refine G_yes (Eq.trans (@rfl V (V.bool (decide (((((nth ((nth (m.nx) (s))) (k))) < (0 : Int)) ∨ (((m.nx.length : Nat) : Int) ≤ ((nth ((nth (m.nx) (s))) (k))))) ∨ (((nth ((nth (m.ot) (s))) (k))) < (0 : Int)))))) (bdF g9)) ?_
     refine R_mv t5 ?_
     refine G_yes (Eq.trans (@rfl V (V.bool (decide (((((nth ((nth (m.nx) (s))) (k))) < (0 : Int)) ∨ (((m.nx.length : Nat) : Int) ≤ ((nth ((nth (m.nx) (s))) (k))))) ∨ (((nth ((nth (m.ot) (s))) (k))) < (0 : Int)))))) (bdF g9)) ?_
     refine R_idx (i := k) (@rfl V (V.sl (List.map cI ((nth (m.ot) (s)))))) (@rfl V (iV ((k : Nat) : Int))) (by omega) rfl ?_
     refine G_yes (Eq.trans (@rfl V (V.bool (decide (((((nth ((nth (m.nx) (s))) (k))) < (0 : Int)) ∨ (((m.nx.length : Nat) : Int) ≤ ((nth ((nth (m.nx) (s))) (k))))) ∨ (((nth ((nth (m.ot) (s))) (k))) < (0 : Int)))))) (bdF g9)) ?_
     refine R_load_pp (v := (iV ((nth ((nth (m.ot) (s))) (k))))) (@rfl V (V.pp [(iV ((nth ((nth (m.ot) (s))) (k))))])) (by first | rfl | simp [ldV]) ?_
     refine G_yes (Eq.trans (@rfl V (V.bool (decide (((((nth ((nth (m.nx) (s))) (k))) < (0 : Int)) ∨ (((m.nx.length : Nat) : Int) ≤ ((nth ((nth (m.nx) (s))) (k))))) ∨ (((nth ((nth (m.ot) (s))) (k))) < (0 : Int)))))) (bdF g9)) ?_
     refine R_gtr (x := ((nth ((nth (m.ot) (s))) (k)))) (y := (1048576 : Int)) (@rfl V (iV ((nth ((nth (m.ot) (s))) (k))))) (@rfl V (iV (1048576 : Int))) ?_
     refine R_pickF (Eq.trans (@rfl V (V.bool (decide (((((nth ((nth (m.nx) (s))) (k))) < (0 : Int)) ∨ (((m.nx.length : Nat) : Int) ≤ ((nth ((nth (m.nx) (s))) (k))))) ∨ (((nth ((nth (m.ot) (s))) (k))) < (0 : Int)))))) (bdF g9)) (@rfl V (V.bool (decide ((1048576 : Int) < ((nth ((nth (m.ot) (s))) (k))))))) ?_
     exact ⟨t1, t2, t5, (Eq.trans (@rfl V (V.bool (decide ((1048576 : Int) < ((nth ((nth (m.ot) (s))) (k))))))) (dec_orF g9)), h2, trivial⟩
   intro T H ⟨t1, t2, t5, t76, h2, _⟩
   exact R_nil ⟨t1, t2, t5, t76, h2, trivial⟩
  intro T H ⟨t1, t2, t5, t76, h2, _⟩
  refine W_if (p := (((((nth ((nth (m.nx) (s))) (k))) < (0 : Int)) ∨ (((m.nx.length : Nat) : Int) ≤ ((nth ((nth (m.nx) (s))) (k))))) ∨ (((nth ((nth (m.ot) (s))) (k))) < (0 : Int))) ∨ ((1048576 : Int) < ((nth ((nth (m.ot) (s))) (k))))) t76 (fun c10 => ?_) (fun c10 => ?_)
  ·
   refine W_seq_regc (fun T H => T 4 = (iV (2 : Int)) ∧ H 2 = (⟨1, true, false, 24, 4, [[(iV (m.i)), (iV (m.s)), (V.sl (List.map cL (m.nx))), (V.sl (List.map cL (m.ot)))]]⟩ : Blk) ∧ True) ?_ ?_
   ·
    unfold r95_7
    refine R_mv (@rfl V (iV (2 : Int))) ?_
    exact R_nil ⟨rfl, h2, trivial⟩
   intro T H ⟨t4, h2, _⟩
   refine W_ret ?_
   refine y6 _ _ ?_
   refine p24 _ _ ?_
   refine y3 _ _ ?_
   refine Ret_1 t4 (fz_int ?_)
   · rw [hc, fe_hit (by unfold celE; split <;> omega) (by omega)]; unfold celE; split <;> omega
  refine W_skip ?_
  refine n6 _ _ ?_
  refine .done ?_
  refine W_regc (fun T H => T 1 = (iV ((s : Nat) : Int)) ∧ T 2 = (V.mp 2 1 0 0) ∧ T 5 = (iV ((k + 1 : Nat) : Int)) ∧ H 2 = (⟨1, true, false, 24, 4, [[(iV (m.i)), (iV (m.s)), (V.sl (List.map cL (m.nx))), (V.sl (List.map cL (m.ot)))]]⟩ : Blk) ∧ True) ?_ ?_
  ·
   unfold r95_5
   refine R_mv t5 ?_
   refine R_addN (m := k) (n := 1) (@rfl V (iV ((k : Nat) : Int))) (@rfl V (iV ((1 : Nat) : Int))) (by omega) ?_
   refine R_mv (@rfl V (iV ((k + 1 : Nat) : Int))) ?_
   exact R_nil ⟨t1, t2, rfl, h2, trivial⟩
  intro T H ⟨t1, t2, t5, h2, _⟩
  refine p14 _ _ _ ?_ ⟨(k + 1), rfl, t1, t2, (Eq.trans t5 (by first | rfl | simp)), h2, ?_, ?_, ?_⟩
  · omega
  · omega
  · omega
  · rw [hc, fe_skip (by unfold celE; split <;> omega) (by omega)]
 refine W_seq_exit ?_
 refine p34 _ _ _ ?_
 refine x3 _ _ ?_
 refine .done ?_
 refine W_seq_regc (fun T H => T 4 = (iV (0 : Int)) ∧ H 2 = (⟨1, true, false, 24, 4, [[(iV (m.i)), (iV (m.s)), (V.sl (List.map cL (m.nx))), (V.sl (List.map cL (m.ot)))]]⟩ : Blk) ∧ True) ?_ ?_
 ·
  unfold r95_8
  refine R_mv (@rfl V (iV (0 : Int))) ?_
  exact R_nil ⟨rfl, h2, trivial⟩
 intro T H ⟨t4, h2, _⟩
 refine W_ret ?_
 refine Ret_1 t4 (fz_int ?_)
 · rw [hc, fe_end (by omega)]
end Go.Proofs.Ytngkckefanbhgaa

namespace Go.Proofs.Ytngkckefanbhgaa
open Go Go.Proofs
theorem rvalid_pure (m : M) : PureC Try.prog 57 [(V.agg [(iV (m.i)), (iV (m.s)), (V.sl (List.map cL (m.nx))), (V.sl (List.map cL (m.ot)))])] (iV (mval m)) := by
 refine pure_of_Wb true 6 Try.func57 s57_ok (by kernel_rfl) (by simp [s57]) (by simp) (by simp) fun hB => ?_
 simp only [bnd_map, bnd_int, bnd_bool, bnd_str, bnd_agg, bnd_pp, bnd_nil, bnd_cons, implies_true, and_true, true_and] at hB
 unfold s57
 dsimp only
 refine W_seq_regc (fun T H => T 1 = (V.mp 1 1 0 0) ∧ H 1 = (⟨1, true, false, 24, 4, [[(iV (m.i)), (iV (m.s)), (V.sl (List.map cL (m.nx))), (V.sl (List.map cL (m.ot)))]]⟩ : Blk) ∧ True) ?_ ?_
 ·
  unfold r57_0
  refine R_box (i := 1) (n := 0) (m := 4) (cs := [(iV (m.i)), (iV (m.s)), (V.sl (List.map cL (m.nx))), (V.sl (List.map cL (m.ot)))]) rfl (congrArg Blk.ver rfl) (@rfl V (V.agg [(iV (m.i)), (iV (m.s)), (V.sl (List.map cL (m.nx))), (V.sl (List.map cL (m.ot)))])) rfl rfl ?_
  refine R_mv (@rfl V (iV (0 : Int))) ?_
  exact R_nil ⟨rfl, rfl, trivial⟩
 intro T H ⟨t1, h1, _⟩
 refine W_seq_seq ?_
 refine W_seq_regc (fun T H => T 1 = (V.mp 1 1 0 0) ∧ T 12 = (V.bool (decide (((m.i) < (1 : Int)) ∨ ((64 : Int) < (m.i))))) ∧ H 1 = (⟨1, true, false, 24, 4, [[(iV (m.i)), (iV (m.s)), (V.sl (List.map cL (m.nx))), (V.sl (List.map cL (m.ot)))]]⟩ : Blk) ∧ True) ?_ ?_
 ·
  unfold r57_1
  refine R_fld_mp (o' := 0) t1 h1 (by first | rfl | simp [okB, Blk.own]) rfl ?_
  refine R_load_mp (v := (iV (m.i))) (@rfl V (V.mp 1 1 0 0)) h1 (by first | rfl | simp [ldB, ldV, Blk.own, V.one]) ?_
  refine R_lss (x := (m.i)) (y := (1 : Int)) (@rfl V (iV (m.i))) (@rfl V (iV (1 : Int))) ?_
  refine R_mv (@rfl V (V.bool (decide ((m.i) < (1 : Int))))) ?_
  refine Ops_seg 4 (fun T H => T 1 = (V.mp 1 1 0 0) ∧ T 12 = (V.bool (decide (((m.i) < (1 : Int)) ∨ ((64 : Int) < (m.i))))) ∧ H 1 = (⟨1, true, false, 24, 4, [[(iV (m.i)), (iV (m.s)), (V.sl (List.map cL (m.nx))), (V.sl (List.map cL (m.ot)))]]⟩ : Blk) ∧ True) ?_ ?_
  ·
   by_cases g1 : (m.i) < (1 : Int)
   ·
    refine G_no (Eq.trans (@rfl V (V.bool (decide ((m.i) < (1 : Int))))) (bdT g1)) (by decide) ?_
    refine G_no (Eq.trans (@rfl V (V.bool (decide ((m.i) < (1 : Int))))) (bdT g1)) (by decide) ?_
    refine G_no (Eq.trans (@rfl V (V.bool (decide ((m.i) < (1 : Int))))) (bdT g1)) (by decide) ?_
    refine R_pickT (Eq.trans (@rfl V (V.bool (decide ((m.i) < (1 : Int))))) (bdT g1)) (@rfl V (V.bool true)) ?_
    exact ⟨t1, (Eq.trans (@rfl V (V.bool true)) (dec_orT g1)), h1, trivial⟩
   ·
    refine G_yes (Eq.trans (@rfl V (V.bool (decide ((m.i) < (1 : Int))))) (bdF g1)) ?_
    refine R_fld_mp (o' := 0) t1 h1 (by first | rfl | simp [okB, Blk.own]) rfl ?_
    refine G_yes (Eq.trans (@rfl V (V.bool (decide ((m.i) < (1 : Int))))) (bdF g1)) ?_
    refine R_load_mp (v := (iV (m.i))) (@rfl V (V.mp 1 1 0 0)) h1 (by first | rfl | simp [ldB, ldV, Blk.own, V.one]) ?_
    refine G_yes (Eq.trans (@rfl V (V.bool (decide ((m.i) < (1 : Int))))) (bdF g1)) ?_
    refine R_gtr (x := (m.i)) (y := (64 : Int)) (@rfl V (iV (m.i))) (@rfl V (iV (64 : Int))) ?_
    refine R_pickF (Eq.trans (@rfl V (V.bool (decide ((m.i) < (1 : Int))))) (bdF g1)) (@rfl V (V.bool (decide ((64 : Int) < (m.i))))) ?_
    exact ⟨t1, (Eq.trans (@rfl V (V.bool (decide ((64 : Int) < (m.i))))) (dec_orF g1)), h1, trivial⟩
  intro T H ⟨t1, t12, h1, _⟩
  exact R_nil ⟨t1, t12, h1, trivial⟩
 intro T H ⟨t1, t12, h1, _⟩
 refine W_seq_if (p := ((m.i) < (1 : Int)) ∨ ((64 : Int) < (m.i))) t12 (fun c2 => ?_) (fun c2 => ?_)
 ·
  refine W_seq_seq ?_
  refine W_seq_regc (fun T H => T 2 = (iV (2 : Int)) ∧ H 1 = (⟨1, true, false, 24, 4, [[(iV (m.i)), (iV (m.s)), (V.sl (List.map cL (m.nx))), (V.sl (List.map cL (m.ot)))]]⟩ : Blk) ∧ True) ?_ ?_
  ·
   unfold r57_2
   refine R_mv (@rfl V (iV (2 : Int))) ?_
   exact R_nil ⟨rfl, h1, trivial⟩
  intro T H ⟨t2, h1, _⟩
  refine W_seq_ret ?_
  refine Ret_1 t2 (fz_int ?_)
  · rw [mval, if_pos (by omega)]
 refine W_seq_skip ?_
 refine W_seq_seq ?_
 refine W_seq_regc (fun T H => T 1 = (V.mp 1 1 0 0) ∧ T 16 = (V.bool (decide (((m.nx.length : Nat) : Int) = (0 : Int)))) ∧ H 1 = (⟨1, true, false, 24, 4, [[(iV (m.i)), (iV (m.s)), (V.sl (List.map cL (m.nx))), (V.sl (List.map cL (m.ot)))]]⟩ : Blk) ∧ True) ?_ ?_
 ·
  unfold r57_3
  refine R_fld_mp (o' := 2) t1 h1 (by first | rfl | simp [okB, Blk.own]) rfl ?_
  refine R_load_mp (v := (V.sl (List.map cL (m.nx)))) (@rfl V (V.mp 1 1 0 2)) h1 (by first | rfl | simp [ldB, ldV, Blk.own, V.one]) ?_
  refine R_len (@rfl V (V.sl (List.map cL (m.nx)))) ?_
  refine R_eql (x := ((m.nx.length : Nat) : Int)) (y := (0 : Int)) (@rfl V (iV ((m.nx.length : Nat) : Int))) (@rfl V (iV (0 : Int))) ?_
  exact R_nil ⟨t1, rfl, h1, trivial⟩
 intro T H ⟨t1, t16, h1, _⟩
 refine W_seq_if (p := ((m.nx.length : Nat) : Int) = (0 : Int)) t16 (fun c3 => ?_) (fun c3 => ?_)
 ·
  refine W_seq_seq ?_
  refine W_seq_regc (fun T H => T 2 = (iV (19 : Int)) ∧ H 1 = (⟨1, true, false, 24, 4, [[(iV (m.i)), (iV (m.s)), (V.sl (List.map cL (m.nx))), (V.sl (List.map cL (m.ot)))]]⟩ : Blk) ∧ True) ?_ ?_
  ·
   unfold r57_4
   refine R_mv (@rfl V (iV (19 : Int))) ?_
   exact R_nil ⟨rfl, h1, trivial⟩
  intro T H ⟨t2, h1, _⟩
  refine W_seq_ret ?_
  refine Ret_1 t2 (fz_int ?_)
  · rw [mval, if_neg (by omega), if_pos (by omega)]
 refine W_seq_skip ?_
 refine W_seq_seq ?_
 refine W_seq_regc (fun T H => T 1 = (V.mp 1 1 0 0) ∧ T 20 = (V.bool (decide ((128 : Int) < ((m.nx.length : Nat) : Int)))) ∧ H 1 = (⟨1, true, false, 24, 4, [[(iV (m.i)), (iV (m.s)), (V.sl (List.map cL (m.nx))), (V.sl (List.map cL (m.ot)))]]⟩ : Blk) ∧ True) ?_ ?_
 ·
  unfold r57_5
  refine R_fld_mp (o' := 2) t1 h1 (by first | rfl | simp [okB, Blk.own]) rfl ?_
  refine R_load_mp (v := (V.sl (List.map cL (m.nx)))) (@rfl V (V.mp 1 1 0 2)) h1 (by first | rfl | simp [ldB, ldV, Blk.own, V.one]) ?_
  refine R_len (@rfl V (V.sl (List.map cL (m.nx)))) ?_
  refine R_gtr (x := ((m.nx.length : Nat) : Int)) (y := (128 : Int)) (@rfl V (iV ((m.nx.length : Nat) : Int))) (@rfl V (iV (128 : Int))) ?_
  exact R_nil ⟨t1, rfl, h1, trivial⟩
 intro T H ⟨t1, t20, h1, _⟩
 refine W_seq_if (p := (128 : Int) < ((m.nx.length : Nat) : Int)) t20 (fun c4 => ?_) (fun c4 => ?_)
 ·
  refine W_seq_seq ?_
  refine W_seq_regc (fun T H => T 2 = (iV (11 : Int)) ∧ H 1 = (⟨1, true, false, 24, 4, [[(iV (m.i)), (iV (m.s)), (V.sl (List.map cL (m.nx))), (V.sl (List.map cL (m.ot)))]]⟩ : Blk) ∧ True) ?_ ?_
  ·
   unfold r57_6
   refine R_mv (@rfl V (iV (11 : Int))) ?_
   exact R_nil ⟨rfl, h1, trivial⟩
  intro T H ⟨t2, h1, _⟩
  refine W_seq_ret ?_
  refine Ret_1 t2 (fz_int ?_)
  · rw [mval, if_neg (by omega), if_neg (by omega), if_pos (by omega)]
 refine W_seq_skip ?_
 refine W_seq_seq ?_
 refine W_seq_regc (fun T H => T 1 = (V.mp 1 1 0 0) ∧ T 31 = (V.bool (decide (((m.s) < (0 : Int)) ∨ (((m.nx.length : Nat) : Int) ≤ (m.s))))) ∧ H 1 = (⟨1, true, false, 24, 4, [[(iV (m.i)), (iV (m.s)), (V.sl (List.map cL (m.nx))), (V.sl (List.map cL (m.ot)))]]⟩ : Blk) ∧ True) ?_ ?_
 ·
  unfold r57_7
  refine R_fld_mp (o' := 1) t1 h1 (by first | rfl | simp [okB, Blk.own]) rfl ?_
  refine R_load_mp (v := (iV (m.s))) (@rfl V (V.mp 1 1 0 1)) h1 (by first | rfl | simp [ldB, ldV, Blk.own, V.one]) ?_
  refine R_lss (x := (m.s)) (y := (0 : Int)) (@rfl V (iV (m.s))) (@rfl V (iV (0 : Int))) ?_
  refine R_mv (@rfl V (V.bool (decide ((m.s) < (0 : Int))))) ?_
  refine Ops_seg 7 (fun T H => T 1 = (V.mp 1 1 0 0) ∧ T 31 = (V.bool (decide (((m.s) < (0 : Int)) ∨ (((m.nx.length : Nat) : Int) ≤ (m.s))))) ∧ H 1 = (⟨1, true, false, 24, 4, [[(iV (m.i)), (iV (m.s)), (V.sl (List.map cL (m.nx))), (V.sl (List.map cL (m.ot)))]]⟩ : Blk) ∧ True) ?_ ?_
  ·
   by_cases g5 : (m.s) < (0 : Int)
   ·
    refine G_no (Eq.trans (@rfl V (V.bool (decide ((m.s) < (0 : Int))))) (bdT g5)) (by decide) ?_
    refine G_no (Eq.trans (@rfl V (V.bool (decide ((m.s) < (0 : Int))))) (bdT g5)) (by decide) ?_
    refine G_no (Eq.trans (@rfl V (V.bool (decide ((m.s) < (0 : Int))))) (bdT g5)) (by decide) ?_
    refine G_no (Eq.trans (@rfl V (V.bool (decide ((m.s) < (0 : Int))))) (bdT g5)) (by decide) ?_
    refine G_no (Eq.trans (@rfl V (V.bool (decide ((m.s) < (0 : Int))))) (bdT g5)) (by decide) ?_
    refine G_no (Eq.trans (@rfl V (V.bool (decide ((m.s) < (0 : Int))))) (bdT g5)) (by decide) ?_
    refine R_pickT (Eq.trans (@rfl V (V.bool (decide ((m.s) < (0 : Int))))) (bdT g5)) (@rfl V (V.bool true)) ?_
    exact ⟨t1, (Eq.trans (@rfl V (V.bool true)) (dec_orT g5)), h1, trivial⟩
   ·
    refine G_yes (Eq.trans (@rfl V (V.bool (decide ((m.s) < (0 : Int))))) (bdF g5)) ?_
    refine R_fld_mp (o' := 1) t1 h1 (by first | rfl | simp [okB, Blk.own]) rfl ?_
    refine G_yes (Eq.trans (@rfl V (V.bool (decide ((m.s) < (0 : Int))))) (bdF g5)) ?_
    refine R_load_mp (v := (iV (m.s))) (@rfl V (V.mp 1 1 0 1)) h1 (by first | rfl | simp [ldB, ldV, Blk.own, V.one]) ?_
    refine G_yes (Eq.trans (@rfl V (V.bool (decide ((m.s) < (0 : Int))))) (bdF g5)) ?_
    refine R_fld_mp (o' := 2) t1 h1 (by first | rfl | simp [okB, Blk.own]) rfl ?_
    refine G_yes (Eq.trans (@rfl V (V.bool (decide ((m.s) < (0 : Int))))) (bdF g5)) ?_
    refine R_load_mp (v := (V.sl (List.map cL (m.nx)))) (@rfl V (V.mp 1 1 0 2)) h1 (by first | rfl | simp [ldB, ldV, Blk.own, V.one]) ?_
    refine G_yes (Eq.trans (@rfl V (V.bool (decide ((m.s) < (0 : Int))))) (bdF g5)) ?_
    refine R_len (@rfl V (V.sl (List.map cL (m.nx)))) ?_
    refine G_yes (Eq.trans (@rfl V (V.bool (decide ((m.s) < (0 : Int))))) (bdF g5)) ?_
    refine R_geq (x := (m.s)) (y := ((m.nx.length : Nat) : Int)) (@rfl V (iV (m.s))) (@rfl V (iV ((m.nx.length : Nat) : Int))) ?_
    refine R_pickF (Eq.trans (@rfl V (V.bool (decide ((m.s) < (0 : Int))))) (bdF g5)) (@rfl V (V.bool (decide (((m.nx.length : Nat) : Int) ≤ (m.s))))) ?_
    exact ⟨t1, (Eq.trans (@rfl V (V.bool (decide (((m.nx.length : Nat) : Int) ≤ (m.s))))) (dec_orF g5)), h1, trivial⟩
  intro T H ⟨t1, t31, h1, _⟩
  exact R_nil ⟨t1, t31, h1, trivial⟩
 intro T H ⟨t1, t31, h1, _⟩
 refine W_seq_if (p := ((m.s) < (0 : Int)) ∨ (((m.nx.length : Nat) : Int) ≤ (m.s))) t31 (fun c6 => ?_) (fun c6 => ?_)
 ·
  refine W_seq_seq ?_
  refine W_seq_regc (fun T H => T 2 = (iV (2 : Int)) ∧ H 1 = (⟨1, true, false, 24, 4, [[(iV (m.i)), (iV (m.s)), (V.sl (List.map cL (m.nx))), (V.sl (List.map cL (m.ot)))]]⟩ : Blk) ∧ True) ?_ ?_
  ·
   unfold r57_8
   refine R_mv (@rfl V (iV (2 : Int))) ?_
   exact R_nil ⟨rfl, h1, trivial⟩
  intro T H ⟨t2, h1, _⟩
  refine W_seq_ret ?_
  refine Ret_1 t2 (fz_int ?_)
  · rw [mval, if_neg (by omega), if_neg (by omega), if_neg (by omega), if_pos (by omega)]
 refine W_seq_skip ?_
 refine W_seq_seq ?_
 refine W_seq_regc (fun T H => T 1 = (V.mp 1 1 0 0) ∧ T 38 = (V.bool (decide (((m.ot.length : Nat) : Int) ≠ ((m.nx.length : Nat) : Int)))) ∧ H 1 = (⟨1, true, false, 24, 4, [[(iV (m.i)), (iV (m.s)), (V.sl (List.map cL (m.nx))), (V.sl (List.map cL (m.ot)))]]⟩ : Blk) ∧ True) ?_ ?_
 ·
  unfold r57_9
  refine R_fld_mp (o' := 3) t1 h1 (by first | rfl | simp [okB, Blk.own]) rfl ?_
  refine R_load_mp (v := (V.sl (List.map cL (m.ot)))) (@rfl V (V.mp 1 1 0 3)) h1 (by first | rfl | simp [ldB, ldV, Blk.own, V.one]) ?_
  refine R_len (@rfl V (V.sl (List.map cL (m.ot)))) ?_
  refine R_fld_mp (o' := 2) t1 h1 (by first | rfl | simp [okB, Blk.own]) rfl ?_
  refine R_load_mp (v := (V.sl (List.map cL (m.nx)))) (@rfl V (V.mp 1 1 0 2)) h1 (by first | rfl | simp [ldB, ldV, Blk.own, V.one]) ?_
  refine R_len (@rfl V (V.sl (List.map cL (m.nx)))) ?_
  refine R_neq (x := ((m.ot.length : Nat) : Int)) (y := ((m.nx.length : Nat) : Int)) (@rfl V (iV ((m.ot.length : Nat) : Int))) (@rfl V (iV ((m.nx.length : Nat) : Int))) ?_
  exact R_nil ⟨t1, rfl, h1, trivial⟩
 intro T H ⟨t1, t38, h1, _⟩
 refine W_seq_if (p := ((m.ot.length : Nat) : Int) ≠ ((m.nx.length : Nat) : Int)) t38 (fun c7 => ?_) (fun c7 => ?_)
 ·
  refine W_seq_seq ?_
  refine W_seq_regc (fun T H => T 2 = (iV (1 : Int)) ∧ H 1 = (⟨1, true, false, 24, 4, [[(iV (m.i)), (iV (m.s)), (V.sl (List.map cL (m.nx))), (V.sl (List.map cL (m.ot)))]]⟩ : Blk) ∧ True) ?_ ?_
  ·
   unfold r57_10
   refine R_mv (@rfl V (iV (1 : Int))) ?_
   exact R_nil ⟨rfl, h1, trivial⟩
  intro T H ⟨t2, h1, _⟩
  refine W_seq_ret ?_
  refine Ret_1 t2 (fz_int ?_)
  · rw [mval, if_neg (by omega), if_neg (by omega), if_neg (by omega), if_neg (by omega), if_pos (by omega)]
 refine W_seq_skip ?_
 refine W_seq_seq ?_
 refine W_seq_regc (fun T H => T 1 = (V.mp 1 1 0 0) ∧ T 3 = (iV (0 : Int)) ∧ H 1 = (⟨1, true, false, 24, 4, [[(iV (m.i)), (iV (m.s)), (V.sl (List.map cL (m.nx))), (V.sl (List.map cL (m.ot)))]]⟩ : Blk) ∧ True) ?_ ?_
 ·
  unfold r57_11
  refine R_mv (@rfl V (iV (0 : Int))) ?_
  exact R_nil ⟨t1, rfl, h1, trivial⟩
 intro T H ⟨t1, t3, h1, _⟩
 refine W_seq_blockg fun Q8 n8 x8 y8 z8 => ?_
 refine W_loop (fun mm T H => ∃ (k : Nat), mm = m.nx.length - k ∧ T 1 = (V.mp 1 1 0 0) ∧ T 3 = (iV ((k : Nat) : Int)) ∧ H 1 = (⟨1, true, false, 24, 4, [[(iV (m.i)), (iV (m.s)), (V.sl (List.map cL (m.nx))), (V.sl (List.map cL (m.ot)))]]⟩ : Blk) ∧ (k ≤ m.nx.length) ∧ (1 ≤ m.i ∧ m.i ≤ 64 ∧ 0 < m.nx.length ∧ m.nx.length ≤ 128 ∧ m.ot.length = m.nx.length) ∧ (mval m = fe (rowE m) k (m.nx.length - k))) ?_ ?_
 ·
  refine ⟨_, 0, rfl, t1, (Eq.trans t3 (by first | rfl | simp)), h1, ?_, ?_, ?_⟩
  · omega
  · omega
  · rw [mval, if_neg (by omega), if_neg (by omega), if_neg (by omega), if_neg (by omega), if_neg (by omega)]; rfl
 intro mm T H ⟨k, hmm, t1, t3, h1, hk, hv, hc⟩ Q9 p19 p29 p39
 unfold b57_0
 refine W_seq_seq ?_
 refine W_seq_regc (fun T H => T 1 = (V.mp 1 1 0 0) ∧ T 3 = (iV ((k : Nat) : Int)) ∧ T 43 = (V.bool (decide (((k : Nat) : Int) < ((m.nx.length : Nat) : Int)))) ∧ H 1 = (⟨1, true, false, 24, 4, [[(iV (m.i)), (iV (m.s)), (V.sl (List.map cL (m.nx))), (V.sl (List.map cL (m.ot)))]]⟩ : Blk) ∧ True) ?_ ?_
 ·
  unfold r57_12
  refine R_mv t3 ?_
  refine R_fld_mp (o' := 2) t1 h1 (by first | rfl | simp [okB, Blk.own]) rfl ?_
  refine R_load_mp (v := (V.sl (List.map cL (m.nx)))) (@rfl V (V.mp 1 1 0 2)) h1 (by first | rfl | simp [ldB, ldV, Blk.own, V.one]) ?_
  refine R_len (@rfl V (V.sl (List.map cL (m.nx)))) ?_
  refine R_lss (x := ((k : Nat) : Int)) (y := ((m.nx.length : Nat) : Int)) (@rfl V (iV ((k : Nat) : Int))) (@rfl V (iV ((m.nx.length : Nat) : Int))) ?_
  exact R_nil ⟨t1, t3, rfl, h1, trivial⟩
 intro T H ⟨t1, t3, t43, h1, _⟩
 refine W_seq_if (p := ((k : Nat) : Int) < ((m.nx.length : Nat) : Int)) t43 (fun c10 => ?_) (fun c10 => ?_)
 ·
  refine W_seq_skip ?_
  refine W_seq_blockg fun Q11 n11 x11 y11 z11 => ?_
  refine W_seq_regc (fun T H => T 1 = (V.mp 1 1 0 0) ∧ T 3 = (iV ((k : Nat) : Int)) ∧ T 4 = (iV (rowE m k)) ∧ H 1 = (⟨1, true, false, 24, 4, [[(iV (m.i)), (iV (m.s)), (V.sl (List.map cL (m.nx))), (V.sl (List.map cL (m.ot)))]]⟩ : Blk) ∧ True) ?_ ?_
  ·
   unfold r57_14
   refine R_load_mp (v := (V.agg [(iV (m.i)), (iV (m.s)), (V.sl (List.map cL (m.nx))), (V.sl (List.map cL (m.ot)))])) t1 h1 (by first | rfl | simp [ldB, ldV, Blk.own, V.one]) ?_
   refine R_mv t3 ?_
   refine R_call (evcons (@rfl V (V.agg [(iV (m.i)), (iV (m.s)), (V.sl (List.map cL (m.nx))), (V.sl (List.map cL (m.ot)))])) (evcons (@rfl V (iV ((k : Nat) : Int))) evnil)) (row_pure m k (by first | omega | assumption) (by first | omega | assumption) (by first | omega | assumption)) (fzv_mapcanon _ _ (by simp [-List.map_take, -List.map_drop, -List.map_append, -List.map_reverse])) (by simp [-List.map_take, -List.map_drop, -List.map_append, -List.map_reverse]) (Or.inl (by simp [-List.map_take, -List.map_drop, -List.map_append, -List.map_reverse])) ?_
   refine R_mv (@rfl V (iV (rowE m k))) ?_
   exact R_nil ⟨t1, t3, rfl, h1, trivial⟩
  intro T H ⟨t1, t3, t4, h1, _⟩
  refine W_seq_regc (fun T H => T 1 = (V.mp 1 1 0 0) ∧ T 3 = (iV ((k : Nat) : Int)) ∧ T 4 = (iV (rowE m k)) ∧ T 50 = (V.bool (decide ((rowE m k) ≠ (0 : Int)))) ∧ H 1 = (⟨1, true, false, 24, 4, [[(iV (m.i)), (iV (m.s)), (V.sl (List.map cL (m.nx))), (V.sl (List.map cL (m.ot)))]]⟩ : Blk) ∧ True) ?_ ?_
  ·
   unfold r57_15
   refine R_mv t4 ?_
   refine R_neq (x := (rowE m k)) (y := (0 : Int)) (@rfl V (iV (rowE m k))) (@rfl V (iV (0 : Int))) ?_
   exact R_nil ⟨t1, t3, t4, rfl, h1, trivial⟩
  intro T H ⟨t1, t3, t4, t50, h1, _⟩
  refine W_if (p := (rowE m k) ≠ (0 : Int)) t50 (fun c12 => ?_) (fun c12 => ?_)
  ·
   refine W_seq_regc (fun T H => T 2 = (iV (rowE m k)) ∧ H 1 = (⟨1, true, false, 24, 4, [[(iV (m.i)), (iV (m.s)), (V.sl (List.map cL (m.nx))), (V.sl (List.map cL (m.ot)))]]⟩ : Blk) ∧ True) ?_ ?_
   ·
    unfold r57_16
    refine R_mv t4 ?_
    refine R_mv (@rfl V (iV (rowE m k))) ?_
    exact R_nil ⟨rfl, h1, trivial⟩
   intro T H ⟨t2, h1, _⟩
   refine W_ret ?_
   refine y11 _ _ ?_
   refine p29 _ _ ?_
   refine y8 _ _ ?_
   refine Ret_1 t2 (fz_int ?_)
   · rw [hc, fe_hit (by omega) (by omega)]
  refine W_skip ?_
  refine n11 _ _ ?_
  refine .done ?_
  refine W_regc (fun T H => T 1 = (V.mp 1 1 0 0) ∧ T 3 = (iV ((k + 1 : Nat) : Int)) ∧ H 1 = (⟨1, true, false, 24, 4, [[(iV (m.i)), (iV (m.s)), (V.sl (List.map cL (m.nx))), (V.sl (List.map cL (m.ot)))]]⟩ : Blk) ∧ True) ?_ ?_
  ·
   unfold r57_13
   refine R_mv t3 ?_
   refine R_addN (m := k) (n := 1) (@rfl V (iV ((k : Nat) : Int))) (@rfl V (iV ((1 : Nat) : Int))) (by omega) ?_
   refine R_mv (@rfl V (iV ((k + 1 : Nat) : Int))) ?_
   exact R_nil ⟨t1, rfl, h1, trivial⟩
  intro T H ⟨t1, t3, h1, _⟩
  refine p19 _ _ _ ?_ ⟨(k + 1), rfl, t1, (Eq.trans t3 (by first | rfl | simp)), h1, ?_, ?_, ?_⟩
  · omega
  · omega
  · omega
  · rw [hc, fe_skip (by omega) (by omega)]
 refine W_seq_exit ?_
 refine p39 _ _ _ ?_
 refine x8 _ _ ?_
 refine .done ?_
 refine W_seq_regc (fun T H => T 2 = (iV (0 : Int)) ∧ H 1 = (⟨1, true, false, 24, 4, [[(iV (m.i)), (iV (m.s)), (V.sl (List.map cL (m.nx))), (V.sl (List.map cL (m.ot)))]]⟩ : Blk) ∧ True) ?_ ?_
 ·
  unfold r57_17
  refine R_mv (@rfl V (iV (0 : Int))) ?_
  exact R_nil ⟨rfl, h1, trivial⟩
 intro T H ⟨t2, h1, _⟩
 refine W_ret ?_
 refine Ret_1 t2 (fz_int ?_)
 · rw [hc, fe_end (by omega)]
end Go.Proofs.Ytngkckefanbhgaa

namespace Go.Proofs.Ytngkckefanbhgaa
open Go Go.Proofs
def r59_0 : List SO := [
  ⟨none, some 3, .box 24 4 (.t 0)⟩,
  ⟨none, some 6, .mv (.c (.nilsl))⟩,
  ⟨none, some 7, .mv (.c (.int .i64 0))⟩]
def r59_1 : List SO := [
  ⟨none, some 8, .lazy 3 1⟩]
def r59_2 : List SO := [
  ⟨none, some 9, .mv (.c (.int .i64 0))⟩]
def r59_3 : List SO := [
  ⟨none, some 10, .mv (.t 9)⟩,
  ⟨none, some 11, .mv (.t 2)⟩,
  ⟨none, some 12, .len (.t 11)⟩,
  ⟨none, some 13, .bin .lss (.t 10) (.t 12)⟩]
def r59_5 : List SO := [
  ⟨none, some 16, .mv (.t 8)⟩,
  ⟨none, some 17, .fld 3 (.t 3)⟩,
  ⟨none, some 18, .load false 1 (.t 17)⟩,
  ⟨none, some 19, .mv (.t 1)⟩,
  ⟨none, some 20, .idx 1 (.t 18) (.t 19)⟩,
  ⟨none, some 21, .load false 1 (.t 20)⟩,
  ⟨none, some 22, .mv (.t 2)⟩,
  ⟨none, some 23, .mv (.t 9)⟩,
  ⟨none, some 24, .idx 1 (.t 22) (.t 23)⟩,
  ⟨none, some 25, .load false 1 (.t 24)⟩,
  ⟨none, some 26, .idx 1 (.t 21) (.t 25)⟩,
  ⟨none, some 27, .load false 1 (.t 26)⟩,
  ⟨none, some 28, .bslice 3 1 false [.int .i64 0] 1 [(0, .t 27)]⟩,
  ⟨none, some 29, .append 3 1 8 (.t 16) (.t 28)⟩,
  ⟨none, some 8, .mv (.t 29)⟩]
def r59_6 : List SO := [
  ⟨none, some 30, .fld 2 (.t 3)⟩,
  ⟨none, some 31, .load false 1 (.t 30)⟩,
  ⟨none, some 32, .mv (.t 1)⟩,
  ⟨none, some 33, .idx 1 (.t 31) (.t 32)⟩,
  ⟨none, some 34, .load false 1 (.t 33)⟩,
  ⟨none, some 35, .mv (.t 2)⟩,
  ⟨none, some 36, .mv (.t 9)⟩,
  ⟨none, some 37, .idx 1 (.t 35) (.t 36)⟩,
  ⟨none, some 38, .load false 1 (.t 37)⟩,
  ⟨none, some 39, .idx 1 (.t 34) (.t 38)⟩,
  ⟨none, some 40, .load false 1 (.t 39)⟩,
  ⟨none, some 1, .mv (.t 40)⟩]
def r59_4 : List SO := [
  ⟨none, some 14, .mv (.t 9)⟩,
  ⟨none, some 15, .bin .add (.t 14) (.c (.int .i64 1))⟩,
  ⟨none, some 9, .mv (.t 15)⟩]
def b59_0 : SC := .seq (.seq (.reg r59_3) (.cond (.t 13) (.skip) (.exit 0))) (.seq (.block 1 (.seq (.reg r59_5) (.reg r59_6))) (.reg r59_4))
def r59_7 : List SO := [
  ⟨none, some 41, .mv (.t 8)⟩,
  ⟨none, some 42, .mv (.t 1)⟩,
  ⟨none, some 6, .mv (.t 41)⟩,
  ⟨none, some 7, .mv (.t 42)⟩]
def s59 : SF := ⟨43, [.tmp 6, .tmp 7], .seq (.reg r59_0) (.seq (.reg r59_1) (.seq (.seq (.reg r59_2) (.block 0 (.loop b59_0))) (.seq (.reg r59_7) (.ret))))⟩
theorem s59_ok : slimF Try.prog ⟨[94, 102, 103, 108, 109, 116, 119, 121, 125], [8]⟩ Try.f59 = some s59 := by kernel_rfl
end Go.Proofs.Ytngkckefanbhgaa

namespace Go.Proofs.Ytngkckefanbhgaa
open Go Go.Proofs
theorem outs_pure (m : M) (s : Int) (w : List Int) (hm : mval m = 0) (hs : 0 ≤ s ∧ s < m.nx.length) (hl : w.length ≤ 1024) (hw : ∀ k, k < w.length → 0 ≤ nth w k ∧ nth w k < m.i) : PureC Try.prog 59 [(V.agg [(iV (m.i)), (iV (m.s)), (V.sl (List.map cL (m.nx))), (V.sl (List.map cL (m.ot)))]), (iV (s)), (V.sl (List.map cI (w)))] (V.tup [(V.sl (List.map cI (outs m s w))), (iV (goal m s w))]) := by
 refine pure_of_Wb true 6 Try.func59 s59_ok (by kernel_rfl) (by simp [s59]) (by simp) (by simp) fun hB => ?_
 simp only [bnd_map, bnd_int, bnd_bool, bnd_str, bnd_agg, bnd_pp, bnd_nil, bnd_cons, implies_true, and_true, true_and] at hB
 unfold s59
 dsimp only
 refine W_seq_regc (fun T H => T 1 = (iV (s)) ∧ T 2 = (V.sl (List.map cI (w))) ∧ T 3 = (V.mp 3 1 0 0) ∧ H 3 = (⟨1, true, false, 24, 4, [[(iV (m.i)), (iV (m.s)), (V.sl (List.map cL (m.nx))), (V.sl (List.map cL (m.ot)))]]⟩ : Blk) ∧ H 8 = (⟨0, false, false, 0, 0, []⟩ : Blk) ∧ True) ?_ ?_
 ·
  unfold r59_0
  refine R_box (i := 3) (n := 0) (m := 4) (cs := [(iV (m.i)), (iV (m.s)), (V.sl (List.map cL (m.nx))), (V.sl (List.map cL (m.ot)))]) rfl (congrArg Blk.ver rfl) (@rfl V (V.agg [(iV (m.i)), (iV (m.s)), (V.sl (List.map cL (m.nx))), (V.sl (List.map cL (m.ot)))])) rfl rfl ?_
  refine R_mv (@rfl V V.nilsl) ?_
  refine R_mv (@rfl V (iV (0 : Int))) ?_
  exact R_nil ⟨rfl, rfl, rfl, rfl, rfl, trivial⟩
 intro T H ⟨t1, t2, t3, h3, h8, _⟩
 refine W_seq_regc (fun T H => T 1 = (iV (s)) ∧ T 2 = (V.sl (List.map cI (w))) ∧ T 3 = (V.mp 3 1 0 0) ∧ T 8 = (V.ms 8 1 0 (0)) ∧ H 3 = (⟨1, true, false, 24, 4, [[(iV (m.i)), (iV (m.s)), (V.sl (List.map cL (m.nx))), (V.sl (List.map cL (m.ot)))]]⟩ : Blk) ∧ H 8 = (⟨1, true, true, 3, 1, []⟩ : Blk) ∧ True) ?_ ?_
 ·
  unfold r59_1
  refine R_lazy (i := 8) (n := 0) rfl (congrArg Blk.ver h8) ?_
  exact R_nil ⟨t1, t2, t3, rfl, h3, rfl, trivial⟩
 intro T H ⟨t1, t2, t3, t8, h3, h8, _⟩
 refine W_seq_seq ?_
 refine W_seq_regc (fun T H => T 1 = (iV (s)) ∧ T 2 = (V.sl (List.map cI (w))) ∧ T 3 = (V.mp 3 1 0 0) ∧ T 8 = (V.ms 8 1 0 (0)) ∧ T 9 = (iV (0 : Int)) ∧ H 3 = (⟨1, true, false, 24, 4, [[(iV (m.i)), (iV (m.s)), (V.sl (List.map cL (m.nx))), (V.sl (List.map cL (m.ot)))]]⟩ : Blk) ∧ H 8 = (⟨1, true, true, 3, 1, []⟩ : Blk) ∧ True) ?_ ?_
 ·
  unfold r59_2
  refine R_mv (@rfl V (iV (0 : Int))) ?_
  exact R_nil ⟨t1, t2, t3, t8, rfl, h3, h8, trivial⟩
 intro T H ⟨t1, t2, t3, t8, t9, h3, h8, _⟩
 refine W_seq_blockg fun Q1 n1 x1 y1 z1 => ?_
 refine W_loop (fun mm T H => ∃ (k : Nat), mm = w.length - k ∧ T 1 = (iV (goal m s (w.take k))) ∧ T 2 = (V.sl (List.map cI (w))) ∧ T 3 = (V.mp 3 1 0 0) ∧ T 8 = (V.ms 8 (1 + k) 0 (k)) ∧ T 9 = (iV ((k : Nat) : Int)) ∧ H 3 = (⟨1, true, false, 24, 4, [[(iV (m.i)), (iV (m.s)), (V.sl (List.map cL (m.nx))), (V.sl (List.map cL (m.ot)))]]⟩ : Blk) ∧ H 8 = (⟨1 + k, true, true, 3, 1, (List.map cI (outs m s (w.take k)))⟩ : Blk) ∧ (k ≤ w.length)) ?_ ?_
 ·
  refine ⟨_, 0, rfl, (Eq.trans t1 (by first | rfl | (rw [goal_step m s (by omega)]; rfl))), t2, t3, (Eq.trans t8 (by first | rfl | (rw [goal_step m s (by omega)]; rfl))), (Eq.trans t9 (by first | rfl | (rw [goal_step m s (by omega)]; rfl))), h3, (Eq.trans h8 (by first | rfl | (rw [outs_step m s (by omega)]; rfl))), ?_⟩
  · omega
 intro mm T H ⟨k, hmm, t1, t2, t3, t8, t9, h3, h8, hk⟩ Q2 p12 p22 p32
 unfold b59_0
 refine W_seq_seq ?_
 refine W_seq_regc (fun T H => T 1 = (iV (goal m s (w.take k))) ∧ T 2 = (V.sl (List.map cI (w))) ∧ T 3 = (V.mp 3 1 0 0) ∧ T 8 = (V.ms 8 (1 + k) 0 (k)) ∧ T 9 = (iV ((k : Nat) : Int)) ∧ T 13 = (V.bool (decide (((k : Nat) : Int) < ((w.length : Nat) : Int)))) ∧ H 3 = (⟨1, true, false, 24, 4, [[(iV (m.i)), (iV (m.s)), (V.sl (List.map cL (m.nx))), (V.sl (List.map cL (m.ot)))]]⟩ : Blk) ∧ H 8 = (⟨1 + k, true, true, 3, 1, (List.map cI (outs m s (w.take k)))⟩ : Blk) ∧ True) ?_ ?_
 ·
  unfold r59_3
  refine R_mv t9 ?_
  refine R_mv t2 ?_
  refine R_len (@rfl V (V.sl (List.map cI (w)))) ?_
  refine R_lss (x := ((k : Nat) : Int)) (y := ((w.length : Nat) : Int)) (@rfl V (iV ((k : Nat) : Int))) (@rfl V (iV ((w.length : Nat) : Int))) ?_
  exact R_nil ⟨t1, t2, t3, t8, t9, rfl, h3, h8, trivial⟩
 intro T H ⟨t1, t2, t3, t8, t9, t13, h3, h8, _⟩
 refine W_seq_if (p := ((k : Nat) : Int) < ((w.length : Nat) : Int)) t13 (fun c3 => ?_) (fun c3 => ?_)
 ·
  have h1 := run_at hm hs hw (k := k) (by omega)
  refine W_seq_skip ?_
  refine W_seq_blockg fun Q4 n4 x4 y4 z4 => ?_
  refine W_seq_regc (fun T H => T 1 = (iV (goal m s (w.take k))) ∧ T 2 = (V.sl (List.map cI (w))) ∧ T 3 = (V.mp 3 1 0 0) ∧ T 8 = (V.ms 8 (1 + k + 1) 0 (k + 1)) ∧ T 9 = (iV ((k : Nat) : Int)) ∧ H 3 = (⟨1, true, false, 24, 4, [[(iV (m.i)), (iV (m.s)), (V.sl (List.map cL (m.nx))), (V.sl (List.map cL (m.ot)))]]⟩ : Blk) ∧ H 8 = (⟨1 + k + 1, true, true, 3, 1, (List.map cI (outs m s (w.take k) ++ [((nth ((nth (m.ot) (goal m s (w.take k)).toNat)) ((nth (w) (k))).toNat))]))⟩ : Blk) ∧ True) ?_ ?_
  ·
   unfold r59_5
   refine R_mv t8 ?_
   refine R_fld_mp (o' := 3) t3 h3 (by first | rfl | simp [okB, Blk.own]) rfl ?_
   refine R_load_mp (v := (V.sl (List.map cL (m.ot)))) (@rfl V (V.mp 3 1 0 3)) h3 (by first | rfl | simp [ldB, ldV, Blk.own, V.one]) ?_
   refine R_mv t1 ?_
   refine R_idxI (i := (goal m s (w.take k))) (@rfl V (V.sl (List.map cL (m.ot)))) (@rfl V (iV (goal m s (w.take k)))) (by omega) (by omega) rfl ?_
   refine R_load_pp (v := (V.sl (List.map cI ((nth (m.ot) (goal m s (w.take k)).toNat))))) (@rfl V (V.pp [(V.sl (List.map cI ((nth (m.ot) (goal m s (w.take k)).toNat))))])) (by first | rfl | simp [ldV]) ?_
   refine R_mv t2 ?_
   refine R_mv t9 ?_
   refine R_idx (i := k) (@rfl V (V.sl (List.map cI (w)))) (@rfl V (iV ((k : Nat) : Int))) (by omega) rfl ?_
   refine R_load_pp (v := (iV ((nth (w) (k))))) (@rfl V (V.pp [(iV ((nth (w) (k))))])) (by first | rfl | simp [ldV]) ?_
   refine R_idxI (i := ((nth (w) (k)))) (@rfl V (V.sl (List.map cI ((nth (m.ot) (goal m s (w.take k)).toNat))))) (@rfl V (iV ((nth (w) (k))))) (by omega) (by omega) rfl ?_
   refine R_load_pp (v := (iV ((nth ((nth (m.ot) (goal m s (w.take k)).toNat)) ((nth (w) (k))).toNat)))) (@rfl V (V.pp [(iV ((nth ((nth (m.ot) (goal m s (w.take k)).toNat)) ((nth (w) (k))).toNat)))])) (by first | rfl | simp [ldV]) ?_
   refine R_bslice (qs := [(0, (iV ((nth ((nth (m.ot) (goal m s (w.take k)).toNat)) ((nth (w) (k))).toNat))))]) (rows := [[(iV ((nth ((nth (m.ot) (goal m s (w.take k)).toNat)) ((nth (w) (k))).toNat)))]]) (mcons (congrArg (fun v => (0, v)) (@rfl V (iV ((nth ((nth (m.ot) (goal m s (w.take k)).toNat)) ((nth (w) (k))).toNat))))) rfl) rfl ?_
   refine R_append1 (l := (outs m s (w.take k))) (f := cI) (x := (((nth ((nth (m.ot) (goal m s (w.take k)).toNat)) ((nth (w) (k))).toNat)))) (@rfl V (V.ms 8 (1 + k) 0 (k))) h8 (by first | rfl | (simp only [outs_len, List.length_take]; omega)) (@rfl V (V.sl [[(iV ((nth ((nth (m.ot) (goal m s (w.take k)).toNat)) ((nth (w) (k))).toNat)))]])) rfl rfl (by omega) (by omega) ?_
   refine R_mv (@rfl V (V.ms 8 (1 + k + 1) 0 (k + 1))) ?_
   exact R_nil ⟨t1, t2, t3, rfl, t9, h3, rfl, trivial⟩
  intro T H ⟨t1, t2, t3, t8, t9, h3, h8, _⟩
  refine W_regc (fun T H => T 1 = (iV ((nth ((nth (m.nx) (goal m s (w.take k)).toNat)) ((nth (w) (k))).toNat))) ∧ T 2 = (V.sl (List.map cI (w))) ∧ T 3 = (V.mp 3 1 0 0) ∧ T 8 = (V.ms 8 (1 + k + 1) 0 (k + 1)) ∧ T 9 = (iV ((k : Nat) : Int)) ∧ H 3 = (⟨1, true, false, 24, 4, [[(iV (m.i)), (iV (m.s)), (V.sl (List.map cL (m.nx))), (V.sl (List.map cL (m.ot)))]]⟩ : Blk) ∧ H 8 = (⟨1 + k + 1, true, true, 3, 1, (List.map cI (outs m s (w.take k) ++ [((nth ((nth (m.ot) (goal m s (w.take k)).toNat)) ((nth (w) (k))).toNat))]))⟩ : Blk) ∧ True) ?_ ?_
  ·
   unfold r59_6
   refine R_fld_mp (o' := 2) t3 h3 (by first | rfl | simp [okB, Blk.own]) rfl ?_
   refine R_load_mp (v := (V.sl (List.map cL (m.nx)))) (@rfl V (V.mp 3 1 0 2)) h3 (by first | rfl | simp [ldB, ldV, Blk.own, V.one]) ?_
   refine R_mv t1 ?_
   refine R_idxI (i := (goal m s (w.take k))) (@rfl V (V.sl (List.map cL (m.nx)))) (@rfl V (iV (goal m s (w.take k)))) (by omega) (by omega) rfl ?_
   refine R_load_pp (v := (V.sl (List.map cI ((nth (m.nx) (goal m s (w.take k)).toNat))))) (@rfl V (V.pp [(V.sl (List.map cI ((nth (m.nx) (goal m s (w.take k)).toNat))))])) (by first | rfl | simp [ldV]) ?_
   refine R_mv t2 ?_
   refine R_mv t9 ?_
   refine R_idx (i := k) (@rfl V (V.sl (List.map cI (w)))) (@rfl V (iV ((k : Nat) : Int))) (by omega) rfl ?_
   refine R_load_pp (v := (iV ((nth (w) (k))))) (@rfl V (V.pp [(iV ((nth (w) (k))))])) (by first | rfl | simp [ldV]) ?_
   refine R_idxI (i := ((nth (w) (k)))) (@rfl V (V.sl (List.map cI ((nth (m.nx) (goal m s (w.take k)).toNat))))) (@rfl V (iV ((nth (w) (k))))) (by omega) (by omega) rfl ?_
   refine R_load_pp (v := (iV ((nth ((nth (m.nx) (goal m s (w.take k)).toNat)) ((nth (w) (k))).toNat)))) (@rfl V (V.pp [(iV ((nth ((nth (m.nx) (goal m s (w.take k)).toNat)) ((nth (w) (k))).toNat)))])) (by first | rfl | simp [ldV]) ?_
   refine R_mv (@rfl V (iV ((nth ((nth (m.nx) (goal m s (w.take k)).toNat)) ((nth (w) (k))).toNat)))) ?_
   exact R_nil ⟨rfl, t2, t3, t8, t9, h3, h8, trivial⟩
  intro T H ⟨t1, t2, t3, t8, t9, h3, h8, _⟩
  refine n4 _ _ ?_
  refine .done ?_
  refine W_regc (fun T H => T 1 = (iV ((nth ((nth (m.nx) (goal m s (w.take k)).toNat)) ((nth (w) (k))).toNat))) ∧ T 2 = (V.sl (List.map cI (w))) ∧ T 3 = (V.mp 3 1 0 0) ∧ T 8 = (V.ms 8 (1 + k + 1) 0 (k + 1)) ∧ T 9 = (iV ((k + 1 : Nat) : Int)) ∧ H 3 = (⟨1, true, false, 24, 4, [[(iV (m.i)), (iV (m.s)), (V.sl (List.map cL (m.nx))), (V.sl (List.map cL (m.ot)))]]⟩ : Blk) ∧ H 8 = (⟨1 + k + 1, true, true, 3, 1, (List.map cI (outs m s (w.take k) ++ [((nth ((nth (m.ot) (goal m s (w.take k)).toNat)) ((nth (w) (k))).toNat))]))⟩ : Blk) ∧ True) ?_ ?_
  ·
   unfold r59_4
   refine R_mv t9 ?_
   refine R_addN (m := k) (n := 1) (@rfl V (iV ((k : Nat) : Int))) (@rfl V (iV ((1 : Nat) : Int))) (by omega) ?_
   refine R_mv (@rfl V (iV ((k + 1 : Nat) : Int))) ?_
   exact R_nil ⟨t1, t2, t3, t8, rfl, h3, h8, trivial⟩
  intro T H ⟨t1, t2, t3, t8, t9, h3, h8, _⟩
  refine p12 _ _ _ ?_ ⟨(k + 1), rfl, (Eq.trans t1 (by first | rfl | (rw [goal_step m s (by omega)]; rfl))), t2, t3, (Eq.trans t8 (by first | rfl | (rw [goal_step m s (by omega)]; rfl))), (Eq.trans t9 (by first | rfl | (rw [goal_step m s (by omega)]; rfl))), h3, (Eq.trans h8 (by first | rfl | (rw [outs_step m s (by omega)]; rfl))), ?_⟩
  · omega
  · omega
 refine W_seq_exit ?_
 refine p32 _ _ _ ?_
 refine x1 _ _ ?_
 refine .done ?_
 refine W_seq_regc (fun T H => T 6 = (V.ms 8 (1 + k) 0 (k)) ∧ T 7 = (iV (goal m s (w.take k))) ∧ H 3 = (⟨1, true, false, 24, 4, [[(iV (m.i)), (iV (m.s)), (V.sl (List.map cL (m.nx))), (V.sl (List.map cL (m.ot)))]]⟩ : Blk) ∧ H 8 = (⟨1 + k, true, true, 3, 1, (List.map cI (outs m s (w.take k)))⟩ : Blk) ∧ True) ?_ ?_
 ·
  unfold r59_7
  refine R_mv t8 ?_
  refine R_mv t1 ?_
  refine R_mv (@rfl V (V.ms 8 (1 + k) 0 (k))) ?_
  refine R_mv (@rfl V (iV (goal m s (w.take k)))) ?_
  exact R_nil ⟨rfl, rfl, h3, h8, trivial⟩
 intro T H ⟨t6, t7, h3, h8, _⟩
 refine W_ret ?_
 refine Ret_2 t6 t7 (fz_ms h8 (by first | rfl | simp) (l := (outs m s (w.take k))) rfl (by first | rfl | (simp only [outs_len, List.length_take]; omega)) (fun _ => by simp) ?_) (fz_int ?_)
 · (have e : k = w.length := (by omega); subst e; rw [List.take_length])
 · (have e : k = w.length := (by omega); subst e; rw [List.take_length])
end Go.Proofs.Ytngkckefanbhgaa

namespace Go.Proofs.Ytngkckefanbhgaa
open Go Go.Proofs
theorem rtraces_pure (m : M) (ws : List (List Int)) : PureC Try.prog 92 [(V.agg [(iV (m.i)), (iV (m.s)), (V.sl (List.map cL (m.nx))), (V.sl (List.map cL (m.ot)))]), (V.sl (List.map cL (ws)))] (V.tup [(V.sl (List.map cT (trsL m ws))), (iV (trsE m ws))]) := by
 refine pure_of_Wb true 6 Try.func92 s92_ok (by kernel_rfl) (by simp [s92]) (by simp) (by simp) fun hB => ?_
 simp only [bnd_map, bnd_int, bnd_bool, bnd_str, bnd_agg, bnd_pp, bnd_nil, bnd_cons, implies_true, and_true, true_and] at hB
 unfold s92
 dsimp only
 refine W_seq_regc (fun T H => T 1 = (V.sl (List.map cL (ws))) ∧ T 2 = (V.mp 2 1 0 0) ∧ H 2 = (⟨1, true, false, 24, 4, [[(iV (m.i)), (iV (m.s)), (V.sl (List.map cL (m.nx))), (V.sl (List.map cL (m.ot)))]]⟩ : Blk) ∧ H 7 = (⟨0, false, false, 0, 0, []⟩ : Blk) ∧ True) ?_ ?_
 ·
  unfold r92_0
  refine R_box (i := 2) (n := 0) (m := 4) (cs := [(iV (m.i)), (iV (m.s)), (V.sl (List.map cL (m.nx))), (V.sl (List.map cL (m.ot)))]) rfl (congrArg Blk.ver rfl) (@rfl V (V.agg [(iV (m.i)), (iV (m.s)), (V.sl (List.map cL (m.nx))), (V.sl (List.map cL (m.ot)))])) rfl rfl ?_
  refine R_mv (@rfl V V.nilsl) ?_
  refine R_mv (@rfl V (iV (0 : Int))) ?_
  exact R_nil ⟨rfl, rfl, rfl, rfl, trivial⟩
 intro T H ⟨t1, t2, h2, h7, _⟩
 refine W_seq_seq ?_
 refine W_seq_regc (fun T H => T 1 = (V.sl (List.map cL (ws))) ∧ T 2 = (V.mp 2 1 0 0) ∧ T 6 = (iV (mval m)) ∧ H 2 = (⟨1, true, false, 24, 4, [[(iV (m.i)), (iV (m.s)), (V.sl (List.map cL (m.nx))), (V.sl (List.map cL (m.ot)))]]⟩ : Blk) ∧ H 7 = (⟨0, false, false, 0, 0, []⟩ : Blk) ∧ True) ?_ ?_
 ·
  unfold r92_1
  refine R_load_mp (v := (V.agg [(iV (m.i)), (iV (m.s)), (V.sl (List.map cL (m.nx))), (V.sl (List.map cL (m.ot)))])) t2 h2 (by first | rfl | simp [ldB, ldV, Blk.own, V.one]) ?_
  refine R_call (evcons (@rfl V (V.agg [(iV (m.i)), (iV (m.s)), (V.sl (List.map cL (m.nx))), (V.sl (List.map cL (m.ot)))])) evnil) (rvalid_pure m) (fzv_mapcanon _ _ (by simp [-List.map_take, -List.map_drop, -List.map_append, -List.map_reverse])) (by simp [-List.map_take, -List.map_drop, -List.map_append, -List.map_reverse]) (Or.inl (by simp [-List.map_take, -List.map_drop, -List.map_append, -List.map_reverse])) ?_
  refine R_mv (@rfl V (iV (mval m))) ?_
  exact R_nil ⟨t1, t2, rfl, h2, h7, trivial⟩
 intro T H ⟨t1, t2, t6, h2, h7, _⟩
 refine W_seq_seq ?_
 refine W_seq_regc (fun T H => T 1 = (V.sl (List.map cL (ws))) ∧ T 2 = (V.mp 2 1 0 0) ∧ T 6 = (iV (mval m)) ∧ T 15 = (V.bool (decide ((mval m) ≠ (0 : Int)))) ∧ H 2 = (⟨1, true, false, 24, 4, [[(iV (m.i)), (iV (m.s)), (V.sl (List.map cL (m.nx))), (V.sl (List.map cL (m.ot)))]]⟩ : Blk) ∧ H 7 = (⟨0, false, false, 0, 0, []⟩ : Blk) ∧ True) ?_ ?_
 ·
  unfold r92_2
  refine R_mv t6 ?_
  refine R_neq (x := (mval m)) (y := (0 : Int)) (@rfl V (iV (mval m))) (@rfl V (iV (0 : Int))) ?_
  exact R_nil ⟨t1, t2, t6, rfl, h2, h7, trivial⟩
 intro T H ⟨t1, t2, t6, t15, h2, h7, _⟩
 refine W_seq_if (p := (mval m) ≠ (0 : Int)) t15 (fun c1 => ?_) (fun c1 => ?_)
 ·
  refine W_seq_seq ?_
  refine W_seq_regc (fun T H => T 4 = V.nilsl ∧ T 5 = (iV (mval m)) ∧ H 2 = (⟨1, true, false, 24, 4, [[(iV (m.i)), (iV (m.s)), (V.sl (List.map cL (m.nx))), (V.sl (List.map cL (m.ot)))]]⟩ : Blk) ∧ H 7 = (⟨0, false, false, 0, 0, []⟩ : Blk) ∧ True) ?_ ?_
  ·
   unfold r92_3
   refine R_mv t6 ?_
   refine R_mv (@rfl V V.nilsl) ?_
   refine R_mv (@rfl V (iV (mval m))) ?_
   exact R_nil ⟨rfl, rfl, h2, h7, trivial⟩
  intro T H ⟨t4, t5, h2, h7, _⟩
  refine W_seq_ret ?_
  refine Ret_2 t4 t5 (fz_nil ?_) (fz_int ?_)
  · have e : trsE m ws = mval m := by unfold trsE; rw [if_pos (by omega)]
    rw [trsL, if_pos (by omega)]
  · have e : trsE m ws = mval m := by unfold trsE; rw [if_pos (by omega)]
    exact e.symm
 have hs := (mval_ok (m := m) (by omega)).2.2.2.2.1
 have hs2 := (mval_ok (m := m) (by omega)).2.2.2.2.2.1
 refine W_seq_skip ?_
 refine W_seq_seq ?_
 refine W_seq_regc (fun T H => T 1 = (V.sl (List.map cL (ws))) ∧ T 2 = (V.mp 2 1 0 0) ∧ T 19 = (V.bool (decide ((10000 : Int) < ((ws.length : Nat) : Int)))) ∧ H 2 = (⟨1, true, false, 24, 4, [[(iV (m.i)), (iV (m.s)), (V.sl (List.map cL (m.nx))), (V.sl (List.map cL (m.ot)))]]⟩ : Blk) ∧ H 7 = (⟨0, false, false, 0, 0, []⟩ : Blk) ∧ True) ?_ ?_
 ·
  unfold r92_4
  refine R_mv t1 ?_
  refine R_len (@rfl V (V.sl (List.map cL (ws)))) ?_
  refine R_gtr (x := ((ws.length : Nat) : Int)) (y := (10000 : Int)) (@rfl V (iV ((ws.length : Nat) : Int))) (@rfl V (iV (10000 : Int))) ?_
  exact R_nil ⟨t1, t2, rfl, h2, h7, trivial⟩
 intro T H ⟨t1, t2, t19, h2, h7, _⟩
 refine W_seq_if (p := (10000 : Int) < ((ws.length : Nat) : Int)) t19 (fun c2 => ?_) (fun c2 => ?_)
 ·
  refine W_seq_seq ?_
  refine W_seq_regc (fun T H => T 4 = V.nilsl ∧ T 5 = (iV (11 : Int)) ∧ H 2 = (⟨1, true, false, 24, 4, [[(iV (m.i)), (iV (m.s)), (V.sl (List.map cL (m.nx))), (V.sl (List.map cL (m.ot)))]]⟩ : Blk) ∧ H 7 = (⟨0, false, false, 0, 0, []⟩ : Blk) ∧ True) ?_ ?_
  ·
   unfold r92_5
   refine R_mv (@rfl V V.nilsl) ?_
   refine R_mv (@rfl V (iV (11 : Int))) ?_
   exact R_nil ⟨rfl, rfl, h2, h7, trivial⟩
  intro T H ⟨t4, t5, h2, h7, _⟩
  refine W_seq_ret ?_
  refine Ret_2 t4 t5 (fz_nil ?_) (fz_int ?_)
  · have e : trsE m ws = 11 := by unfold trsE; rw [if_neg (by omega), if_pos (by omega)]
    rw [trsL, if_pos (by omega)]
  · have e : trsE m ws = 11 := by unfold trsE; rw [if_neg (by omega), if_pos (by omega)]
    exact e.symm
 refine W_seq_skip ?_
 refine W_seq_regc (fun T H => T 1 = (V.sl (List.map cL (ws))) ∧ T 2 = (V.mp 2 1 0 0) ∧ T 7 = (V.ms 7 1 0 (0)) ∧ H 2 = (⟨1, true, false, 24, 4, [[(iV (m.i)), (iV (m.s)), (V.sl (List.map cL (m.nx))), (V.sl (List.map cL (m.ot)))]]⟩ : Blk) ∧ H 7 = (⟨1, true, true, 63, 2, []⟩ : Blk) ∧ True) ?_ ?_
 ·
  unfold r92_6
  refine R_lazy (i := 7) (n := 0) rfl (congrArg Blk.ver h7) ?_
  exact R_nil ⟨t1, t2, rfl, h2, rfl, trivial⟩
 intro T H ⟨t1, t2, t7, h2, h7, _⟩
 refine W_seq_seq ?_
 refine W_seq_regc (fun T H => T 1 = (V.sl (List.map cL (ws))) ∧ T 2 = (V.mp 2 1 0 0) ∧ T 7 = (V.ms 7 1 0 (0)) ∧ T 8 = (iV (0 : Int)) ∧ H 2 = (⟨1, true, false, 24, 4, [[(iV (m.i)), (iV (m.s)), (V.sl (List.map cL (m.nx))), (V.sl (List.map cL (m.ot)))]]⟩ : Blk) ∧ H 7 = (⟨1, true, true, 63, 2, []⟩ : Blk) ∧ True) ?_ ?_
 ·
  unfold r92_7
  refine R_mv (@rfl V (iV (0 : Int))) ?_
  exact R_nil ⟨t1, t2, t7, rfl, h2, h7, trivial⟩
 intro T H ⟨t1, t2, t7, t8, h2, h7, _⟩
 refine W_seq_blockg fun Q3 n3 x3 y3 z3 => ?_
 refine W_loop (fun mm T H => ∃ (k : Nat), mm = ws.length - k ∧ T 1 = (V.sl (List.map cL (ws))) ∧ T 2 = (V.mp 2 1 0 0) ∧ T 7 = (V.ms 7 (1 + k) 0 (k)) ∧ T 8 = (iV ((k : Nat) : Int)) ∧ H 2 = (⟨1, true, false, 24, 4, [[(iV (m.i)), (iV (m.s)), (V.sl (List.map cL (m.nx))), (V.sl (List.map cL (m.ot)))]]⟩ : Blk) ∧ H 7 = (⟨1 + k, true, true, 63, 2, (List.map cT ((ws.take k).map (trW m)))⟩ : Blk) ∧ (k ≤ ws.length) ∧ (ws.length ≤ 10000) ∧ (mval m = 0) ∧ (fe (wcE m ws) 0 ws.length = fe (wcE m ws) k (ws.length - k))) ?_ ?_
 ·
  refine ⟨_, 0, rfl, t1, t2, (Eq.trans t7 (by first | rfl | simp)), (Eq.trans t8 (by first | rfl | simp)), h2, (Eq.trans h7 (by first | rfl | (rw [take_succ_nth (by omega), List.map_append, List.map_append]; simp [trW, cat, Nat.add_assoc]; done))), ?_, ?_, ?_, ?_⟩
  · omega
  · omega
  · omega
  · rfl
 intro mm T H ⟨k, hmm, t1, t2, t7, t8, h2, h7, hk, hb, hm, hc⟩ Q4 p14 p24 p34
 unfold b92_0
 refine W_seq_seq ?_
 refine W_seq_regc (fun T H => T 1 = (V.sl (List.map cL (ws))) ∧ T 2 = (V.mp 2 1 0 0) ∧ T 7 = (V.ms 7 (1 + k) 0 (k)) ∧ T 8 = (iV ((k : Nat) : Int)) ∧ T 23 = (V.bool (decide (((k : Nat) : Int) < ((ws.length : Nat) : Int)))) ∧ H 2 = (⟨1, true, false, 24, 4, [[(iV (m.i)), (iV (m.s)), (V.sl (List.map cL (m.nx))), (V.sl (List.map cL (m.ot)))]]⟩ : Blk) ∧ H 7 = (⟨1 + k, true, true, 63, 2, (List.map cT ((ws.take k).map (trW m)))⟩ : Blk) ∧ True) ?_ ?_
 ·
  unfold r92_8
  refine R_mv t8 ?_
  refine R_mv t1 ?_
  refine R_len (@rfl V (V.sl (List.map cL (ws)))) ?_
  refine R_lss (x := ((k : Nat) : Int)) (y := ((ws.length : Nat) : Int)) (@rfl V (iV ((k : Nat) : Int))) (@rfl V (iV ((ws.length : Nat) : Int))) ?_
  exact R_nil ⟨t1, t2, t7, t8, rfl, h2, h7, trivial⟩
 intro T H ⟨t1, t2, t7, t8, t23, h2, h7, _⟩
 refine W_seq_if (p := ((k : Nat) : Int) < ((ws.length : Nat) : Int)) t23 (fun c5 => ?_) (fun c5 => ?_)
 ·
  refine W_seq_skip ?_
  refine W_seq_blockg fun Q6 n6 x6 y6 z6 => ?_
  refine W_seq_seq ?_
  refine W_seq_regc (fun T H => T 1 = (V.sl (List.map cL (ws))) ∧ T 2 = (V.mp 2 1 0 0) ∧ T 7 = (V.ms 7 (1 + k) 0 (k)) ∧ T 8 = (iV ((k : Nat) : Int)) ∧ T 9 = (iV (wchk ((nth (ws) (k))) ((m.i)))) ∧ H 2 = (⟨1, true, false, 24, 4, [[(iV (m.i)), (iV (m.s)), (V.sl (List.map cL (m.nx))), (V.sl (List.map cL (m.ot)))]]⟩ : Blk) ∧ H 7 = (⟨1 + k, true, true, 63, 2, (List.map cT ((ws.take k).map (trW m)))⟩ : Blk) ∧ True) ?_ ?_
  ·
   unfold r92_10
   refine R_mv t1 ?_
   refine R_mv t8 ?_
   refine R_idx (i := k) (@rfl V (V.sl (List.map cL (ws)))) (@rfl V (iV ((k : Nat) : Int))) (by omega) rfl ?_
   refine R_load_pp (v := (V.sl (List.map cI ((nth (ws) (k)))))) (@rfl V (V.pp [(V.sl (List.map cI ((nth (ws) (k)))))])) (by first | rfl | simp [ldV]) ?_
   refine R_fld_mp (o' := 0) t2 h2 (by first | rfl | simp [okB, Blk.own]) rfl ?_
   refine R_load_mp (v := (iV (m.i))) (@rfl V (V.mp 2 1 0 0)) h2 (by first | rfl | simp [ldB, ldV, Blk.own, V.one]) ?_
   refine R_call (evcons (@rfl V (V.sl (List.map cI ((nth (ws) (k)))))) (evcons (@rfl V (iV (m.i))) evnil)) (rcheck_pure ((nth (ws) (k))) ((m.i))) (fzv_mapcanon _ _ (by simp [-List.map_take, -List.map_drop, -List.map_append, -List.map_reverse])) (by simp [-List.map_take, -List.map_drop, -List.map_append, -List.map_reverse]) (Or.inl (by simp [-List.map_take, -List.map_drop, -List.map_append, -List.map_reverse])) ?_
   refine R_mv (@rfl V (iV (wchk ((nth (ws) (k))) ((m.i))))) ?_
   exact R_nil ⟨t1, t2, t7, t8, rfl, h2, h7, trivial⟩
  intro T H ⟨t1, t2, t7, t8, t9, h2, h7, _⟩
  refine W_seq_seq ?_
  refine W_seq_regc (fun T H => T 1 = (V.sl (List.map cL (ws))) ∧ T 2 = (V.mp 2 1 0 0) ∧ T 7 = (V.ms 7 (1 + k) 0 (k)) ∧ T 8 = (iV ((k : Nat) : Int)) ∧ T 9 = (iV (wchk ((nth (ws) (k))) ((m.i)))) ∧ T 34 = (V.bool (decide ((wchk ((nth (ws) (k))) ((m.i))) ≠ (0 : Int)))) ∧ H 2 = (⟨1, true, false, 24, 4, [[(iV (m.i)), (iV (m.s)), (V.sl (List.map cL (m.nx))), (V.sl (List.map cL (m.ot)))]]⟩ : Blk) ∧ H 7 = (⟨1 + k, true, true, 63, 2, (List.map cT ((ws.take k).map (trW m)))⟩ : Blk) ∧ True) ?_ ?_
  ·
   unfold r92_11
   refine R_mv t9 ?_
   refine R_neq (x := (wchk ((nth (ws) (k))) ((m.i)))) (y := (0 : Int)) (@rfl V (iV (wchk ((nth (ws) (k))) ((m.i))))) (@rfl V (iV (0 : Int))) ?_
   exact R_nil ⟨t1, t2, t7, t8, t9, rfl, h2, h7, trivial⟩
  intro T H ⟨t1, t2, t7, t8, t9, t34, h2, h7, _⟩
  refine W_seq_if (p := (wchk ((nth (ws) (k))) ((m.i))) ≠ (0 : Int)) t34 (fun c7 => ?_) (fun c7 => ?_)
  ·
   have d1 := c7
   refine W_seq_seq ?_
   refine W_seq_regc (fun T H => T 4 = V.nilsl ∧ T 5 = (iV (wchk ((nth (ws) (k))) ((m.i)))) ∧ H 2 = (⟨1, true, false, 24, 4, [[(iV (m.i)), (iV (m.s)), (V.sl (List.map cL (m.nx))), (V.sl (List.map cL (m.ot)))]]⟩ : Blk) ∧ H 7 = (⟨1 + k, true, true, 63, 2, (List.map cT ((ws.take k).map (trW m)))⟩ : Blk) ∧ True) ?_ ?_
   ·
    unfold r92_12
    refine R_mv t9 ?_
    refine R_mv (@rfl V V.nilsl) ?_
    refine R_mv (@rfl V (iV (wchk ((nth (ws) (k))) ((m.i))))) ?_
    exact R_nil ⟨rfl, rfl, h2, h7, trivial⟩
   intro T H ⟨t4, t5, h2, h7, _⟩
   refine W_seq_ret ?_
   refine y6 _ _ ?_
   refine p24 _ _ ?_
   refine y3 _ _ ?_
   refine Ret_2 t4 t5 (fz_nil ?_) (fz_int ?_)
   · have e : trsE m ws = wchk (nth ws k) m.i := by unfold trsE; rw [if_neg (by omega), if_neg (by omega), hc]; exact fe_hit (e := wcE m ws) d1 (by omega)
     rw [trsL, if_pos (by rw [e]; exact d1)]
   · have e : trsE m ws = wchk (nth ws k) m.i := by unfold trsE; rw [if_neg (by omega), if_neg (by omega), hc]; exact fe_hit (e := wcE m ws) d1 (by omega)
     exact e.symm
  have d1 := c7
  have hw := wchk_ok (w := nth ws k) (n := m.i) (by omega)
  refine W_seq_skip ?_
  refine W_seq_regc (fun T H => T 1 = (V.sl (List.map cL (ws))) ∧ T 2 = (V.mp 2 1 0 0) ∧ T 7 = (V.ms 7 (1 + k) 0 (k)) ∧ T 8 = (iV ((k : Nat) : Int)) ∧ T 10 = (V.sl (List.map cI (outs m ((m.s)) ((nth (ws) (k)))))) ∧ H 2 = (⟨1, true, false, 24, 4, [[(iV (m.i)), (iV (m.s)), (V.sl (List.map cL (m.nx))), (V.sl (List.map cL (m.ot)))]]⟩ : Blk) ∧ H 7 = (⟨1 + k, true, true, 63, 2, (List.map cT ((ws.take k).map (trW m)))⟩ : Blk) ∧ True) ?_ ?_
  ·
   unfold r92_13
   refine R_load_mp (v := (V.agg [(iV (m.i)), (iV (m.s)), (V.sl (List.map cL (m.nx))), (V.sl (List.map cL (m.ot)))])) t2 h2 (by first | rfl | simp [ldB, ldV, Blk.own, V.one]) ?_
   refine R_fld_mp (o' := 1) t2 h2 (by first | rfl | simp [okB, Blk.own]) rfl ?_
   refine R_load_mp (v := (iV (m.s))) (@rfl V (V.mp 2 1 0 1)) h2 (by first | rfl | simp [ldB, ldV, Blk.own, V.one]) ?_
   refine R_mv t1 ?_
   refine R_mv t8 ?_
   refine R_idx (i := k) (@rfl V (V.sl (List.map cL (ws)))) (@rfl V (iV ((k : Nat) : Int))) (by omega) rfl ?_
   refine R_load_pp (v := (V.sl (List.map cI ((nth (ws) (k)))))) (@rfl V (V.pp [(V.sl (List.map cI ((nth (ws) (k)))))])) (by first | rfl | simp [ldV]) ?_
   refine R_call (evcons (@rfl V (V.agg [(iV (m.i)), (iV (m.s)), (V.sl (List.map cL (m.nx))), (V.sl (List.map cL (m.ot)))])) (evcons (@rfl V (iV (m.s))) (evcons (@rfl V (V.sl (List.map cI ((nth (ws) (k)))))) evnil))) (outs_pure m ((m.s)) ((nth (ws) (k))) hm ⟨hs, hs2⟩ hw.1 hw.2) (fzv_mapcanon _ _ (by simp [-List.map_take, -List.map_drop, -List.map_append, -List.map_reverse])) (by simp [-List.map_take, -List.map_drop, -List.map_append, -List.map_reverse]) (Or.inl (by simp [-List.map_take, -List.map_drop, -List.map_append, -List.map_reverse])) ?_
   refine R_mv (@rfl V (V.tup [(V.sl (List.map cI (outs m ((m.s)) ((nth (ws) (k)))))), (iV (goal m ((m.s)) ((nth (ws) (k)))))])) ?_
   refine R_ext (v := (V.sl (List.map cI (outs m ((m.s)) ((nth (ws) (k))))))) (@rfl V (V.tup [(V.sl (List.map cI (outs m ((m.s)) ((nth (ws) (k)))))), (iV (goal m ((m.s)) ((nth (ws) (k)))))])) rfl ?_
   refine R_ext (v := (iV (goal m ((m.s)) ((nth (ws) (k)))))) (@rfl V (V.tup [(V.sl (List.map cI (outs m ((m.s)) ((nth (ws) (k)))))), (iV (goal m ((m.s)) ((nth (ws) (k)))))])) rfl ?_
   refine R_mv (@rfl V (V.sl (List.map cI (outs m ((m.s)) ((nth (ws) (k))))))) ?_
   refine R_mv (@rfl V (iV (goal m ((m.s)) ((nth (ws) (k)))))) ?_
   exact R_nil ⟨t1, t2, t7, t8, rfl, h2, h7, trivial⟩
  intro T H ⟨t1, t2, t7, t8, t10, h2, h7, _⟩
  refine W_regc (fun T H => T 1 = (V.sl (List.map cL (ws))) ∧ T 2 = (V.mp 2 1 0 0) ∧ T 7 = (V.ms 7 (1 + k + 1) 0 (k + 1)) ∧ T 8 = (iV ((k : Nat) : Int)) ∧ H 2 = (⟨1, true, false, 24, 4, [[(iV (m.i)), (iV (m.s)), (V.sl (List.map cL (m.nx))), (V.sl (List.map cL (m.ot)))]]⟩ : Blk) ∧ H 7 = (⟨1 + k + 1, true, true, 63, 2, (List.map cT ((ws.take k).map (trW m) ++ [(⟨cat ([(nth (ws) (k))]), outs m ((m.s)) ((nth (ws) (k)))⟩ : Tr)]))⟩ : Blk) ∧ True) ?_ ?_
  ·
   unfold r92_14
   refine R_mv t7 ?_
   refine R_mv t1 ?_
   refine R_mv t8 ?_
   refine R_idx (i := k) (@rfl V (V.sl (List.map cL (ws)))) (@rfl V (iV ((k : Nat) : Int))) (by omega) rfl ?_
   refine R_load_pp (v := (V.sl (List.map cI ((nth (ws) (k)))))) (@rfl V (V.pp [(V.sl (List.map cI ((nth (ws) (k)))))])) (by first | rfl | simp [ldV]) ?_
   refine R_bslice (qs := [(0, (V.sl (List.map cI ((nth (ws) (k))))))]) (rows := [[(V.sl (List.map cI ((nth (ws) (k)))))]]) (mcons (congrArg (fun v => (0, v)) (@rfl V (V.sl (List.map cI ((nth (ws) (k))))))) rfl) rfl ?_
   refine R_call (evcons (@rfl V (V.sl [[(V.sl (List.map cI ((nth (ws) (k)))))]])) evnil) (join_pure ([(nth (ws) (k))]) (by simp [cat]; omega)) (fzv_mapcanon _ _ (by simp [-List.map_take, -List.map_drop, -List.map_append, -List.map_reverse])) (by simp [-List.map_take, -List.map_drop, -List.map_append, -List.map_reverse]) (Or.inl (by simp [-List.map_take, -List.map_drop, -List.map_append, -List.map_reverse])) ?_
   refine R_mv t10 ?_
   refine R_build (qs := [(0, 1, (V.sl (List.map cI (cat ([(nth (ws) (k))]))))), (1, 1, (V.sl (List.map cI (outs m ((m.s)) ((nth (ws) (k)))))))]) (cs := [(V.sl (List.map cI (cat ([(nth (ws) (k))])))), (V.sl (List.map cI (outs m ((m.s)) ((nth (ws) (k))))))]) (mcons (congrArg (fun v => (0, 1, v)) (@rfl V (V.sl (List.map cI (cat ([(nth (ws) (k))])))))) (mcons (congrArg (fun v => (1, 1, v)) (@rfl V (V.sl (List.map cI (outs m ((m.s)) ((nth (ws) (k)))))))) rfl)) rfl ?_
   refine R_bslice (qs := [(0, (V.agg [(V.sl (List.map cI (cat ([(nth (ws) (k))])))), (V.sl (List.map cI (outs m ((m.s)) ((nth (ws) (k))))))]))]) (rows := [[(V.sl (List.map cI (cat ([(nth (ws) (k))])))), (V.sl (List.map cI (outs m ((m.s)) ((nth (ws) (k))))))]]) (mcons (congrArg (fun v => (0, v)) (@rfl V (V.agg [(V.sl (List.map cI (cat ([(nth (ws) (k))])))), (V.sl (List.map cI (outs m ((m.s)) ((nth (ws) (k))))))]))) rfl) rfl ?_
   refine R_append1 (l := ((ws.take k).map (trW m))) (f := cT) (x := ((⟨cat ([(nth (ws) (k))]), outs m ((m.s)) ((nth (ws) (k)))⟩ : Tr))) (@rfl V (V.ms 7 (1 + k) 0 (k))) h7 (by first | rfl | (simp only [List.length_map, List.length_take]; omega) | simp) (@rfl V (V.sl [[(V.sl (List.map cI (cat ([(nth (ws) (k))])))), (V.sl (List.map cI (outs m ((m.s)) ((nth (ws) (k))))))]])) rfl rfl (by omega) (by omega) ?_
   refine R_mv (@rfl V (V.ms 7 (1 + k + 1) 0 (k + 1))) ?_
   exact R_nil ⟨t1, t2, rfl, t8, h2, rfl, trivial⟩
  intro T H ⟨t1, t2, t7, t8, h2, h7, _⟩
  refine n6 _ _ ?_
  refine .done ?_
  refine W_regc (fun T H => T 1 = (V.sl (List.map cL (ws))) ∧ T 2 = (V.mp 2 1 0 0) ∧ T 7 = (V.ms 7 (1 + k + 1) 0 (k + 1)) ∧ T 8 = (iV ((k + 1 : Nat) : Int)) ∧ H 2 = (⟨1, true, false, 24, 4, [[(iV (m.i)), (iV (m.s)), (V.sl (List.map cL (m.nx))), (V.sl (List.map cL (m.ot)))]]⟩ : Blk) ∧ H 7 = (⟨1 + k + 1, true, true, 63, 2, (List.map cT ((ws.take k).map (trW m) ++ [(⟨cat ([(nth (ws) (k))]), outs m ((m.s)) ((nth (ws) (k)))⟩ : Tr)]))⟩ : Blk) ∧ True) ?_ ?_
  ·
   unfold r92_9
   refine R_mv t8 ?_
   refine R_addN (m := k) (n := 1) (@rfl V (iV ((k : Nat) : Int))) (@rfl V (iV ((1 : Nat) : Int))) (by omega) ?_
   refine R_mv (@rfl V (iV ((k + 1 : Nat) : Int))) ?_
   exact R_nil ⟨t1, t2, t7, rfl, h2, h7, trivial⟩
  intro T H ⟨t1, t2, t7, t8, h2, h7, _⟩
  refine p14 _ _ _ ?_ ⟨(k + 1), rfl, t1, t2, (Eq.trans t7 (by first | rfl | simp)), (Eq.trans t8 (by first | rfl | simp)), h2, (Eq.trans h7 (by first | rfl | (rw [take_succ_nth (by omega), List.map_append, List.map_append]; simp [trW, cat, Nat.add_assoc]; done))), ?_, ?_, ?_, ?_⟩
  · omega
  · omega
  · omega
  · omega
  · rw [hc, fe_skip (show wcE m ws k = 0 from Decidable.not_not.1 d1) (by omega)]
 refine W_seq_exit ?_
 refine p34 _ _ _ ?_
 refine x3 _ _ ?_
 refine .done ?_
 refine W_seq_regc (fun T H => T 4 = (V.ms 7 (1 + k) 0 (k)) ∧ T 5 = (iV (0 : Int)) ∧ H 2 = (⟨1, true, false, 24, 4, [[(iV (m.i)), (iV (m.s)), (V.sl (List.map cL (m.nx))), (V.sl (List.map cL (m.ot)))]]⟩ : Blk) ∧ H 7 = (⟨1 + k, true, true, 63, 2, (List.map cT ((ws.take k).map (trW m)))⟩ : Blk) ∧ True) ?_ ?_
 ·
  unfold r92_15
  refine R_mv t7 ?_
  refine R_mv (@rfl V (V.ms 7 (1 + k) 0 (k))) ?_
  refine R_mv (@rfl V (iV (0 : Int))) ?_
  exact R_nil ⟨rfl, rfl, h2, h7, trivial⟩
 intro T H ⟨t4, t5, h2, h7, _⟩
 refine W_ret ?_
 refine Ret_2 t4 t5 (fz_ms h7 (by first | rfl | simp) (l := ((ws.take k).map (trW m))) rfl (by first | rfl | (simp only [List.length_map, List.length_take]; omega) | simp) (fun _ => by simp) ?_) (fz_int ?_)
 · have e : trsE m ws = 0 := by unfold trsE; rw [if_neg (by omega), if_neg (by omega), hc, fe_end (by omega)]
   rw [trsL, if_neg (by omega), show k = ws.length by omega, List.take_length]
 · have e : trsE m ws = 0 := by unfold trsE; rw [if_neg (by omega), if_neg (by omega), hc, fe_end (by omega)]
   exact e.symm
end Go.Proofs.Ytngkckefanbhgaa

namespace Go.Proofs.Ytngkckefanbhgaa
open Go Go.Proofs
theorem rof_pure (m : M) (ws : List (List Int)) : PureC Try.prog 54 [(V.agg [(iV (m.i)), (iV (m.s)), (V.sl (List.map cL (m.nx))), (V.sl (List.map cL (m.ot)))]), (V.sl (List.map cL (ws)))] (V.tup [(V.agg [(iV ((ofO m ws).i)), (V.sl (List.map cT ((ofO m ws).tr)))]), (iV (ofE m ws))]) := by
 refine pure_of_Wb true 6 Try.func54 s54_ok (by kernel_rfl) (by simp [s54]) (by simp) (by simp) fun hB => ?_
 simp only [bnd_map, bnd_int, bnd_bool, bnd_str, bnd_agg, bnd_pp, bnd_nil, bnd_cons, implies_true, and_true, true_and] at hB
 unfold s54
 dsimp only
 refine W_seq_regc (fun T H => T 1 = (V.sl (List.map cL (ws))) ∧ T 2 = (V.mp 2 1 0 0) ∧ T 4 = (V.mp 4 1 0 0) ∧ H 2 = (⟨1, true, false, 24, 4, [[(iV (m.i)), (iV (m.s)), (V.sl (List.map cL (m.nx))), (V.sl (List.map cL (m.ot)))]]⟩ : Blk) ∧ H 4 = (⟨1, true, false, 34, 2, [[(iV (0 : Int)), V.nilsl]]⟩ : Blk) ∧ H 8 = (⟨0, false, false, 0, 0, []⟩ : Blk) ∧ True) ?_ ?_
 ·
  unfold r54_0
  refine R_box (i := 2) (n := 0) (m := 4) (cs := [(iV (m.i)), (iV (m.s)), (V.sl (List.map cL (m.nx))), (V.sl (List.map cL (m.ot)))]) rfl (congrArg Blk.ver rfl) (@rfl V (V.agg [(iV (m.i)), (iV (m.s)), (V.sl (List.map cL (m.nx))), (V.sl (List.map cL (m.ot)))])) rfl rfl ?_
  refine R_alloc (i := 4) (n := 0) (m := 2) rfl (congrArg Blk.ver rfl) rfl ?_
  refine R_mv (@rfl V (iV (0 : Int))) ?_
  exact R_nil ⟨rfl, rfl, rfl, rfl, rfl, rfl, trivial⟩
 intro T H ⟨t1, t2, t4, h2, h4, h8, _⟩
 refine W_seq_regc (fun T H => T 2 = (V.mp 2 1 0 0) ∧ T 4 = (V.mp 4 1 0 0) ∧ T 6 = (V.sl (List.map cT (trsL m ws))) ∧ T 7 = (iV (trsE m ws)) ∧ H 2 = (⟨1, true, false, 24, 4, [[(iV (m.i)), (iV (m.s)), (V.sl (List.map cL (m.nx))), (V.sl (List.map cL (m.ot)))]]⟩ : Blk) ∧ H 4 = (⟨1, true, false, 34, 2, [[(iV (0 : Int)), V.nilsl]]⟩ : Blk) ∧ H 8 = (⟨0, false, false, 0, 0, []⟩ : Blk) ∧ True) ?_ ?_
 ·
  unfold r54_1
  refine R_load_mp (v := (V.agg [(iV (m.i)), (iV (m.s)), (V.sl (List.map cL (m.nx))), (V.sl (List.map cL (m.ot)))])) t2 h2 (by first | rfl | simp [ldB, ldV, Blk.own, V.one]) ?_
  refine R_mv t1 ?_
  refine R_call (evcons (@rfl V (V.agg [(iV (m.i)), (iV (m.s)), (V.sl (List.map cL (m.nx))), (V.sl (List.map cL (m.ot)))])) (evcons (@rfl V (V.sl (List.map cL (ws)))) evnil)) (rtraces_pure m ws) (fzv_mapcanon _ _ (by simp [-List.map_take, -List.map_drop, -List.map_append, -List.map_reverse])) (by simp [-List.map_take, -List.map_drop, -List.map_append, -List.map_reverse]) (Or.inl (by simp [-List.map_take, -List.map_drop, -List.map_append, -List.map_reverse])) ?_
  refine R_mv (@rfl V (V.tup [(V.sl (List.map cT (trsL m ws))), (iV (trsE m ws))])) ?_
  refine R_ext (v := (V.sl (List.map cT (trsL m ws)))) (@rfl V (V.tup [(V.sl (List.map cT (trsL m ws))), (iV (trsE m ws))])) rfl ?_
  refine R_ext (v := (iV (trsE m ws))) (@rfl V (V.tup [(V.sl (List.map cT (trsL m ws))), (iV (trsE m ws))])) rfl ?_
  refine R_mv (@rfl V (V.sl (List.map cT (trsL m ws)))) ?_
  refine R_mv (@rfl V (iV (trsE m ws))) ?_
  exact R_nil ⟨t2, t4, rfl, rfl, h2, h4, h8, trivial⟩
 intro T H ⟨t2, t4, t6, t7, h2, h4, h8, _⟩
 refine W_seq_seq ?_
 refine W_seq_regc (fun T H => T 2 = (V.mp 2 1 0 0) ∧ T 4 = (V.mp 4 1 0 0) ∧ T 6 = (V.sl (List.map cT (trsL m ws))) ∧ T 7 = (iV (trsE m ws)) ∧ T 16 = (V.bool (decide ((trsE m ws) ≠ (0 : Int)))) ∧ H 2 = (⟨1, true, false, 24, 4, [[(iV (m.i)), (iV (m.s)), (V.sl (List.map cL (m.nx))), (V.sl (List.map cL (m.ot)))]]⟩ : Blk) ∧ H 4 = (⟨1, true, false, 34, 2, [[(iV (0 : Int)), V.nilsl]]⟩ : Blk) ∧ H 8 = (⟨0, false, false, 0, 0, []⟩ : Blk) ∧ True) ?_ ?_
 ·
  unfold r54_2
  refine R_mv t7 ?_
  refine R_neq (x := (trsE m ws)) (y := (0 : Int)) (@rfl V (iV (trsE m ws))) (@rfl V (iV (0 : Int))) ?_
  exact R_nil ⟨t2, t4, t6, t7, rfl, h2, h4, h8, trivial⟩
 intro T H ⟨t2, t4, t6, t7, t16, h2, h4, h8, _⟩
 refine W_seq_if (p := (trsE m ws) ≠ (0 : Int)) t16 (fun c1 => ?_) (fun c1 => ?_)
 ·
  have d1 := c1
  refine W_seq_seq ?_
  refine W_seq_regc (fun T H => T 4 = (V.mp 4 1 0 0) ∧ T 5 = (iV (trsE m ws)) ∧ H 2 = (⟨1, true, false, 24, 4, [[(iV (m.i)), (iV (m.s)), (V.sl (List.map cL (m.nx))), (V.sl (List.map cL (m.ot)))]]⟩ : Blk) ∧ H 4 = (⟨1, true, false, 34, 2, [[(iV (0 : Int)), V.nilsl]]⟩ : Blk) ∧ H 8 = (⟨0, false, false, 0, 0, []⟩ : Blk) ∧ True) ?_ ?_
  ·
   unfold r54_3
   refine R_build (qs := []) (cs := [(iV (0 : Int)), V.nilsl]) rfl rfl ?_
   refine R_mv t7 ?_
   refine R_store (vs := [(iV (0 : Int)), V.nilsl]) (B' := (⟨1, true, false, 34, 2, [[(iV (0 : Int)), V.nilsl]]⟩ : Blk)) t4 (@rfl V (V.agg [(iV (0 : Int)), V.nilsl])) rfl h4 (by first | rfl | simp [stB, okB, Blk.own, putAt, V.one]) ?_
   refine R_mv (@rfl V (iV (trsE m ws))) ?_
   exact R_nil ⟨t4, rfl, h2, rfl, h8, trivial⟩
  intro T H ⟨t4, t5, h2, h4, h8, _⟩
  refine W_seq_ret ?_
  refine RetC_2 (resV_c (u := (V.agg [(iV (0 : Int)), V.nilsl])) t4 h4 (by first | rfl | simp [ldB, ldV, Blk.own, V.one])) (resV_t t5) (fz_agg2 (fz_int ?_) (fz_nil ?_)) (fz_int ?_)
  · rw [ofO, if_pos (by unfold ofE; rw [if_pos d1]; exact d1)]
  · rw [ofO, if_pos (by unfold ofE; rw [if_pos d1]; exact d1)]
  · rw [ofE, if_pos d1]
 have d1 := c1
 have hk := trs_ok d1
 refine W_seq_skip ?_
 refine W_seq_regc (fun T H => T 4 = (V.mp 4 1 0 0) ∧ T 7 = (iV ((alR (⟨((m.i)), ([])⟩ : Ob).i (⟨((m.i)), ([])⟩ : Ob).tr (trsL m ws)).2)) ∧ T 8 = (V.mp 8 1 0 0) ∧ H 2 = (⟨1, true, false, 24, 4, [[(iV (m.i)), (iV (m.s)), (V.sl (List.map cL (m.nx))), (V.sl (List.map cL (m.ot)))]]⟩ : Blk) ∧ H 4 = (⟨1, true, false, 34, 2, [[(iV (0 : Int)), V.nilsl]]⟩ : Blk) ∧ H 8 = (⟨1, true, false, 34, 2, [[(iV ((alO (⟨((m.i)), ([])⟩ : Ob) (trsL m ws)).i)), (V.sl (List.map cT ((alO (⟨((m.i)), ([])⟩ : Ob) (trsL m ws)).tr)))]]⟩ : Blk) ∧ True) ?_ ?_
 ·
  unfold r54_4
  refine R_fld_mp (o' := 0) t2 h2 (by first | rfl | simp [okB, Blk.own]) rfl ?_
  refine R_load_mp (v := (iV (m.i))) (@rfl V (V.mp 2 1 0 0)) h2 (by first | rfl | simp [ldB, ldV, Blk.own, V.one]) ?_
  refine R_build (qs := [(0, 1, (iV (m.i)))]) (cs := [(iV (m.i)), V.nilsl]) (mcons (congrArg (fun v => (0, 1, v)) (@rfl V (iV (m.i)))) rfl) rfl ?_
  refine R_mv t6 ?_
  refine R_call (evcons (@rfl V (V.agg [(iV (m.i)), V.nilsl])) (evcons (@rfl V (V.sl (List.map cT (trsL m ws)))) evnil)) (rall_pure (⟨((m.i)), ([])⟩ : Ob) (trsL m ws) hk.2) (mcons (by simp [fzv, Blk.own, h2, h4, h8]) (mcons (fzv_canon 6 _ (by simp [-List.map_take, -List.map_drop, -List.map_append, -List.map_reverse])) rfl)) (by simp [-List.map_take, -List.map_drop, -List.map_append, -List.map_reverse]) (Or.inl (by simp [-List.map_take, -List.map_drop, -List.map_append, -List.map_reverse])) ?_
  refine R_mv (@rfl V (V.tup [(V.agg [(iV ((alO (⟨((m.i)), ([])⟩ : Ob) (trsL m ws)).i)), (V.sl (List.map cT ((alO (⟨((m.i)), ([])⟩ : Ob) (trsL m ws)).tr)))]), (iV ((alR (⟨((m.i)), ([])⟩ : Ob).i (⟨((m.i)), ([])⟩ : Ob).tr (trsL m ws)).2))])) ?_
  refine R_ext (v := (V.agg [(iV ((alO (⟨((m.i)), ([])⟩ : Ob) (trsL m ws)).i)), (V.sl (List.map cT ((alO (⟨((m.i)), ([])⟩ : Ob) (trsL m ws)).tr)))])) (@rfl V (V.tup [(V.agg [(iV ((alO (⟨((m.i)), ([])⟩ : Ob) (trsL m ws)).i)), (V.sl (List.map cT ((alO (⟨((m.i)), ([])⟩ : Ob) (trsL m ws)).tr)))]), (iV ((alR (⟨((m.i)), ([])⟩ : Ob).i (⟨((m.i)), ([])⟩ : Ob).tr (trsL m ws)).2))])) rfl ?_
  refine R_ext (v := (iV ((alR (⟨((m.i)), ([])⟩ : Ob).i (⟨((m.i)), ([])⟩ : Ob).tr (trsL m ws)).2))) (@rfl V (V.tup [(V.agg [(iV ((alO (⟨((m.i)), ([])⟩ : Ob) (trsL m ws)).i)), (V.sl (List.map cT ((alO (⟨((m.i)), ([])⟩ : Ob) (trsL m ws)).tr)))]), (iV ((alR (⟨((m.i)), ([])⟩ : Ob).i (⟨((m.i)), ([])⟩ : Ob).tr (trsL m ws)).2))])) rfl ?_
  refine R_alloc (i := 8) (n := 0) (m := 2) rfl (congrArg Blk.ver h8) rfl ?_
  refine R_store (vs := [(iV ((alO (⟨((m.i)), ([])⟩ : Ob) (trsL m ws)).i)), (V.sl (List.map cT ((alO (⟨((m.i)), ([])⟩ : Ob) (trsL m ws)).tr)))]) (B' := (⟨1, true, false, 34, 2, [[(iV ((alO (⟨((m.i)), ([])⟩ : Ob) (trsL m ws)).i)), (V.sl (List.map cT ((alO (⟨((m.i)), ([])⟩ : Ob) (trsL m ws)).tr)))]]⟩ : Blk)) (@rfl V (V.mp 8 1 0 0)) (@rfl V (V.agg [(iV ((alO (⟨((m.i)), ([])⟩ : Ob) (trsL m ws)).i)), (V.sl (List.map cT ((alO (⟨((m.i)), ([])⟩ : Ob) (trsL m ws)).tr)))])) rfl (@rfl Blk (⟨1, true, false, 34, 2, [[(iV (0 : Int)), V.nilsl]]⟩ : Blk)) (by first | rfl | simp [stB, okB, Blk.own, putAt, V.one]) ?_
  refine R_mv (@rfl V (iV ((alR (⟨((m.i)), ([])⟩ : Ob).i (⟨((m.i)), ([])⟩ : Ob).tr (trsL m ws)).2))) ?_
  exact R_nil ⟨t4, rfl, rfl, h2, h4, rfl, trivial⟩
 intro T H ⟨t4, t7, t8, h2, h4, h8, _⟩
 refine W_seq_seq ?_
 refine W_seq_regc (fun T H => T 4 = (V.mp 4 1 0 0) ∧ T 7 = (iV ((alR (⟨((m.i)), ([])⟩ : Ob).i (⟨((m.i)), ([])⟩ : Ob).tr (trsL m ws)).2)) ∧ T 8 = (V.mp 8 1 0 0) ∧ T 28 = (V.bool (decide (((alR (⟨((m.i)), ([])⟩ : Ob).i (⟨((m.i)), ([])⟩ : Ob).tr (trsL m ws)).2) ≠ (0 : Int)))) ∧ H 2 = (⟨1, true, false, 24, 4, [[(iV (m.i)), (iV (m.s)), (V.sl (List.map cL (m.nx))), (V.sl (List.map cL (m.ot)))]]⟩ : Blk) ∧ H 4 = (⟨1, true, false, 34, 2, [[(iV (0 : Int)), V.nilsl]]⟩ : Blk) ∧ H 8 = (⟨1, true, false, 34, 2, [[(iV ((alO (⟨((m.i)), ([])⟩ : Ob) (trsL m ws)).i)), (V.sl (List.map cT ((alO (⟨((m.i)), ([])⟩ : Ob) (trsL m ws)).tr)))]]⟩ : Blk) ∧ True) ?_ ?_
 ·
  unfold r54_5
  refine R_mv t7 ?_
  refine R_neq (x := ((alR (⟨((m.i)), ([])⟩ : Ob).i (⟨((m.i)), ([])⟩ : Ob).tr (trsL m ws)).2)) (y := (0 : Int)) (@rfl V (iV ((alR (⟨((m.i)), ([])⟩ : Ob).i (⟨((m.i)), ([])⟩ : Ob).tr (trsL m ws)).2))) (@rfl V (iV (0 : Int))) ?_
  exact R_nil ⟨t4, t7, t8, rfl, h2, h4, h8, trivial⟩
 intro T H ⟨t4, t7, t8, t28, h2, h4, h8, _⟩
 refine W_seq_if (p := ((alR (⟨((m.i)), ([])⟩ : Ob).i (⟨((m.i)), ([])⟩ : Ob).tr (trsL m ws)).2) ≠ (0 : Int)) t28 (fun c2 => ?_) (fun c2 => ?_)
 ·
  have d2 := c2
  refine W_seq_seq ?_
  refine W_seq_regc (fun T H => T 4 = (V.mp 4 1 0 0) ∧ T 5 = (iV ((alR (⟨((m.i)), ([])⟩ : Ob).i (⟨((m.i)), ([])⟩ : Ob).tr (trsL m ws)).2)) ∧ H 2 = (⟨1, true, false, 24, 4, [[(iV (m.i)), (iV (m.s)), (V.sl (List.map cL (m.nx))), (V.sl (List.map cL (m.ot)))]]⟩ : Blk) ∧ H 4 = (⟨1, true, false, 34, 2, [[(iV (0 : Int)), V.nilsl]]⟩ : Blk) ∧ H 8 = (⟨1, true, false, 34, 2, [[(iV ((alO (⟨((m.i)), ([])⟩ : Ob) (trsL m ws)).i)), (V.sl (List.map cT ((alO (⟨((m.i)), ([])⟩ : Ob) (trsL m ws)).tr)))]]⟩ : Blk) ∧ True) ?_ ?_
  ·
   unfold r54_6
   refine R_build (qs := []) (cs := [(iV (0 : Int)), V.nilsl]) rfl rfl ?_
   refine R_mv t7 ?_
   refine R_store (vs := [(iV (0 : Int)), V.nilsl]) (B' := (⟨1, true, false, 34, 2, [[(iV (0 : Int)), V.nilsl]]⟩ : Blk)) t4 (@rfl V (V.agg [(iV (0 : Int)), V.nilsl])) rfl h4 (by first | rfl | simp [stB, okB, Blk.own, putAt, V.one]) ?_
   refine R_mv (@rfl V (iV ((alR (⟨((m.i)), ([])⟩ : Ob).i (⟨((m.i)), ([])⟩ : Ob).tr (trsL m ws)).2))) ?_
   exact R_nil ⟨t4, rfl, h2, rfl, h8, trivial⟩
  intro T H ⟨t4, t5, h2, h4, h8, _⟩
  refine W_seq_ret ?_
  refine RetC_2 (resV_c (u := (V.agg [(iV (0 : Int)), V.nilsl])) t4 h4 (by first | rfl | simp [ldB, ldV, Blk.own, V.one])) (resV_t t5) (fz_agg2 (fz_int ?_) (fz_nil ?_)) (fz_int ?_)
  · rw [ofO, if_pos (by unfold ofE; rw [if_neg d1]; exact d2)]
  · rw [ofO, if_pos (by unfold ofE; rw [if_neg d1]; exact d2)]
  · rw [ofE, if_neg d1]
 have d2 := c2
 refine W_seq_skip ?_
 refine W_seq_regc (fun T H => T 4 = (V.mp 4 1 0 0) ∧ T 5 = (iV (0 : Int)) ∧ H 2 = (⟨1, true, false, 24, 4, [[(iV (m.i)), (iV (m.s)), (V.sl (List.map cL (m.nx))), (V.sl (List.map cL (m.ot)))]]⟩ : Blk) ∧ H 4 = (⟨1, true, false, 34, 2, [[(iV ((alO (⟨((m.i)), ([])⟩ : Ob) (trsL m ws)).i)), (V.sl (List.map cT ((alO (⟨((m.i)), ([])⟩ : Ob) (trsL m ws)).tr)))]]⟩ : Blk) ∧ H 8 = (⟨1, true, false, 34, 2, [[(iV ((alO (⟨((m.i)), ([])⟩ : Ob) (trsL m ws)).i)), (V.sl (List.map cT ((alO (⟨((m.i)), ([])⟩ : Ob) (trsL m ws)).tr)))]]⟩ : Blk) ∧ True) ?_ ?_
 ·
  unfold r54_7
  refine R_load_mp (v := (V.agg [(iV ((alO (⟨((m.i)), ([])⟩ : Ob) (trsL m ws)).i)), (V.sl (List.map cT ((alO (⟨((m.i)), ([])⟩ : Ob) (trsL m ws)).tr)))])) t8 h8 (by first | rfl | simp [ldB, ldV, Blk.own, V.one]) ?_
  refine R_store (vs := [(iV ((alO (⟨((m.i)), ([])⟩ : Ob) (trsL m ws)).i)), (V.sl (List.map cT ((alO (⟨((m.i)), ([])⟩ : Ob) (trsL m ws)).tr)))]) (B' := (⟨1, true, false, 34, 2, [[(iV ((alO (⟨((m.i)), ([])⟩ : Ob) (trsL m ws)).i)), (V.sl (List.map cT ((alO (⟨((m.i)), ([])⟩ : Ob) (trsL m ws)).tr)))]]⟩ : Blk)) t4 (@rfl V (V.agg [(iV ((alO (⟨((m.i)), ([])⟩ : Ob) (trsL m ws)).i)), (V.sl (List.map cT ((alO (⟨((m.i)), ([])⟩ : Ob) (trsL m ws)).tr)))])) rfl h4 (by first | rfl | simp [stB, okB, Blk.own, putAt, V.one]) ?_
  refine R_mv (@rfl V (iV (0 : Int))) ?_
  exact R_nil ⟨t4, rfl, h2, rfl, h8, trivial⟩
 intro T H ⟨t4, t5, h2, h4, h8, _⟩
 refine W_ret ?_
 refine RetC_2 (resV_c (u := (V.agg [(iV ((alO (⟨((m.i)), ([])⟩ : Ob) (trsL m ws)).i)), (V.sl (List.map cT ((alO (⟨((m.i)), ([])⟩ : Ob) (trsL m ws)).tr)))])) t4 h4 (by first | rfl | simp [ldB, ldV, Blk.own, V.one])) (resV_t t5) (fz_agg2 (fz_int ?_) (fz_sl ?_ (fun _ => by simp))) (fz_int ?_)
 · rw [ofO, if_neg (by unfold ofE; rw [if_neg d1]; exact d2)]
 · rw [ofO, if_neg (by unfold ofE; rw [if_neg d1]; exact d2)]
 · rw [ofE, if_neg d1]; exact (Decidable.not_not.1 d2).symm
end Go.Proofs.Ytngkckefanbhgaa

namespace Go.Proofs.Ytngkckefanbhgaa
open Go Go.Proofs
theorem law13_pure (m : M) (ws : List (List Int)) : PureC Try.prog 13 [(V.agg [(iV (m.i)), (iV (m.s)), (V.sl (List.map cL (m.nx))), (V.sl (List.map cL (m.ot)))]), (V.sl (List.map cL (ws)))] (V.bool true) := by
 refine pure_of_Wb true 6 Try.func13 s13_ok (by kernel_rfl) (by simp [s13]) (by simp) (by simp) fun hB => ?_
 simp only [bnd_map, bnd_int, bnd_bool, bnd_str, bnd_agg, bnd_pp, bnd_nil, bnd_cons, implies_true, and_true, true_and] at hB
 unfold s13
 dsimp only
 refine W_seq_regc (fun T H => T 1 = (V.sl (List.map cL (ws))) ∧ T 2 = (V.mp 2 1 0 0) ∧ H 2 = (⟨1, true, false, 24, 4, [[(iV (m.i)), (iV (m.s)), (V.sl (List.map cL (m.nx))), (V.sl (List.map cL (m.ot)))]]⟩ : Blk) ∧ H 5 = (⟨0, false, false, 0, 0, []⟩ : Blk) ∧ H 7 = (⟨0, false, false, 0, 0, []⟩ : Blk) ∧ True) ?_ ?_
 ·
  unfold r13_0
  refine R_box (i := 2) (n := 0) (m := 4) (cs := [(iV (m.i)), (iV (m.s)), (V.sl (List.map cL (m.nx))), (V.sl (List.map cL (m.ot)))]) rfl (congrArg Blk.ver rfl) (@rfl V (V.agg [(iV (m.i)), (iV (m.s)), (V.sl (List.map cL (m.nx))), (V.sl (List.map cL (m.ot)))])) rfl rfl ?_
  refine R_mv (@rfl V (V.bool false)) ?_
  exact R_nil ⟨rfl, rfl, rfl, rfl, rfl, trivial⟩
 intro T H ⟨t1, t2, h2, h5, h7, _⟩
 refine W_seq_seq ?_
 refine W_seq_regc (fun T H => T 1 = (V.sl (List.map cL (ws))) ∧ T 2 = (V.mp 2 1 0 0) ∧ T 11 = (V.bool (decide (60 < ws.length ∨ 40 < m.nx.length ∨ 20 < m.i ∨ fe (mnyE ws) 0 ws.length ≠ 0))) ∧ H 2 = (⟨1, true, false, 24, 4, [[(iV (m.i)), (iV (m.s)), (V.sl (List.map cL (m.nx))), (V.sl (List.map cL (m.ot)))]]⟩ : Blk) ∧ H 5 = (⟨0, false, false, 0, 0, []⟩ : Blk) ∧ H 7 = (⟨0, false, false, 0, 0, []⟩ : Blk) ∧ True) ?_ ?_
 ·
  unfold r13_1
  refine R_load_mp (v := (V.agg [(iV (m.i)), (iV (m.s)), (V.sl (List.map cL (m.nx))), (V.sl (List.map cL (m.ot)))])) t2 h2 (by first | rfl | simp [ldB, ldV, Blk.own, V.one]) ?_
  refine R_mv t1 ?_
  refine R_call (evcons (@rfl V (V.agg [(iV (m.i)), (iV (m.s)), (V.sl (List.map cL (m.nx))), (V.sl (List.map cL (m.ot)))])) (evcons (@rfl V (V.sl (List.map cL (ws)))) evnil)) (many_pure m ws) (fzv_mapcanon _ _ (by simp [-List.map_take, -List.map_drop, -List.map_append, -List.map_reverse])) (by simp [-List.map_take, -List.map_drop, -List.map_append, -List.map_reverse]) (Or.inl (by simp [-List.map_take, -List.map_drop, -List.map_append, -List.map_reverse])) ?_
  exact R_nil ⟨t1, t2, rfl, h2, h5, h7, trivial⟩
 intro T H ⟨t1, t2, t11, h2, h5, h7, _⟩
 refine W_seq_if (p := 60 < ws.length ∨ 40 < m.nx.length ∨ 20 < m.i ∨ fe (mnyE ws) 0 ws.length ≠ 0) t11 (fun c1 => ?_) (fun c1 => ?_)
 ·
  refine W_seq_seq ?_
  refine W_seq_regc (fun T H => T 4 = (V.bool true) ∧ H 2 = (⟨1, true, false, 24, 4, [[(iV (m.i)), (iV (m.s)), (V.sl (List.map cL (m.nx))), (V.sl (List.map cL (m.ot)))]]⟩ : Blk) ∧ H 5 = (⟨0, false, false, 0, 0, []⟩ : Blk) ∧ H 7 = (⟨0, false, false, 0, 0, []⟩ : Blk) ∧ True) ?_ ?_
  ·
   unfold r13_2
   refine R_call evnil (aw_learnerlaw16_awake_pure) (fzv_mapcanon _ _ (by simp [-List.map_take, -List.map_drop, -List.map_append, -List.map_reverse])) (by simp [-List.map_take, -List.map_drop, -List.map_append, -List.map_reverse]) (Or.inl (by simp [-List.map_take, -List.map_drop, -List.map_append, -List.map_reverse])) ?_
   refine R_mv (@rfl V (V.bool true)) ?_
   exact R_nil ⟨rfl, h2, h5, h7, trivial⟩
  intro T H ⟨t4, h2, h5, h7, _⟩
  refine W_seq_ret ?_
  refine Ret_1 t4 (fz_canon (by simp) rfl)
 refine W_seq_skip ?_
 refine W_seq_regc (fun T H => T 1 = (V.sl (List.map cL (ws))) ∧ T 2 = (V.mp 2 1 0 0) ∧ T 5 = (V.mp 5 1 0 0) ∧ T 6 = (iV (ofE m ws)) ∧ H 2 = (⟨1, true, false, 24, 4, [[(iV (m.i)), (iV (m.s)), (V.sl (List.map cL (m.nx))), (V.sl (List.map cL (m.ot)))]]⟩ : Blk) ∧ H 5 = (⟨1, true, false, 34, 2, [[(iV ((ofO m ws).i)), (V.sl (List.map cT ((ofO m ws).tr)))]]⟩ : Blk) ∧ H 7 = (⟨0, false, false, 0, 0, []⟩ : Blk) ∧ True) ?_ ?_
 ·
  unfold r13_3
  refine R_load_mp (v := (V.agg [(iV (m.i)), (iV (m.s)), (V.sl (List.map cL (m.nx))), (V.sl (List.map cL (m.ot)))])) t2 h2 (by first | rfl | simp [ldB, ldV, Blk.own, V.one]) ?_
  refine R_mv t1 ?_
  refine R_call (evcons (@rfl V (V.agg [(iV (m.i)), (iV (m.s)), (V.sl (List.map cL (m.nx))), (V.sl (List.map cL (m.ot)))])) (evcons (@rfl V (V.sl (List.map cL (ws)))) evnil)) (oof_pure m ws) (fzv_mapcanon _ _ (by simp [-List.map_take, -List.map_drop, -List.map_append, -List.map_reverse])) (by simp [-List.map_take, -List.map_drop, -List.map_append, -List.map_reverse]) (Or.inl (by simp [-List.map_take, -List.map_drop, -List.map_append, -List.map_reverse])) ?_
  refine R_mv (@rfl V (V.tup [(V.agg [(iV ((ofO m ws).i)), (V.sl (List.map cT ((ofO m ws).tr)))]), (iV (ofE m ws))])) ?_
  refine R_ext (v := (V.agg [(iV ((ofO m ws).i)), (V.sl (List.map cT ((ofO m ws).tr)))])) (@rfl V (V.tup [(V.agg [(iV ((ofO m ws).i)), (V.sl (List.map cT ((ofO m ws).tr)))]), (iV (ofE m ws))])) rfl ?_
  refine R_ext (v := (iV (ofE m ws))) (@rfl V (V.tup [(V.agg [(iV ((ofO m ws).i)), (V.sl (List.map cT ((ofO m ws).tr)))]), (iV (ofE m ws))])) rfl ?_
  refine R_alloc (i := 5) (n := 0) (m := 2) rfl (congrArg Blk.ver h5) rfl ?_
  refine R_store (vs := [(iV ((ofO m ws).i)), (V.sl (List.map cT ((ofO m ws).tr)))]) (B' := (⟨1, true, false, 34, 2, [[(iV ((ofO m ws).i)), (V.sl (List.map cT ((ofO m ws).tr)))]]⟩ : Blk)) (@rfl V (V.mp 5 1 0 0)) (@rfl V (V.agg [(iV ((ofO m ws).i)), (V.sl (List.map cT ((ofO m ws).tr)))])) rfl (@rfl Blk (⟨1, true, false, 34, 2, [[(iV (0 : Int)), V.nilsl]]⟩ : Blk)) (by first | rfl | simp [stB, okB, Blk.own, putAt, V.one]) ?_
  refine R_mv (@rfl V (iV (ofE m ws))) ?_
  exact R_nil ⟨t1, t2, rfl, rfl, h2, rfl, h7, trivial⟩
 intro T H ⟨t1, t2, t5, t6, h2, h5, h7, _⟩
 refine W_seq_regc (fun T H => T 5 = (V.mp 5 1 0 0) ∧ T 6 = (iV (ofE m ws)) ∧ T 7 = (V.mp 7 1 0 0) ∧ T 8 = (iV (ofE m ws)) ∧ H 2 = (⟨1, true, false, 24, 4, [[(iV (m.i)), (iV (m.s)), (V.sl (List.map cL (m.nx))), (V.sl (List.map cL (m.ot)))]]⟩ : Blk) ∧ H 5 = (⟨1, true, false, 34, 2, [[(iV ((ofO m ws).i)), (V.sl (List.map cT ((ofO m ws).tr)))]]⟩ : Blk) ∧ H 7 = (⟨1, true, false, 34, 2, [[(iV ((ofO m ws).i)), (V.sl (List.map cT ((ofO m ws).tr)))]]⟩ : Blk) ∧ True) ?_ ?_
 ·
  unfold r13_4
  refine R_load_mp (v := (V.agg [(iV (m.i)), (iV (m.s)), (V.sl (List.map cL (m.nx))), (V.sl (List.map cL (m.ot)))])) t2 h2 (by first | rfl | simp [ldB, ldV, Blk.own, V.one]) ?_
  refine R_mv t1 ?_
  refine R_call (evcons (@rfl V (V.agg [(iV (m.i)), (iV (m.s)), (V.sl (List.map cL (m.nx))), (V.sl (List.map cL (m.ot)))])) (evcons (@rfl V (V.sl (List.map cL (ws)))) evnil)) (rof_pure m ws) (fzv_mapcanon _ _ (by simp [-List.map_take, -List.map_drop, -List.map_append, -List.map_reverse])) (by simp [-List.map_take, -List.map_drop, -List.map_append, -List.map_reverse]) (Or.inl (by simp [-List.map_take, -List.map_drop, -List.map_append, -List.map_reverse])) ?_
  refine R_mv (@rfl V (V.tup [(V.agg [(iV ((ofO m ws).i)), (V.sl (List.map cT ((ofO m ws).tr)))]), (iV (ofE m ws))])) ?_
  refine R_ext (v := (V.agg [(iV ((ofO m ws).i)), (V.sl (List.map cT ((ofO m ws).tr)))])) (@rfl V (V.tup [(V.agg [(iV ((ofO m ws).i)), (V.sl (List.map cT ((ofO m ws).tr)))]), (iV (ofE m ws))])) rfl ?_
  refine R_ext (v := (iV (ofE m ws))) (@rfl V (V.tup [(V.agg [(iV ((ofO m ws).i)), (V.sl (List.map cT ((ofO m ws).tr)))]), (iV (ofE m ws))])) rfl ?_
  refine R_alloc (i := 7) (n := 0) (m := 2) rfl (congrArg Blk.ver h7) rfl ?_
  refine R_store (vs := [(iV ((ofO m ws).i)), (V.sl (List.map cT ((ofO m ws).tr)))]) (B' := (⟨1, true, false, 34, 2, [[(iV ((ofO m ws).i)), (V.sl (List.map cT ((ofO m ws).tr)))]]⟩ : Blk)) (@rfl V (V.mp 7 1 0 0)) (@rfl V (V.agg [(iV ((ofO m ws).i)), (V.sl (List.map cT ((ofO m ws).tr)))])) rfl (@rfl Blk (⟨1, true, false, 34, 2, [[(iV (0 : Int)), V.nilsl]]⟩ : Blk)) (by first | rfl | simp [stB, okB, Blk.own, putAt, V.one]) ?_
  refine R_mv (@rfl V (iV (ofE m ws))) ?_
  exact R_nil ⟨t5, t6, rfl, rfl, h2, h5, rfl, trivial⟩
 intro T H ⟨t5, t6, t7, t8, h2, h5, h7, _⟩
 refine W_seq_regc (fun T H => T 4 = (V.bool (decide ((((ofO m ws)) = ((ofO m ws))) ∧ ((ofE m ws) = (ofE m ws))))) ∧ H 2 = (⟨1, true, false, 24, 4, [[(iV (m.i)), (iV (m.s)), (V.sl (List.map cL (m.nx))), (V.sl (List.map cL (m.ot)))]]⟩ : Blk) ∧ H 5 = (⟨1, true, false, 34, 2, [[(iV ((ofO m ws).i)), (V.sl (List.map cT ((ofO m ws).tr)))]]⟩ : Blk) ∧ H 7 = (⟨1, true, false, 34, 2, [[(iV ((ofO m ws).i)), (V.sl (List.map cT ((ofO m ws).tr)))]]⟩ : Blk) ∧ True) ?_ ?_
 ·
  unfold r13_5
  refine R_load_mp (v := (V.agg [(iV ((ofO m ws).i)), (V.sl (List.map cT ((ofO m ws).tr)))])) t5 h5 (by first | rfl | simp [ldB, ldV, Blk.own, V.one]) ?_
  refine R_load_mp (v := (V.agg [(iV ((ofO m ws).i)), (V.sl (List.map cT ((ofO m ws).tr)))])) t7 h7 (by first | rfl | simp [ldB, ldV, Blk.own, V.one]) ?_
  refine R_call (evcons (@rfl V (V.agg [(iV ((ofO m ws).i)), (V.sl (List.map cT ((ofO m ws).tr)))])) (evcons (@rfl V (V.agg [(iV ((ofO m ws).i)), (V.sl (List.map cT ((ofO m ws).tr)))])) evnil)) (rsame_pure ((ofO m ws)) ((ofO m ws))) (fzv_mapcanon _ _ (by simp [-List.map_take, -List.map_drop, -List.map_append, -List.map_reverse])) (by simp [-List.map_take, -List.map_drop, -List.map_append, -List.map_reverse]) (Or.inl (by simp [-List.map_take, -List.map_drop, -List.map_append, -List.map_reverse])) ?_
  refine R_mv (@rfl V (V.bool (decide (((ofO m ws)) = ((ofO m ws)))))) ?_
  refine Ops_seg 4 (fun T H => T 32 = (V.bool (decide ((((ofO m ws)) = ((ofO m ws))) ∧ ((ofE m ws) = (ofE m ws))))) ∧ H 2 = (⟨1, true, false, 24, 4, [[(iV (m.i)), (iV (m.s)), (V.sl (List.map cL (m.nx))), (V.sl (List.map cL (m.ot)))]]⟩ : Blk) ∧ H 5 = (⟨1, true, false, 34, 2, [[(iV ((ofO m ws).i)), (V.sl (List.map cT ((ofO m ws).tr)))]]⟩ : Blk) ∧ H 7 = (⟨1, true, false, 34, 2, [[(iV ((ofO m ws).i)), (V.sl (List.map cT ((ofO m ws).tr)))]]⟩ : Blk) ∧ True) ?_ ?_
  ·
   by_cases g2 : ((ofO m ws)) = ((ofO m ws))
   ·
    refine G_yes (Eq.trans (@rfl V (V.bool (decide (((ofO m ws)) = ((ofO m ws)))))) (bdT g2)) ?_
    refine R_mv t6 ?_
    refine G_yes (Eq.trans (@rfl V (V.bool (decide (((ofO m ws)) = ((ofO m ws)))))) (bdT g2)) ?_
    refine R_mv t8 ?_
    refine G_yes (Eq.trans (@rfl V (V.bool (decide (((ofO m ws)) = ((ofO m ws)))))) (bdT g2)) ?_
    refine R_eql (x := (ofE m ws)) (y := (ofE m ws)) (@rfl V (iV (ofE m ws))) (@rfl V (iV (ofE m ws))) ?_
    refine R_pickT (Eq.trans (@rfl V (V.bool (decide (((ofO m ws)) = ((ofO m ws)))))) (bdT g2)) (@rfl V (V.bool (decide ((ofE m ws) = (ofE m ws))))) ?_
    exact ⟨(Eq.trans (@rfl V (V.bool (decide ((ofE m ws) = (ofE m ws))))) (dec_andT g2)), h2, h5, h7, trivial⟩
   ·
    refine G_no (Eq.trans (@rfl V (V.bool (decide (((ofO m ws)) = ((ofO m ws)))))) (bdF g2)) (by decide) ?_
    refine G_no (Eq.trans (@rfl V (V.bool (decide (((ofO m ws)) = ((ofO m ws)))))) (bdF g2)) (by decide) ?_
    refine G_no (Eq.trans (@rfl V (V.bool (decide (((ofO m ws)) = ((ofO m ws)))))) (bdF g2)) (by decide) ?_
    refine R_pickF (Eq.trans (@rfl V (V.bool (decide (((ofO m ws)) = ((ofO m ws)))))) (bdF g2)) (@rfl V (V.bool false)) ?_
    exact ⟨(Eq.trans (@rfl V (V.bool false)) (dec_andF g2)), h2, h5, h7, trivial⟩
  intro T H ⟨t32, h2, h5, h7, _⟩
  refine R_mv t32 ?_
  refine Ops_seg 2 (fun T H => T 35 = (V.bool (decide ((((ofO m ws)) = ((ofO m ws))) ∧ ((ofE m ws) = (ofE m ws))))) ∧ H 2 = (⟨1, true, false, 24, 4, [[(iV (m.i)), (iV (m.s)), (V.sl (List.map cL (m.nx))), (V.sl (List.map cL (m.ot)))]]⟩ : Blk) ∧ H 5 = (⟨1, true, false, 34, 2, [[(iV ((ofO m ws).i)), (V.sl (List.map cT ((ofO m ws).tr)))]]⟩ : Blk) ∧ H 7 = (⟨1, true, false, 34, 2, [[(iV ((ofO m ws).i)), (V.sl (List.map cT ((ofO m ws).tr)))]]⟩ : Blk) ∧ True) ?_ ?_
  ·
   by_cases g3 : (((ofO m ws)) = ((ofO m ws))) ∧ ((ofE m ws) = (ofE m ws))
   ·
    refine G_yes (Eq.trans (@rfl V (V.bool (decide ((((ofO m ws)) = ((ofO m ws))) ∧ ((ofE m ws) = (ofE m ws)))))) (bdT g3)) ?_
    refine R_call evnil (aw_learnerlaw16_awake_pure) (fzv_mapcanon _ _ (by simp [-List.map_take, -List.map_drop, -List.map_append, -List.map_reverse])) (by simp [-List.map_take, -List.map_drop, -List.map_append, -List.map_reverse]) (Or.inl (by simp [-List.map_take, -List.map_drop, -List.map_append, -List.map_reverse])) ?_
    refine R_pickT (Eq.trans (@rfl V (V.bool (decide ((((ofO m ws)) = ((ofO m ws))) ∧ ((ofE m ws) = (ofE m ws)))))) (bdT g3)) (@rfl V (V.bool true)) ?_
    exact ⟨(Eq.trans (@rfl V (V.bool true)) (dec_T g3)), h2, h5, h7, trivial⟩
   ·
    refine G_no (Eq.trans (@rfl V (V.bool (decide ((((ofO m ws)) = ((ofO m ws))) ∧ ((ofE m ws) = (ofE m ws)))))) (bdF g3)) (by decide) ?_
    refine R_pickF (Eq.trans (@rfl V (V.bool (decide ((((ofO m ws)) = ((ofO m ws))) ∧ ((ofE m ws) = (ofE m ws)))))) (bdF g3)) (@rfl V (V.bool false)) ?_
    exact ⟨(Eq.trans (@rfl V (V.bool false)) (dec_F g3)), h2, h5, h7, trivial⟩
  intro T H ⟨t35, h2, h5, h7, _⟩
  refine R_mv t35 ?_
  exact R_nil ⟨rfl, h2, h5, h7, trivial⟩
 intro T H ⟨t4, h2, h5, h7, _⟩
 refine W_ret ?_
 refine Ret_1 t4 (fz_bool ?_)
 · simp
end Go.Proofs.Ytngkckefanbhgaa

namespace Go.Proofs.Ytngkckefanbhgaa
open Go Go.Proofs Go.Proofs.Ytngkckefanbhgaa Go.ChangeShapes Go.WideShapes Go.ChangeAt Go.RowKit
structure UT (P : Program) : Prop where
  u3 : P.underlying 3 = some (.int .i64)
  u22 : P.underlying 22 = some (.slice 35)
  u35 : P.underlying 35 = some (.slice 3)
  u24 : ∃ f0 f1 f2 f3 : Field, P.underlying 24 = some (.struct #[f0, f1, f2, f3]) ∧ f0.type = 3 ∧ f1.type = 3 ∧ f2.type = 22 ∧ f3.type = 22
theorem sh3 {P : Program} (U : UT P) (n : Nat) (vs : List V) (h : Shp P (n + 1) 3 vs) : ∃ a : Int, vs = cI a := shp_int U.u3 h
theorem sh35 {P : Program} (U : UT P) (n : Nat) (vs : List V) (h : Shp P (n + 2) 35 vs) : ∃ a : List Int, vs = cL a := shp_slice (f := cI) U.u35 (fun vs h => sh3 U n vs h) h
theorem sh22 {P : Program} (U : UT P) (n : Nat) (vs : List V) (h : Shp P (n + 3) 22 vs) : ∃ a : List (List Int), vs = (fun l => [V.sl (List.map cL l)]) a := shp_slice (f := cL) U.u22 (fun vs h => sh35 U n vs h) h
theorem sh24 {P : Program} (U : UT P) (n : Nat) (vs : List V) (h : Shp P (n + 4) 24 vs) : ∃ a : M, vs = mC a := by
  obtain ⟨f0, f1, f2, f3, hu, k0, k1, k2, k3⟩ := U.u24
  have h0 := shp_step hu h
  obtain ⟨x0, u0, e0, h1⟩ := shpL_cons (c := cI) (fun vs h => sh3 U (n + 2) vs (by rw [k0] at h; exact h)) h0
  obtain ⟨x1, u1, e1, h2⟩ := shpL_cons (c := cI) (fun vs h => sh3 U (n + 2) vs (by rw [k1] at h; exact h)) h1
  obtain ⟨x2, u2, e2, h3⟩ := shpL_cons (c := (fun l => [V.sl (List.map cL l)])) (fun vs h => sh22 U (n + 0) vs (by rw [k2] at h; exact h)) h2
  obtain ⟨x3, u3, e3, h4⟩ := shpL_cons (c := (fun l => [V.sl (List.map cL l)])) (fun vs h => sh22 U (n + 0) vs (by rw [k3] at h; exact h)) h3
  have e4 := shpL_nil h4
  exact ⟨⟨x0, x1, x2, x3⟩, by rw [e0, e1, e2, e3, e4]; rfl⟩
theorem ut : UT Try.prog := ⟨by kernel_rfl, by kernel_rfl, by kernel_rfl, ⟨_, _, _, _, Try.underlying24, rfl, rfl, rfl, rfl⟩⟩
theorem args13 {P : Program} (U : UT P) {us : List V} (h : ShpA P 5 [24, 22] us) : ∃ (d0 : M) (d1 : List (List Int)), us = [V.agg (mC d0), V.sl (List.map cL d1)] := by
  obtain ⟨a0, b0, e0, h0, h⟩ := shpA_cons h
  obtain ⟨d0, g0⟩ := sh24 U 1 a0 h0
  have q0 : packV P 24 a0 = V.agg (mC d0) := by obtain ⟨_, _, _, _, hu, _⟩ := U.u24; rw [g0]; exact pack_struct hu _
  obtain ⟨a1, b1, e1, h1, h⟩ := shpA_cons h
  obtain ⟨d1, g1⟩ := sh22 U 2 a1 h1
  have q1 : packV P 22 a1 = V.sl (List.map cL d1) := by rw [g1]; exact pack_other (fun fs h => by rw [U.u22] at h; cases h)
  have e2 := shpA_nil h
  exact ⟨d0, d1, by rw [e0, q0, e1, q1, e2]⟩
theorem own13 : ownKnob Try.prog.godebug = none := by kernel_rfl
set_option maxRecDepth 100000 in
theorem lifted13 (os : Os) (started : os.Started) (H : Type) (enc : TypeId × Value → H) :
    ReturnsInHanded {} Try.checked os 13 .any (Rows.observeMachinesSpec.pre6 enc Try.prog Try.f13 Rows.observeMachinesRow.domain false) (Rows.observeMachinesSpec.post enc Try.prog Try.f13 false true false false) := by
  refine returnsInHanded_of_change (C := Try.checked) own13 started (by kernel_rfl) Try.func13
    (ChangeSpec.witness6 (enc := enc) (C := Try.checked) false ⟨#[], #[.agg #[.int .i64 0, .int .i64 0, .slice none 0 0, .slice none 0 0], .slice none 0 0], []⟩ 8 (by kernel_rfl) (by kernel_rfl) (by kernel_rfl) (by kernel_rfl)) ?_
  intro W base args ds gs before hval0 hW hcnd _
  refine law_post (n := 5) (tb := 4) (by kernel_rfl) (by kernel_rfl) (by kernel_rfl) (fun t ht => ?_) rfl ?_ (fun us hu => ?_) hval0 hW
  · have h : t ∈ [24, 22] := ht
    simp only [List.mem_cons, List.not_mem_nil, or_false] at h
    rcases h with rfl | rfl
    · exact ⟨by kernel_rfl, by kernel_rfl, of_decide_eq_true (by kernel_rfl)⟩
    · exact ⟨by kernel_rfl, by kernel_rfl, of_decide_eq_true (by kernel_rfl)⟩
  · obtain ⟨p, q, hA, hV, rfl, hfz, hnd⟩ := hW
    obtain ⟨rfl, rfl⟩ := trodVars_none hV
    change DataW.TrodAll enc Try.prog W 0 (fun _ => true) true [24, 22] args.toList ds p at hA
    obtain ⟨v0, vs0, y0, ds0, pa0, pb0, hv0, rfl, rfl, _, hA⟩ := trodAll_cons hA
    obtain ⟨v1, vs1, y1, ds1, pa1, pb1, hv1, rfl, rfl, _, hA⟩ := trodAll_cons hA
    obtain ⟨_, rfl, rfl⟩ := trodAll_nil hA
    rfl
  · obtain ⟨d0, d1, rfl⟩ := args13 ut hu
    exact law13_pure d0 d1
theorem proved13 : Rows.ObserveMachinesSaid :=
  OpenClaim.holds_of_wide 13 Try.f13 rfl rfl rfl rfl rfl rfl rfl ⟨rfl, rfl, rfl, rfl, rfl⟩ rfl rfl rfl rfl rfl (by kernel_rfl) Try.func13 (by kernel_rfl)
    (of_decide_eq_true (by kernel_rfl)) (by unfold Func.isWrapper; first | (rw [if_pos (by decide +kernel)]; kernel_rfl) | (rw [if_neg (by decide +kernel)]; exact ⟨rfl, rfl⟩))
    (fun os started H enc _ => lifted13 os started H enc)
end Go.Proofs.Ytngkckefanbhgaa

