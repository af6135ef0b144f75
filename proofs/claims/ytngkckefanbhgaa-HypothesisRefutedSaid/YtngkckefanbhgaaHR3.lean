import Derived.KernelRfl
import Derived.Test.YtngkckefanbhgaaRows
import Derived.Test.YtngkckefanbhgaaHR2
namespace Go.Proofs.Ytngkckefanbhgaa
open Go Go.Proofs

theorem hstate_pure (h : Hy) (w : List Int) (hv : hval h = 0) : PureC Try.prog 21 [(V.agg [(iV (h.m.i)), (iV (h.m.s)), (V.sl (List.map cL (h.m.nx))), (V.sl (List.map cL (h.m.ot))), (V.sl (List.map cL (h.acc)))]), (V.sl (List.map cI (w)))] (V.tup [(V.sl (List.map cI (stW h w))), (iV (wchk w h.m.i))]) := by
  refine pure_of_Wb true 6 Try.func21 s21_ok (by kernel_rfl) (by simp [s21]) (by simp) (by simp) fun hB => ?_
  simp only [bnd_map, bnd_int, bnd_bool, bnd_str, bnd_agg, bnd_pp, bnd_nil, bnd_cons, implies_true, and_true, true_and] at hB
  unfold s21
  dsimp only
  have h1 := hval_ok hv
  have h2 := frE_val (w := w) h1.1
  refine W_seq_regc (fun T H => T 1 = (V.sl (List.map cI (w))) ∧ T 2 = (V.mp 2 1 0 0) ∧ H 2 = (⟨1, true, false, 26, 5, [[(iV (h.m.i)), (iV (h.m.s)), (V.sl (List.map cL (h.m.nx))), (V.sl (List.map cL (h.m.ot))), (V.sl (List.map cL (h.acc)))]]⟩ : Blk) ∧ True) ?_ ?_
  · unfold r21_0
    refine R_box (i := 2) (n := 0) (m := 5) (cs := [(iV (h.m.i)), (iV (h.m.s)), (V.sl (List.map cL (h.m.nx))), (V.sl (List.map cL (h.m.ot))), (V.sl (List.map cL (h.acc)))]) rfl (congrArg Blk.ver rfl) (@rfl V (V.agg [(iV (h.m.i)), (iV (h.m.s)), (V.sl (List.map cL (h.m.nx))), (V.sl (List.map cL (h.m.ot))), (V.sl (List.map cL (h.acc)))])) rfl rfl ?_
    refine R_mv (@rfl V V.nilsl) ?_
    refine R_mv (@rfl V (iV (0 : Int))) ?_
    exact R_nil ⟨rfl, rfl, rfl, trivial⟩
  · intro T H ⟨t1, t2, h2, _⟩
    refine W_seq_regc (fun T H => T 2 = (V.mp 2 1 0 0) ∧ T 7 = (iV (frEnd h.m ((h.m.s)) w)) ∧ T 8 = (iV (frE h.m ((h.m.s)) w)) ∧ H 2 = (⟨1, true, false, 26, 5, [[(iV (h.m.i)), (iV (h.m.s)), (V.sl (List.map cL (h.m.nx))), (V.sl (List.map cL (h.m.ot))), (V.sl (List.map cL (h.acc)))]]⟩ : Blk) ∧ True) ?_ ?_
    · unfold r21_1
      refine R_fld_mp (o' := 0) t2 h2 (by first | rfl | simp [okB, Blk.own]) rfl ?_
      refine R_load_mp (v := (V.agg [(iV (h.m.i)), (iV (h.m.s)), (V.sl (List.map cL (h.m.nx))), (V.sl (List.map cL (h.m.ot)))])) (@rfl V (V.mp 2 1 0 0)) h2 (by first | rfl | simp [ldB, ldV, Blk.own, V.one]) ?_
      refine R_fld_mp (o' := 0) t2 h2 (by first | rfl | simp [okB, Blk.own]) rfl ?_
      refine R_fld_mp (o' := 1) (@rfl V (V.mp 2 1 0 0)) h2 (by first | rfl | simp [okB, Blk.own]) rfl ?_
      refine R_load_mp (v := (iV (h.m.s))) (@rfl V (V.mp 2 1 0 1)) h2 (by first | rfl | simp [ldB, ldV, Blk.own, V.one]) ?_
      refine R_mv t1 ?_
      refine R_call (evcons (@rfl V (V.agg [(iV (h.m.i)), (iV (h.m.s)), (V.sl (List.map cL (h.m.nx))), (V.sl (List.map cL (h.m.ot)))])) (evcons (@rfl V (iV (h.m.s))) (evcons (@rfl V (V.sl (List.map cI (w)))) evnil))) (from_pure h.m ((h.m.s)) w) (fzv_mapcanon _ _ (by simp [-List.map_take, -List.map_drop, -List.map_append, -List.map_reverse])) (by simp [-List.map_take, -List.map_drop, -List.map_append, -List.map_reverse]) (Or.inl (by simp [-List.map_take, -List.map_drop, -List.map_append, -List.map_reverse])) ?_
      refine R_mv (@rfl V (V.tup [(V.sl (List.map cI (frOut h.m ((h.m.s)) w))), (iV (frEnd h.m ((h.m.s)) w)), (iV (frE h.m ((h.m.s)) w))])) ?_
      refine R_ext (v := (V.sl (List.map cI (frOut h.m ((h.m.s)) w)))) (@rfl V (V.tup [(V.sl (List.map cI (frOut h.m ((h.m.s)) w))), (iV (frEnd h.m ((h.m.s)) w)), (iV (frE h.m ((h.m.s)) w))])) rfl ?_
      refine R_ext (v := (iV (frEnd h.m ((h.m.s)) w))) (@rfl V (V.tup [(V.sl (List.map cI (frOut h.m ((h.m.s)) w))), (iV (frEnd h.m ((h.m.s)) w)), (iV (frE h.m ((h.m.s)) w))])) rfl ?_
      refine R_ext (v := (iV (frE h.m ((h.m.s)) w))) (@rfl V (V.tup [(V.sl (List.map cI (frOut h.m ((h.m.s)) w))), (iV (frEnd h.m ((h.m.s)) w)), (iV (frE h.m ((h.m.s)) w))])) rfl ?_
      refine R_mv (@rfl V (V.sl (List.map cI (frOut h.m ((h.m.s)) w)))) ?_
      refine R_mv (@rfl V (iV (frEnd h.m ((h.m.s)) w))) ?_
      refine R_mv (@rfl V (iV (frE h.m ((h.m.s)) w))) ?_
      exact R_nil ⟨t2, rfl, rfl, h2, trivial⟩
    · intro T H ⟨t2, t7, t8, h2, _⟩
      refine W_seq_seq ?_
      refine W_seq_regc (fun T H => T 2 = (V.mp 2 1 0 0) ∧ T 7 = (iV (frEnd h.m ((h.m.s)) w)) ∧ T 8 = (iV (frE h.m ((h.m.s)) w)) ∧ T 21 = (V.bool (decide ((frE h.m ((h.m.s)) w) ≠ (0 : Int)))) ∧ H 2 = (⟨1, true, false, 26, 5, [[(iV (h.m.i)), (iV (h.m.s)), (V.sl (List.map cL (h.m.nx))), (V.sl (List.map cL (h.m.ot))), (V.sl (List.map cL (h.acc)))]]⟩ : Blk) ∧ True) ?_ ?_
      · unfold r21_2
        refine R_mv t8 ?_
        refine R_neq (x := (frE h.m ((h.m.s)) w)) (y := (0 : Int)) (@rfl V (iV (frE h.m ((h.m.s)) w))) (@rfl V (iV (0 : Int))) ?_
        exact R_nil ⟨t2, t7, t8, rfl, h2, trivial⟩
      · intro T H ⟨t2, t7, t8, t21, h2, _⟩
        refine W_seq_if (p := (frE h.m ((h.m.s)) w) ≠ (0 : Int)) t21 (fun c1 => ?_) (fun c1 => ?_)
        ·
          refine W_seq_seq ?_
          refine W_seq_regc (fun T H => T 4 = V.nilsl ∧ T 5 = (iV (frE h.m ((h.m.s)) w)) ∧ H 2 = (⟨1, true, false, 26, 5, [[(iV (h.m.i)), (iV (h.m.s)), (V.sl (List.map cL (h.m.nx))), (V.sl (List.map cL (h.m.ot))), (V.sl (List.map cL (h.acc)))]]⟩ : Blk) ∧ True) ?_ ?_
          · unfold r21_3
            refine R_mv t8 ?_
            refine R_mv (@rfl V V.nilsl) ?_
            refine R_mv (@rfl V (iV (frE h.m ((h.m.s)) w))) ?_
            exact R_nil ⟨rfl, rfl, h2, trivial⟩
          · intro T H ⟨t4, t5, h2, _⟩
            refine W_seq_ret ?_
            refine Ret_2 t4 t5 (fz_nil ?_) (fz_int ?_)
            · rw [stW, if_pos (by omega)]
            · omega
        ·
          have h3 := frE_ok (w := w) h1.1 (by omega)
          have h4 := wchk_ok (h1.2.2 (goal h.m h.m.s w).toNat (by omega)).1
          refine W_seq_skip ?_
          refine W_seq_regc (fun T H => T 4 = (V.sl (List.map cI (((nth (h.acc) (frEnd h.m ((h.m.s)) w).toNat))))) ∧ T 5 = (iV (0 : Int)) ∧ H 2 = (⟨1, true, false, 26, 5, [[(iV (h.m.i)), (iV (h.m.s)), (V.sl (List.map cL (h.m.nx))), (V.sl (List.map cL (h.m.ot))), (V.sl (List.map cL (h.acc)))]]⟩ : Blk) ∧ True) ?_ ?_
          · unfold r21_4
            refine R_fld_mp (o' := 4) t2 h2 (by first | rfl | simp [okB, Blk.own]) rfl ?_
            refine R_load_mp (v := (V.sl (List.map cL (h.acc)))) (@rfl V (V.mp 2 1 0 4)) h2 (by first | rfl | simp [ldB, ldV, Blk.own, V.one]) ?_
            refine R_mv t7 ?_
            refine R_idxI (i := (frEnd h.m ((h.m.s)) w)) (@rfl V (V.sl (List.map cL (h.acc)))) (@rfl V (iV (frEnd h.m ((h.m.s)) w))) (by omega) (by omega) rfl ?_
            refine R_load_pp (v := (V.sl (List.map cI ((nth (h.acc) (frEnd h.m ((h.m.s)) w).toNat))))) (@rfl V (V.pp [(V.sl (List.map cI ((nth (h.acc) (frEnd h.m ((h.m.s)) w).toNat))))])) (by first | rfl | simp [ldV]) ?_
            refine R_call (evcons (@rfl V (V.sl (List.map cI ((nth (h.acc) (frEnd h.m ((h.m.s)) w).toNat))))) evnil) (clone_pure ((nth (h.acc) (frEnd h.m ((h.m.s)) w).toNat)) (by rw [h3.1]; omega)) (fzv_mapcanon _ _ (by simp [-List.map_take, -List.map_drop, -List.map_append, -List.map_reverse])) (by simp [-List.map_take, -List.map_drop, -List.map_append, -List.map_reverse]) (Or.inl (by simp [-List.map_take, -List.map_drop, -List.map_append, -List.map_reverse])) ?_
            refine R_mv (@rfl V (V.sl (List.map cI (((nth (h.acc) (frEnd h.m ((h.m.s)) w).toNat)))))) ?_
            refine R_mv (@rfl V (iV (0 : Int))) ?_
            exact R_nil ⟨rfl, rfl, h2, trivial⟩
          · intro T H ⟨t4, t5, h2, _⟩
            refine W_ret ?_
            refine Ret_2 t4 t5 (fz_sl ?_ (fun _ => by simp)) (fz_int ?_)
            · rw [stW, if_neg (by omega), h3.1]
            · omega

end Go.Proofs.Ytngkckefanbhgaa

namespace Go.Proofs.Ytngkckefanbhgaa
open Go Go.Proofs

theorem join_pure (l : List (List Int)) (hs : (cat l).length ≤ 17592186044416) : PureC Try.prog 35 [(V.sl (List.map cL (l)))] (V.sl (List.map cI (cat l))) := by
  refine pure_of_Wb true 6 Try.func35 s35_ok (by kernel_rfl) (by simp [s35]) (by simp) (by simp) fun hB => ?_
  simp only [bnd_map, bnd_int, bnd_bool, bnd_str, bnd_agg, bnd_pp, bnd_nil, bnd_cons, implies_true, and_true, true_and] at hB
  unfold s35
  dsimp only
  refine W_seq_regc (fun T H => T 0 = (V.sl (List.map cL (l))) ∧ H 3 = (⟨0, false, false, 0, 0, []⟩ : Blk) ∧ True) ?_ ?_
  · unfold r35_0
    refine R_mv (@rfl V V.nilsl) ?_
    exact R_nil ⟨rfl, rfl, trivial⟩
  · intro T H ⟨t0, h3, _⟩
    refine W_seq_regc (fun T H => T 0 = (V.sl (List.map cL (l))) ∧ T 3 = (V.ms 3 1 0 (0)) ∧ H 3 = (⟨1, true, true, 3, 1, []⟩ : Blk) ∧ True) ?_ ?_
    · unfold r35_1
      refine R_lazy (i := 3) (n := 0) rfl (congrArg Blk.ver h3) ?_
      exact R_nil ⟨t0, rfl, rfl, trivial⟩
    · intro T H ⟨t0, t3, h3, _⟩
      refine W_seq_seq ?_
      refine W_seq_regc (fun T H => T 0 = (V.sl (List.map cL (l))) ∧ T 3 = (V.ms 3 1 0 (0)) ∧ T 4 = (iV (0 : Int)) ∧ H 3 = (⟨1, true, true, 3, 1, []⟩ : Blk) ∧ True) ?_ ?_
      · unfold r35_2
        refine R_mv (@rfl V (iV (0 : Int))) ?_
        exact R_nil ⟨t0, t3, rfl, h3, trivial⟩
      · intro T H ⟨t0, t3, t4, h3, _⟩
        refine W_seq_blockg fun Q1 n1 x1 y1 z1 => ?_
        refine W_loop (fun mm T H => ∃ (k : Nat), mm = l.length - k ∧ T 0 = (V.sl (List.map cL (l))) ∧ T 3 = (V.ms 3 (1 + k) 0 ((cat (l.take k)).length)) ∧ T 4 = (iV ((k : Nat) : Int)) ∧ H 3 = (⟨1 + k, true, true, 3, 1, (List.map cI (cat (l.take k)))⟩ : Blk) ∧ (k ≤ l.length)) ?_ ?_
        · refine ⟨_, 0, rfl, t0, (Eq.trans t3 (by first | rfl | (rw [cat_take (by omega), List.length_append]; rfl))), (Eq.trans t4 (by first | rfl | (rw [cat_take (by omega), List.length_append]; rfl))), (Eq.trans h3 (by first | rfl | (rw [cat_take (by omega)]; rfl))), ?_⟩
          · omega
        · intro mm T H ⟨k, hmm, t0, t3, t4, h3, hk⟩ Q2 p12 p22 p32
          unfold b35_0
          refine W_seq_seq ?_
          refine W_seq_regc (fun T H => T 0 = (V.sl (List.map cL (l))) ∧ T 3 = (V.ms 3 (1 + k) 0 ((cat (l.take k)).length)) ∧ T 4 = (iV ((k : Nat) : Int)) ∧ T 8 = (V.bool (decide (((k : Nat) : Int) < ((l.length : Nat) : Int)))) ∧ H 3 = (⟨1 + k, true, true, 3, 1, (List.map cI (cat (l.take k)))⟩ : Blk) ∧ True) ?_ ?_
          · unfold r35_3
            refine R_mv t4 ?_
            refine R_mv t0 ?_
            refine R_len (@rfl V (V.sl (List.map cL (l)))) ?_
            refine R_lss (x := ((k : Nat) : Int)) (y := ((l.length : Nat) : Int)) (@rfl V (iV ((k : Nat) : Int))) (@rfl V (iV ((l.length : Nat) : Int))) ?_
            exact R_nil ⟨t0, t3, t4, rfl, h3, trivial⟩
          · intro T H ⟨t0, t3, t4, t8, h3, _⟩
            refine W_seq_if (p := ((k : Nat) : Int) < ((l.length : Nat) : Int)) t8 (fun c3 => ?_) (fun c3 => ?_)
            ·
              have hq := cat_take_le (l := l) (k := k) (by omega)
              refine W_seq_skip ?_
              refine W_seq_blockg fun Q4 n4 x4 y4 z4 => ?_
              refine W_regc (fun T H => T 0 = (V.sl (List.map cL (l))) ∧ T 3 = (V.ms 3 (1 + k + 1) 0 (((cat (l.take k)).length) + ((nth (l) (k))).length)) ∧ T 4 = (iV ((k : Nat) : Int)) ∧ H 3 = (⟨1 + k + 1, true, true, 3, 1, (List.map cI (cat (l.take k) ++ ((nth (l) (k)))))⟩ : Blk) ∧ True) ?_ ?_
              · unfold r35_5
                refine R_mv t3 ?_
                refine R_mv t0 ?_
                refine R_mv t4 ?_
                refine R_idx (i := k) (@rfl V (V.sl (List.map cL (l)))) (@rfl V (iV ((k : Nat) : Int))) (by omega) rfl ?_
                refine R_load_pp (v := (V.sl (List.map cI ((nth (l) (k)))))) (@rfl V (V.pp [(V.sl (List.map cI ((nth (l) (k)))))])) (by first | rfl | simp [ldV]) ?_
                refine R_appendS (l := (cat (l.take k))) (m := ((nth (l) (k)))) (f := cI) (@rfl V (V.ms 3 (1 + k) 0 ((cat (l.take k)).length))) h3 (by first | rfl | simp) (@rfl V (V.sl (List.map cI ((nth (l) (k)))))) (fun _ => rfl) (fun _ => rfl) (by omega) (by omega) ?_
                refine R_mv (@rfl V (V.ms 3 (1 + k + 1) 0 (((cat (l.take k)).length) + ((nth (l) (k))).length))) ?_
                exact R_nil ⟨t0, rfl, t4, rfl, trivial⟩
              · intro T H ⟨t0, t3, t4, h3, _⟩
                refine n4 _ _ ?_
                refine .done ?_
                refine W_regc (fun T H => T 0 = (V.sl (List.map cL (l))) ∧ T 3 = (V.ms 3 (1 + k + 1) 0 (((cat (l.take k)).length) + ((nth (l) (k))).length)) ∧ T 4 = (iV ((k + 1 : Nat) : Int)) ∧ H 3 = (⟨1 + k + 1, true, true, 3, 1, (List.map cI (cat (l.take k) ++ ((nth (l) (k)))))⟩ : Blk) ∧ True) ?_ ?_
                · unfold r35_4
                  refine R_mv t4 ?_
                  refine R_addN (m := k) (n := 1) (@rfl V (iV ((k : Nat) : Int))) (@rfl V (iV ((1 : Nat) : Int))) (by omega) ?_
                  refine R_mv (@rfl V (iV ((k + 1 : Nat) : Int))) ?_
                  exact R_nil ⟨t0, t3, rfl, h3, trivial⟩
                · intro T H ⟨t0, t3, t4, h3, _⟩
                  refine p12 _ _ _ ?_ ⟨(k + 1), rfl, t0, (Eq.trans t3 (by first | rfl | (rw [cat_take (by omega), List.length_append]; rfl))), (Eq.trans t4 (by first | rfl | (rw [cat_take (by omega), List.length_append]; rfl))), (Eq.trans h3 (by first | rfl | (rw [cat_take (by omega)]; rfl))), ?_⟩
                  · omega
                  · omega
            ·
              refine W_seq_exit ?_
              refine p32 _ _ _ ?_
              refine x1 _ _ ?_
              refine .done ?_
              refine W_seq_regc (fun T H => T 2 = (V.ms 3 (1 + k) 0 ((cat (l.take k)).length)) ∧ H 3 = (⟨1 + k, true, true, 3, 1, (List.map cI (cat (l.take k)))⟩ : Blk) ∧ True) ?_ ?_
              · unfold r35_6
                refine R_mv t3 ?_
                refine R_mv (@rfl V (V.ms 3 (1 + k) 0 ((cat (l.take k)).length))) ?_
                exact R_nil ⟨rfl, h3, trivial⟩
              · intro T H ⟨t2, h3, _⟩
                refine W_ret ?_
                refine Ret_1 t2 (fz_ms h3 (by first | rfl | simp) (l := (cat (l.take k))) rfl (by first | rfl | simp) (fun _ => by simp) ?_)
                · (have e : k = l.length := (by omega); subst e; rw [List.take_length])

end Go.Proofs.Ytngkckefanbhgaa

namespace Go.Proofs.Ytngkckefanbhgaa
open Go Go.Proofs

theorem rhstate_pure (h : Hy) (w : List Int) (hv : hval h = 0) : PureC Try.prog 22 [(V.agg [(iV (h.m.i)), (iV (h.m.s)), (V.sl (List.map cL (h.m.nx))), (V.sl (List.map cL (h.m.ot))), (V.sl (List.map cL (h.acc)))]), (V.sl (List.map cI (w)))] (V.tup [(V.sl (List.map cI (stW h w))), (iV (wchk w h.m.i))]) := by
  refine pure_of_Wb true 6 Try.func22 s22_ok (by kernel_rfl) (by simp [s22]) (by simp) (by simp) fun hB => ?_
  simp only [bnd_map, bnd_int, bnd_bool, bnd_str, bnd_agg, bnd_pp, bnd_nil, bnd_cons, implies_true, and_true, true_and] at hB
  unfold s22
  dsimp only
  have u1 := hval_ok hv
  have u5 := mval_ok u1.1
  refine W_seq_regc (fun T H => T 1 = (V.sl (List.map cI (w))) ∧ T 2 = (V.mp 2 1 0 0) ∧ H 2 = (⟨1, true, false, 26, 5, [[(iV (h.m.i)), (iV (h.m.s)), (V.sl (List.map cL (h.m.nx))), (V.sl (List.map cL (h.m.ot))), (V.sl (List.map cL (h.acc)))]]⟩ : Blk) ∧ True) ?_ ?_
  · unfold r22_0
    refine R_box (i := 2) (n := 0) (m := 5) (cs := [(iV (h.m.i)), (iV (h.m.s)), (V.sl (List.map cL (h.m.nx))), (V.sl (List.map cL (h.m.ot))), (V.sl (List.map cL (h.acc)))]) rfl (congrArg Blk.ver rfl) (@rfl V (V.agg [(iV (h.m.i)), (iV (h.m.s)), (V.sl (List.map cL (h.m.nx))), (V.sl (List.map cL (h.m.ot))), (V.sl (List.map cL (h.acc)))])) rfl rfl ?_
    refine R_mv (@rfl V V.nilsl) ?_
    refine R_mv (@rfl V (iV (0 : Int))) ?_
    exact R_nil ⟨rfl, rfl, rfl, trivial⟩
  · intro T H ⟨t1, t2, h2, _⟩
    refine W_seq_seq ?_
    refine W_seq_regc (fun T H => T 1 = (V.sl (List.map cI (w))) ∧ T 2 = (V.mp 2 1 0 0) ∧ T 6 = (iV (wchk w ((h.m.i)))) ∧ H 2 = (⟨1, true, false, 26, 5, [[(iV (h.m.i)), (iV (h.m.s)), (V.sl (List.map cL (h.m.nx))), (V.sl (List.map cL (h.m.ot))), (V.sl (List.map cL (h.acc)))]]⟩ : Blk) ∧ True) ?_ ?_
    · unfold r22_1
      refine R_mv t1 ?_
      refine R_fld_mp (o' := 0) t2 h2 (by first | rfl | simp [okB, Blk.own]) rfl ?_
      refine R_fld_mp (o' := 0) (@rfl V (V.mp 2 1 0 0)) h2 (by first | rfl | simp [okB, Blk.own]) rfl ?_
      refine R_load_mp (v := (iV (h.m.i))) (@rfl V (V.mp 2 1 0 0)) h2 (by first | rfl | simp [ldB, ldV, Blk.own, V.one]) ?_
      refine R_call (evcons (@rfl V (V.sl (List.map cI (w)))) (evcons (@rfl V (iV (h.m.i))) evnil)) (rcheck_pure w ((h.m.i))) (fzv_mapcanon _ _ (by simp [-List.map_take, -List.map_drop, -List.map_append, -List.map_reverse])) (by simp [-List.map_take, -List.map_drop, -List.map_append, -List.map_reverse]) (Or.inl (by simp [-List.map_take, -List.map_drop, -List.map_append, -List.map_reverse])) ?_
      refine R_mv (@rfl V (iV (wchk w ((h.m.i))))) ?_
      exact R_nil ⟨t1, t2, rfl, h2, trivial⟩
    · intro T H ⟨t1, t2, t6, h2, _⟩
      refine W_seq_seq ?_
      refine W_seq_regc (fun T H => T 1 = (V.sl (List.map cI (w))) ∧ T 2 = (V.mp 2 1 0 0) ∧ T 6 = (iV (wchk w ((h.m.i)))) ∧ T 15 = (V.bool (decide ((wchk w ((h.m.i))) ≠ (0 : Int)))) ∧ H 2 = (⟨1, true, false, 26, 5, [[(iV (h.m.i)), (iV (h.m.s)), (V.sl (List.map cL (h.m.nx))), (V.sl (List.map cL (h.m.ot))), (V.sl (List.map cL (h.acc)))]]⟩ : Blk) ∧ True) ?_ ?_
      · unfold r22_2
        refine R_mv t6 ?_
        refine R_neq (x := (wchk w ((h.m.i)))) (y := (0 : Int)) (@rfl V (iV (wchk w ((h.m.i))))) (@rfl V (iV (0 : Int))) ?_
        exact R_nil ⟨t1, t2, t6, rfl, h2, trivial⟩
      · intro T H ⟨t1, t2, t6, t15, h2, _⟩
        refine W_seq_if (p := (wchk w ((h.m.i))) ≠ (0 : Int)) t15 (fun c1 => ?_) (fun c1 => ?_)
        ·
          refine W_seq_seq ?_
          refine W_seq_regc (fun T H => T 4 = V.nilsl ∧ T 5 = (iV (wchk w ((h.m.i)))) ∧ H 2 = (⟨1, true, false, 26, 5, [[(iV (h.m.i)), (iV (h.m.s)), (V.sl (List.map cL (h.m.nx))), (V.sl (List.map cL (h.m.ot))), (V.sl (List.map cL (h.acc)))]]⟩ : Blk) ∧ True) ?_ ?_
          · unfold r22_3
            refine R_mv t6 ?_
            refine R_mv (@rfl V V.nilsl) ?_
            refine R_mv (@rfl V (iV (wchk w ((h.m.i))))) ?_
            exact R_nil ⟨rfl, rfl, h2, trivial⟩
          · intro T H ⟨t4, t5, h2, _⟩
            refine W_seq_ret ?_
            refine Ret_2 t4 t5 (fz_nil ?_) (fz_int ?_)
            · rw [stW, if_pos (by omega)]
            · omega
        ·
          have u3 := frE_ok (w := w) u1.1 (by omega)
          have u4 := wchk_ok (u1.2.2 (goal h.m h.m.s w).toNat (by omega)).1
          have u6 := wchk_ok (w := w) (n := h.m.i) (by omega)
          refine W_seq_skip ?_
          refine W_seq_regc (fun T H => T 2 = (V.mp 2 1 0 0) ∧ T 8 = (iV (goal h.m ((h.m.s)) w)) ∧ H 2 = (⟨1, true, false, 26, 5, [[(iV (h.m.i)), (iV (h.m.s)), (V.sl (List.map cL (h.m.nx))), (V.sl (List.map cL (h.m.ot))), (V.sl (List.map cL (h.acc)))]]⟩ : Blk) ∧ True) ?_ ?_
          · unfold r22_4
            refine R_fld_mp (o' := 0) t2 h2 (by first | rfl | simp [okB, Blk.own]) rfl ?_
            refine R_load_mp (v := (V.agg [(iV (h.m.i)), (iV (h.m.s)), (V.sl (List.map cL (h.m.nx))), (V.sl (List.map cL (h.m.ot)))])) (@rfl V (V.mp 2 1 0 0)) h2 (by first | rfl | simp [ldB, ldV, Blk.own, V.one]) ?_
            refine R_fld_mp (o' := 0) t2 h2 (by first | rfl | simp [okB, Blk.own]) rfl ?_
            refine R_fld_mp (o' := 1) (@rfl V (V.mp 2 1 0 0)) h2 (by first | rfl | simp [okB, Blk.own]) rfl ?_
            refine R_load_mp (v := (iV (h.m.s))) (@rfl V (V.mp 2 1 0 1)) h2 (by first | rfl | simp [ldB, ldV, Blk.own, V.one]) ?_
            refine R_mv t1 ?_
            refine R_call (evcons (@rfl V (V.agg [(iV (h.m.i)), (iV (h.m.s)), (V.sl (List.map cL (h.m.nx))), (V.sl (List.map cL (h.m.ot)))])) (evcons (@rfl V (iV (h.m.s))) (evcons (@rfl V (V.sl (List.map cI (w)))) evnil))) (outs_pure h.m ((h.m.s)) w u1.1 ⟨u5.2.2.2.2.1, u5.2.2.2.2.2.1⟩ u6.1 u6.2) (fzv_mapcanon _ _ (by simp [-List.map_take, -List.map_drop, -List.map_append, -List.map_reverse])) (by simp [-List.map_take, -List.map_drop, -List.map_append, -List.map_reverse]) (Or.inl (by simp [-List.map_take, -List.map_drop, -List.map_append, -List.map_reverse])) ?_
            refine R_mv (@rfl V (V.tup [(V.sl (List.map cI (outs h.m ((h.m.s)) w))), (iV (goal h.m ((h.m.s)) w))])) ?_
            refine R_ext (v := (V.sl (List.map cI (outs h.m ((h.m.s)) w)))) (@rfl V (V.tup [(V.sl (List.map cI (outs h.m ((h.m.s)) w))), (iV (goal h.m ((h.m.s)) w))])) rfl ?_
            refine R_ext (v := (iV (goal h.m ((h.m.s)) w))) (@rfl V (V.tup [(V.sl (List.map cI (outs h.m ((h.m.s)) w))), (iV (goal h.m ((h.m.s)) w))])) rfl ?_
            refine R_mv (@rfl V (V.sl (List.map cI (outs h.m ((h.m.s)) w)))) ?_
            refine R_mv (@rfl V (iV (goal h.m ((h.m.s)) w))) ?_
            exact R_nil ⟨t2, rfl, h2, trivial⟩
          · intro T H ⟨t2, t8, h2, _⟩
            refine W_seq_regc (fun T H => T 4 = (V.sl (List.map cI (cat ([(nth (h.acc) (goal h.m ((h.m.s)) w).toNat)])))) ∧ T 5 = (iV (0 : Int)) ∧ H 2 = (⟨1, true, false, 26, 5, [[(iV (h.m.i)), (iV (h.m.s)), (V.sl (List.map cL (h.m.nx))), (V.sl (List.map cL (h.m.ot))), (V.sl (List.map cL (h.acc)))]]⟩ : Blk) ∧ True) ?_ ?_
            · unfold r22_5
              refine R_fld_mp (o' := 4) t2 h2 (by first | rfl | simp [okB, Blk.own]) rfl ?_
              refine R_load_mp (v := (V.sl (List.map cL (h.acc)))) (@rfl V (V.mp 2 1 0 4)) h2 (by first | rfl | simp [ldB, ldV, Blk.own, V.one]) ?_
              refine R_mv t8 ?_
              refine R_idxI (i := (goal h.m ((h.m.s)) w)) (@rfl V (V.sl (List.map cL (h.acc)))) (@rfl V (iV (goal h.m ((h.m.s)) w))) (by omega) (by omega) rfl ?_
              refine R_load_pp (v := (V.sl (List.map cI ((nth (h.acc) (goal h.m ((h.m.s)) w).toNat))))) (@rfl V (V.pp [(V.sl (List.map cI ((nth (h.acc) (goal h.m ((h.m.s)) w).toNat))))])) (by first | rfl | simp [ldV]) ?_
              refine R_bslice (qs := [(0, (V.sl (List.map cI ((nth (h.acc) (goal h.m ((h.m.s)) w).toNat)))))]) (rows := [[(V.sl (List.map cI ((nth (h.acc) (goal h.m ((h.m.s)) w).toNat))))]]) (mcons (congrArg (fun v => (0, v)) (@rfl V (V.sl (List.map cI ((nth (h.acc) (goal h.m ((h.m.s)) w).toNat)))))) rfl) rfl ?_
              refine R_call (evcons (@rfl V (V.sl [[(V.sl (List.map cI ((nth (h.acc) (goal h.m ((h.m.s)) w).toNat))))]])) evnil) (join_pure ([(nth (h.acc) (goal h.m ((h.m.s)) w).toNat)]) (by simp [cat]; omega)) (fzv_mapcanon _ _ (by simp [-List.map_take, -List.map_drop, -List.map_append, -List.map_reverse])) (by simp [-List.map_take, -List.map_drop, -List.map_append, -List.map_reverse]) (Or.inl (by simp [-List.map_take, -List.map_drop, -List.map_append, -List.map_reverse])) ?_
              refine R_mv (@rfl V (V.sl (List.map cI (cat ([(nth (h.acc) (goal h.m ((h.m.s)) w).toNat)]))))) ?_
              refine R_mv (@rfl V (iV (0 : Int))) ?_
              exact R_nil ⟨rfl, rfl, h2, trivial⟩
            · intro T H ⟨t4, t5, h2, _⟩
              refine W_ret ?_
              refine Ret_2 t4 t5 (fz_sl ?_ (fun _ => by simp)) (fz_int ?_)
              · rw [stW, if_neg (by omega)]; simp [cat]
              · omega

end Go.Proofs.Ytngkckefanbhgaa

namespace Go.Proofs.Ytngkckefanbhgaa
open Go Go.Proofs

theorem mrun_pure (m : M) (w : List Int) : PureC Try.prog 37 [(V.agg [(iV (m.i)), (iV (m.s)), (V.sl (List.map cL (m.nx))), (V.sl (List.map cL (m.ot)))]), (V.sl (List.map cI (w)))] (V.tup [(V.sl (List.map cI (frOut m m.s w))), (iV (frE m m.s w))]) := by
  refine pure_of_Wb true 6 Try.func37 s37_ok (by kernel_rfl) (by simp [s37]) (by simp) (by simp) fun hB => ?_
  simp only [bnd_map, bnd_int, bnd_bool, bnd_str, bnd_agg, bnd_pp, bnd_nil, bnd_cons, implies_true, and_true, true_and] at hB
  unfold s37
  dsimp only
  refine W_seq_regc (fun T H => T 1 = (V.sl (List.map cI (w))) ∧ T 2 = (V.mp 2 1 0 0) ∧ H 2 = (⟨1, true, false, 24, 4, [[(iV (m.i)), (iV (m.s)), (V.sl (List.map cL (m.nx))), (V.sl (List.map cL (m.ot)))]]⟩ : Blk) ∧ True) ?_ ?_
  · unfold r37_0
    refine R_box (i := 2) (n := 0) (m := 4) (cs := [(iV (m.i)), (iV (m.s)), (V.sl (List.map cL (m.nx))), (V.sl (List.map cL (m.ot)))]) rfl (congrArg Blk.ver rfl) (@rfl V (V.agg [(iV (m.i)), (iV (m.s)), (V.sl (List.map cL (m.nx))), (V.sl (List.map cL (m.ot)))])) rfl rfl ?_
    refine R_mv (@rfl V V.nilsl) ?_
    refine R_mv (@rfl V (iV (0 : Int))) ?_
    exact R_nil ⟨rfl, rfl, rfl, trivial⟩
  · intro T H ⟨t1, t2, h2, _⟩
    refine W_seq_regc (fun T H => T 6 = (V.sl (List.map cI (frOut m ((m.s)) w))) ∧ T 8 = (iV (frE m ((m.s)) w)) ∧ H 2 = (⟨1, true, false, 24, 4, [[(iV (m.i)), (iV (m.s)), (V.sl (List.map cL (m.nx))), (V.sl (List.map cL (m.ot)))]]⟩ : Blk) ∧ True) ?_ ?_
    · unfold r37_1
      refine R_load_mp (v := (V.agg [(iV (m.i)), (iV (m.s)), (V.sl (List.map cL (m.nx))), (V.sl (List.map cL (m.ot)))])) t2 h2 (by first | rfl | simp [ldB, ldV, Blk.own, V.one]) ?_
      refine R_fld_mp (o' := 1) t2 h2 (by first | rfl | simp [okB, Blk.own]) rfl ?_
      refine R_load_mp (v := (iV (m.s))) (@rfl V (V.mp 2 1 0 1)) h2 (by first | rfl | simp [ldB, ldV, Blk.own, V.one]) ?_
      refine R_mv t1 ?_
      refine R_call (evcons (@rfl V (V.agg [(iV (m.i)), (iV (m.s)), (V.sl (List.map cL (m.nx))), (V.sl (List.map cL (m.ot)))])) (evcons (@rfl V (iV (m.s))) (evcons (@rfl V (V.sl (List.map cI (w)))) evnil))) (from_pure m ((m.s)) w) (fzv_mapcanon _ _ (by simp [-List.map_take, -List.map_drop, -List.map_append, -List.map_reverse])) (by simp [-List.map_take, -List.map_drop, -List.map_append, -List.map_reverse]) (Or.inl (by simp [-List.map_take, -List.map_drop, -List.map_append, -List.map_reverse])) ?_
      refine R_mv (@rfl V (V.tup [(V.sl (List.map cI (frOut m ((m.s)) w))), (iV (frEnd m ((m.s)) w)), (iV (frE m ((m.s)) w))])) ?_
      refine R_ext (v := (V.sl (List.map cI (frOut m ((m.s)) w)))) (@rfl V (V.tup [(V.sl (List.map cI (frOut m ((m.s)) w))), (iV (frEnd m ((m.s)) w)), (iV (frE m ((m.s)) w))])) rfl ?_
      refine R_ext (v := (iV (frEnd m ((m.s)) w))) (@rfl V (V.tup [(V.sl (List.map cI (frOut m ((m.s)) w))), (iV (frEnd m ((m.s)) w)), (iV (frE m ((m.s)) w))])) rfl ?_
      refine R_ext (v := (iV (frE m ((m.s)) w))) (@rfl V (V.tup [(V.sl (List.map cI (frOut m ((m.s)) w))), (iV (frEnd m ((m.s)) w)), (iV (frE m ((m.s)) w))])) rfl ?_
      refine R_mv (@rfl V (V.sl (List.map cI (frOut m ((m.s)) w)))) ?_
      refine R_mv (@rfl V (iV (frEnd m ((m.s)) w))) ?_
      refine R_mv (@rfl V (iV (frE m ((m.s)) w))) ?_
      exact R_nil ⟨rfl, rfl, h2, trivial⟩
    · intro T H ⟨t6, t8, h2, _⟩
      refine W_seq_regc (fun T H => T 4 = (V.sl (List.map cI (frOut m ((m.s)) w))) ∧ T 5 = (iV (frE m ((m.s)) w)) ∧ H 2 = (⟨1, true, false, 24, 4, [[(iV (m.i)), (iV (m.s)), (V.sl (List.map cL (m.nx))), (V.sl (List.map cL (m.ot)))]]⟩ : Blk) ∧ True) ?_ ?_
      · unfold r37_2
        refine R_mv t6 ?_
        refine R_mv t8 ?_
        refine R_mv (@rfl V (V.sl (List.map cI (frOut m ((m.s)) w)))) ?_
        refine R_mv (@rfl V (iV (frE m ((m.s)) w))) ?_
        exact R_nil ⟨rfl, rfl, h2, trivial⟩
      · intro T H ⟨t4, t5, h2, _⟩
        refine W_ret ?_
        refine Ret_2 t4 t5 (fz_sl ?_ (fun _ => by simp)) (fz_int ?_)
        · rfl
        · rfl

end Go.Proofs.Ytngkckefanbhgaa

namespace Go.Proofs.Ytngkckefanbhgaa
open Go Go.Proofs

theorem hdiffer_pure (a b : List Int) : PureC Try.prog 64 [(V.sl (List.map cI (a))), (V.sl (List.map cI (b)))] (V.tup [(iV ((difn a b : Nat) : Int)), (V.bool (decide (cmn a b < min a.length b.length)))]) := by
  refine pure_of_Wb true 6 Try.func64 s64_ok (by kernel_rfl) (by simp [s64]) (by simp) (by simp) fun hB => ?_
  simp only [bnd_map, bnd_int, bnd_bool, bnd_str, bnd_agg, bnd_pp, bnd_nil, bnd_cons, implies_true, and_true, true_and] at hB
  unfold s64
  dsimp only
  refine W_seq_regc (fun T H => T 0 = (V.sl (List.map cI (a))) ∧ T 1 = (V.sl (List.map cI (b))) ∧ True) ?_ ?_
  · unfold r64_0
    refine R_mv (@rfl V (iV (0 : Int))) ?_
    refine R_mv (@rfl V (V.bool false)) ?_
    exact R_nil ⟨rfl, rfl, trivial⟩
  · intro T H ⟨t0, t1, _⟩
    refine W_seq_seq ?_
    refine W_seq_regc (fun T H => T 0 = (V.sl (List.map cI (a))) ∧ T 1 = (V.sl (List.map cI (b))) ∧ T 11 = (iV ((min a.length b.length : Nat) : Int)) ∧ T 12 = (iV (0 : Int)) ∧ True) ?_ ?_
    · unfold r64_1
      refine R_mv t0 ?_
      refine R_len (@rfl V (V.sl (List.map cI (a)))) ?_
      refine R_mv t1 ?_
      refine R_len (@rfl V (V.sl (List.map cI (b)))) ?_
      refine R_mnN (m := a.length) (n := b.length) (@rfl V (iV ((a.length : Nat) : Int))) (@rfl V (iV ((b.length : Nat) : Int))) ?_
      refine R_mv (@rfl V (iV (0 : Int))) ?_
      exact R_nil ⟨t0, t1, rfl, rfl, trivial⟩
    · intro T H ⟨t0, t1, t11, t12, _⟩
      refine W_seq_blockg fun Q1 n1 x1 y1 z1 => ?_
      refine W_loop (fun mm T H => ∃ (k : Nat), mm = (min a.length b.length) - k ∧ T 0 = (V.sl (List.map cI (a))) ∧ T 1 = (V.sl (List.map cI (b))) ∧ T 11 = (iV ((min a.length b.length : Nat) : Int)) ∧ T 12 = (iV ((k : Nat) : Int)) ∧ (k ≤ min a.length b.length) ∧ (k ≤ cmn a b)) ?_ ?_
      · refine ⟨_, 0, rfl, t0, t1, t11, (Eq.trans t12 (by first | rfl | simp)), ?_, ?_⟩
        · omega
        · exact Nat.zero_le _
      · intro mm T H ⟨k, hmm, t0, t1, t11, t12, hk, hc⟩ Q2 p12 p22 p32
        unfold b64_0
        refine W_seq_regc (fun T H => T 0 = (V.sl (List.map cI (a))) ∧ T 1 = (V.sl (List.map cI (b))) ∧ T 11 = (iV ((min a.length b.length : Nat) : Int)) ∧ T 12 = (iV ((k : Nat) : Int)) ∧ T 13 = (V.bool (decide (((k : Nat) : Int) < ((min a.length b.length : Nat) : Int)))) ∧ True) ?_ ?_
        · unfold r64_2
          refine R_lss (x := ((k : Nat) : Int)) (y := ((min a.length b.length : Nat) : Int)) t12 t11 ?_
          exact R_nil ⟨t0, t1, t11, t12, rfl, trivial⟩
        · intro T H ⟨t0, t1, t11, t12, t13, _⟩
          refine W_seq_if (p := ((k : Nat) : Int) < ((min a.length b.length : Nat) : Int)) t13 (fun c3 => ?_) (fun c3 => ?_)
          ·
            refine W_seq_skip ?_
            refine W_seq_blockg fun Q4 n4 x4 y4 z4 => ?_
            refine W_seq_regc (fun T H => T 0 = (V.sl (List.map cI (a))) ∧ T 1 = (V.sl (List.map cI (b))) ∧ T 6 = (iV ((k : Nat) : Int)) ∧ T 11 = (iV ((min a.length b.length : Nat) : Int)) ∧ T 12 = (iV ((k : Nat) : Int)) ∧ True) ?_ ?_
            · unfold r64_3
              refine R_mv t12 ?_
              refine R_mv (@rfl V (iV ((k : Nat) : Int))) ?_
              exact R_nil ⟨t0, t1, rfl, t11, t12, trivial⟩
            · intro T H ⟨t0, t1, t6, t11, t12, _⟩
              refine W_seq_regc (fun T H => T 0 = (V.sl (List.map cI (a))) ∧ T 1 = (V.sl (List.map cI (b))) ∧ T 6 = (iV ((k : Nat) : Int)) ∧ T 11 = (iV ((min a.length b.length : Nat) : Int)) ∧ T 12 = (iV ((k : Nat) : Int)) ∧ T 23 = (V.bool (decide (((nth (a) (k))) ≠ ((nth (b) (k)))))) ∧ True) ?_ ?_
              · unfold r64_4
                refine R_mv t0 ?_
                refine R_mv t6 ?_
                refine R_idx (i := k) (@rfl V (V.sl (List.map cI (a)))) (@rfl V (iV ((k : Nat) : Int))) (by omega) rfl ?_
                refine R_load_pp (v := (iV ((nth (a) (k))))) (@rfl V (V.pp [(iV ((nth (a) (k))))])) (by first | rfl | simp [ldV]) ?_
                refine R_mv t1 ?_
                refine R_mv t6 ?_
                refine R_idx (i := k) (@rfl V (V.sl (List.map cI (b)))) (@rfl V (iV ((k : Nat) : Int))) (by omega) rfl ?_
                refine R_load_pp (v := (iV ((nth (b) (k))))) (@rfl V (V.pp [(iV ((nth (b) (k))))])) (by first | rfl | simp [ldV]) ?_
                refine R_neq (x := ((nth (a) (k)))) (y := ((nth (b) (k)))) (@rfl V (iV ((nth (a) (k))))) (@rfl V (iV ((nth (b) (k))))) ?_
                exact R_nil ⟨t0, t1, t6, t11, t12, rfl, trivial⟩
              · intro T H ⟨t0, t1, t6, t11, t12, t23, _⟩
                refine W_if (p := ((nth (a) (k))) ≠ ((nth (b) (k)))) t23 (fun c5 => ?_) (fun c5 => ?_)
                ·
                  refine W_seq_regc (fun T H => T 4 = (iV ((k : Nat) : Int)) ∧ T 5 = (V.bool true) ∧ True) ?_ ?_
                  · unfold r64_5
                    refine R_mv t6 ?_
                    refine R_mv (@rfl V (iV ((k : Nat) : Int))) ?_
                    refine R_mv (@rfl V (V.bool true)) ?_
                    exact R_nil ⟨rfl, rfl, trivial⟩
                  · intro T H ⟨t4, t5, _⟩
                    refine W_ret ?_
                    refine y4 _ _ ?_
                    refine p22 _ _ ?_
                    refine y1 _ _ ?_
                    refine Ret_2 t4 t5 (fz_int ?_) (fz_bool ?_)
                    · rw [difn, cmn_at hc (by omega), if_pos (by omega)]
                    · exact (decide_eq_true (by rw [cmn_at hc (by omega)]; omega)).symm
                ·
                  refine W_skip ?_
                  refine n4 _ _ ?_
                  refine .done ?_
                  refine W_regc (fun T H => T 0 = (V.sl (List.map cI (a))) ∧ T 1 = (V.sl (List.map cI (b))) ∧ T 11 = (iV ((min a.length b.length : Nat) : Int)) ∧ T 12 = (iV ((k + 1 : Nat) : Int)) ∧ True) ?_ ?_
                  · unfold r64_6
                    refine R_addN (m := k) (n := 1) t12 (@rfl V (iV ((1 : Nat) : Int))) (by omega) ?_
                    refine R_mv (@rfl V (iV ((k + 1 : Nat) : Int))) ?_
                    exact R_nil ⟨t0, t1, t11, rfl, trivial⟩
                  · intro T H ⟨t0, t1, t11, t12, _⟩
                    refine p12 _ _ _ ?_ ⟨(k + 1), rfl, t0, t1, t11, (Eq.trans t12 (by first | rfl | simp)), ?_, ?_⟩
                    · omega
                    · omega
                    · exact cmn_next hc (by omega) (by omega) (by omega)
          ·
            refine W_seq_exit ?_
            refine p32 _ _ _ ?_
            refine x1 _ _ ?_
            refine .done ?_
            refine W_seq_regc (fun T H => T 4 = (iV (0 : Int)) ∧ T 5 = (V.bool false) ∧ True) ?_ ?_
            · unfold r64_7
              refine R_mv (@rfl V (iV (0 : Int))) ?_
              refine R_mv (@rfl V (V.bool false)) ?_
              exact R_nil ⟨rfl, rfl, trivial⟩
            · intro T H ⟨t4, t5, _⟩
              refine W_ret ?_
              refine Ret_2 t4 t5 (fz_int ?_) (fz_bool ?_)
              · rw [difn, cmn_at hc (by omega), if_neg (by omega)]; rfl
              · exact (decide_eq_false (by rw [cmn_at hc (by omega)]; omega)).symm

end Go.Proofs.Ytngkckefanbhgaa

namespace Go.Proofs.Ytngkckefanbhgaa
open Go Go.Proofs

theorem cmpor_pure (l : List Int) (hl : l.length < 4294967296) : PureC Try.prog 99 [(V.sl (List.map cI (l)))] (iV (orI l)) := by
  refine pure_of_Wb true 6 Try.func99 s99_ok (by kernel_rfl) (by simp [s99]) (by simp) (by simp) fun hB => ?_
  simp only [bnd_map, bnd_int, bnd_bool, bnd_str, bnd_agg, bnd_pp, bnd_nil, bnd_cons, implies_true, and_true, true_and] at hB
  unfold s99
  dsimp only
  refine W_seq_regc (fun T H => T 0 = (V.sl (List.map cI (l))) ∧ True) ?_ ?_
  · unfold r99_0
    refine R_mv (@rfl V (iV (0 : Int))) ?_
    exact R_nil ⟨rfl, trivial⟩
  · intro T H ⟨t0, _⟩
    refine W_seq_regc (fun T H => T 0 = (V.sl (List.map cI (l))) ∧ T 3 = (iV (0 : Int)) ∧ True) ?_ ?_
    · unfold r99_1
      refine R_mv (@rfl V (iV (0 : Int))) ?_
      exact R_nil ⟨t0, rfl, trivial⟩
    · intro T H ⟨t0, t3, _⟩
      refine W_seq_seq ?_
      refine W_seq_regc (fun T H => T 3 = (iV (0 : Int)) ∧ T 6 = (V.sl (List.map cI (l))) ∧ T 7 = (iV ((l.length : Nat) : Int)) ∧ T 8 = (iV (0 : Int)) ∧ True) ?_ ?_
      · unfold r99_2
        refine R_mv t0 ?_
        refine R_len (@rfl V (V.sl (List.map cI (l)))) ?_
        refine R_mv (@rfl V (iV (0 : Int))) ?_
        exact R_nil ⟨t3, rfl, rfl, rfl, trivial⟩
      · intro T H ⟨t3, t6, t7, t8, _⟩
        refine W_seq_blockg fun Q1 n1 x1 y1 z1 => ?_
        refine W_loop (fun mm T H => ∃ (k : Nat), mm = l.length - k ∧ T 3 = (iV (0 : Int)) ∧ T 6 = (V.sl (List.map cI (l))) ∧ T 7 = (iV ((l.length : Nat) : Int)) ∧ T 8 = (iV ((k : Nat) : Int)) ∧ (k ≤ l.length) ∧ (orI l = orI (l.drop k))) ?_ ?_
        · refine ⟨_, 0, rfl, t3, t6, t7, (Eq.trans t8 (by first | rfl | simp)), ?_, ?_⟩
          · omega
          · rfl
        · intro mm T H ⟨k, hmm, t3, t6, t7, t8, hk, hc⟩ Q2 p12 p22 p32
          unfold b99_0
          refine W_seq_regc (fun T H => T 3 = (iV (0 : Int)) ∧ T 6 = (V.sl (List.map cI (l))) ∧ T 7 = (iV ((l.length : Nat) : Int)) ∧ T 8 = (iV ((k : Nat) : Int)) ∧ T 9 = (V.bool (decide (((k : Nat) : Int) < ((l.length : Nat) : Int)))) ∧ True) ?_ ?_
          · unfold r99_3
            refine R_lss (x := ((k : Nat) : Int)) (y := ((l.length : Nat) : Int)) t8 t7 ?_
            exact R_nil ⟨t3, t6, t7, t8, rfl, trivial⟩
          · intro T H ⟨t3, t6, t7, t8, t9, _⟩
            refine W_seq_if (p := ((k : Nat) : Int) < ((l.length : Nat) : Int)) t9 (fun c3 => ?_) (fun c3 => ?_)
            ·
              refine W_seq_skip ?_
              refine W_seq_blockg fun Q4 n4 x4 y4 z4 => ?_
              refine W_seq_regc (fun T H => T 3 = (iV (0 : Int)) ∧ T 5 = (iV ((nth (l) (k)))) ∧ T 6 = (V.sl (List.map cI (l))) ∧ T 7 = (iV ((l.length : Nat) : Int)) ∧ T 8 = (iV ((k : Nat) : Int)) ∧ True) ?_ ?_
              · unfold r99_4
                refine R_idx (i := k) t6 t8 (by omega) rfl ?_
                refine R_load_pp (v := (iV ((nth (l) (k))))) (@rfl V (V.pp [(iV ((nth (l) (k))))])) (by first | rfl | simp [ldV]) ?_
                refine R_mv (@rfl V (iV ((nth (l) (k))))) ?_
                exact R_nil ⟨t3, rfl, t6, t7, t8, trivial⟩
              · intro T H ⟨t3, t5, t6, t7, t8, _⟩
                refine W_seq_regc (fun T H => T 3 = (iV (0 : Int)) ∧ T 5 = (iV ((nth (l) (k)))) ∧ T 6 = (V.sl (List.map cI (l))) ∧ T 7 = (iV ((l.length : Nat) : Int)) ∧ T 8 = (iV ((k : Nat) : Int)) ∧ T 14 = (V.bool (decide (((nth (l) (k))) ≠ (0 : Int)))) ∧ True) ?_ ?_
                · unfold r99_5
                  refine R_mv t5 ?_
                  refine R_mv t3 ?_
                  refine R_neq (x := ((nth (l) (k)))) (y := (0 : Int)) (@rfl V (iV ((nth (l) (k))))) (@rfl V (iV (0 : Int))) ?_
                  exact R_nil ⟨t3, t5, t6, t7, t8, rfl, trivial⟩
                · intro T H ⟨t3, t5, t6, t7, t8, t14, _⟩
                  refine W_if (p := ((nth (l) (k))) ≠ (0 : Int)) t14 (fun c5 => ?_) (fun c5 => ?_)
                  ·
                    refine W_seq_regc (fun T H => T 2 = (iV ((nth (l) (k)))) ∧ True) ?_ ?_
                    · unfold r99_6
                      refine R_mv t5 ?_
                      refine R_mv (@rfl V (iV ((nth (l) (k))))) ?_
                      exact R_nil ⟨rfl, trivial⟩
                    · intro T H ⟨t2, _⟩
                      refine W_ret ?_
                      refine y4 _ _ ?_
                      refine p22 _ _ ?_
                      refine y1 _ _ ?_
                      refine Ret_1 t2 (fz_int ?_)
                      · rw [hc, orI_drop (by omega), if_neg (by omega)]
                  ·
                    refine W_skip ?_
                    refine n4 _ _ ?_
                    refine .done ?_
                    refine W_regc (fun T H => T 3 = (iV (0 : Int)) ∧ T 6 = (V.sl (List.map cI (l))) ∧ T 7 = (iV ((l.length : Nat) : Int)) ∧ T 8 = (iV ((k + 1 : Nat) : Int)) ∧ True) ?_ ?_
                    · unfold r99_7
                      refine R_addN (m := k) (n := 1) t8 (@rfl V (iV ((1 : Nat) : Int))) (by omega) ?_
                      refine R_mv (@rfl V (iV ((k + 1 : Nat) : Int))) ?_
                      exact R_nil ⟨t3, t6, t7, rfl, trivial⟩
                    · intro T H ⟨t3, t6, t7, t8, _⟩
                      refine p12 _ _ _ ?_ ⟨(k + 1), rfl, t3, t6, t7, (Eq.trans t8 (by first | rfl | simp)), ?_, ?_⟩
                      · omega
                      · omega
                      · rw [hc, orI_drop (by omega), if_pos (by omega)]
            ·
              refine W_seq_exit ?_
              refine p32 _ _ _ ?_
              refine x1 _ _ ?_
              refine .done ?_
              refine W_seq_regc (fun T H => T 2 = (iV (0 : Int)) ∧ True) ?_ ?_
              · unfold r99_8
                refine R_mv t3 ?_
                refine R_mv (@rfl V (iV (0 : Int))) ?_
                exact R_nil ⟨rfl, trivial⟩
              · intro T H ⟨t2, _⟩
                refine W_ret ?_
                refine Ret_1 t2 (fz_int ?_)
                · rw [hc, List.drop_of_length_le (by omega)]; rfl

end Go.Proofs.Ytngkckefanbhgaa

namespace Go.Proofs.Ytngkckefanbhgaa
open Go Go.Proofs

theorem isnan_pure (n : Int) : PureC Try.prog 114 [(iV (n))] (V.bool false) := by
  refine pure_of_Wb true 6 Try.func114 s114_ok (by kernel_rfl) (by simp [s114]) (by simp) (by simp) fun hB => ?_
  simp only [bnd_map, bnd_int, bnd_bool, bnd_str, bnd_agg, bnd_pp, bnd_nil, bnd_cons, implies_true, and_true, true_and] at hB
  unfold s114
  dsimp only
  refine W_seq_regc (fun T H => T 0 = (iV (n)) ∧ True) ?_ ?_
  · unfold r114_0
    refine R_mv (@rfl V (V.bool false)) ?_
    exact R_nil ⟨rfl, trivial⟩
  · intro T H ⟨t0, _⟩
    refine W_seq_regc (fun T H => T 2 = (V.bool (decide ((n) ≠ (n)))) ∧ True) ?_ ?_
    · unfold r114_1
      refine R_mv t0 ?_
      refine R_mv t0 ?_
      refine R_neq (x := (n)) (y := (n)) (@rfl V (iV (n))) (@rfl V (iV (n))) ?_
      refine R_mv (@rfl V (V.bool (decide ((n) ≠ (n))))) ?_
      exact R_nil ⟨rfl, trivial⟩
    · intro T H ⟨t2, _⟩
      refine W_ret ?_
      refine Ret_1 t2 (fz_bool ?_)
      · simp

end Go.Proofs.Ytngkckefanbhgaa

namespace Go.Proofs.Ytngkckefanbhgaa
open Go Go.Proofs

theorem cmpint_pure (x y : Int) : PureC Try.prog 100 [(iV (x)), (iV (y))] (iV (cmpI x y)) := by
  refine pure_of_Wb true 6 Try.func100 s100_ok (by kernel_rfl) (by simp [s100]) (by simp) (by simp) fun hB => ?_
  simp only [bnd_map, bnd_int, bnd_bool, bnd_str, bnd_agg, bnd_pp, bnd_nil, bnd_cons, implies_true, and_true, true_and] at hB
  unfold s100
  dsimp only
  refine W_seq_regc (fun T H => T 0 = (iV (x)) ∧ T 1 = (iV (y)) ∧ True) ?_ ?_
  · unfold r100_0
    refine R_mv (@rfl V (iV (0 : Int))) ?_
    exact R_nil ⟨rfl, rfl, trivial⟩
  · intro T H ⟨t0, t1, _⟩
    refine W_seq_regc (fun T H => T 0 = (iV (x)) ∧ T 1 = (iV (y)) ∧ T 5 = (V.bool false) ∧ True) ?_ ?_
    · unfold r100_1
      refine R_mv t0 ?_
      refine R_call (evcons (@rfl V (iV (x))) evnil) (isnan_pure ((x))) (fzv_mapcanon _ _ (by simp [-List.map_take, -List.map_drop, -List.map_append, -List.map_reverse])) (by simp [-List.map_take, -List.map_drop, -List.map_append, -List.map_reverse]) (Or.inl (by simp [-List.map_take, -List.map_drop, -List.map_append, -List.map_reverse])) ?_
      refine R_mv (@rfl V (V.bool false)) ?_
      exact R_nil ⟨t0, t1, rfl, trivial⟩
    · intro T H ⟨t0, t1, t5, _⟩
      refine W_seq_regc (fun T H => T 0 = (iV (x)) ∧ T 1 = (iV (y)) ∧ T 5 = (V.bool false) ∧ T 6 = (V.bool false) ∧ True) ?_ ?_
      · unfold r100_2
        refine R_mv t1 ?_
        refine R_call (evcons (@rfl V (iV (y))) evnil) (isnan_pure ((y))) (fzv_mapcanon _ _ (by simp [-List.map_take, -List.map_drop, -List.map_append, -List.map_reverse])) (by simp [-List.map_take, -List.map_drop, -List.map_append, -List.map_reverse]) (Or.inl (by simp [-List.map_take, -List.map_drop, -List.map_append, -List.map_reverse])) ?_
        refine R_mv (@rfl V (V.bool false)) ?_
        exact R_nil ⟨t0, t1, t5, rfl, trivial⟩
      · intro T H ⟨t0, t1, t5, t6, _⟩
        refine W_seq_seq ?_
        refine W_seq_regc (fun T H => T 0 = (iV (x)) ∧ T 1 = (iV (y)) ∧ T 6 = (V.bool false) ∧ T 11 = (V.bool false) ∧ True) ?_ ?_
        · unfold r100_3
          refine R_mv t5 ?_
          exact R_nil ⟨t0, t1, t6, rfl, trivial⟩
        · intro T H ⟨t0, t1, t6, t11, _⟩
          refine W_seq_ifb t11 (fun c1 => ?_) (fun c1 => ?_)
          · cases c1
          ·
            refine W_seq_skip ?_
            refine W_seq_seq ?_
            refine W_seq_regc (fun T H => T 0 = (iV (x)) ∧ T 1 = (iV (y)) ∧ T 13 = (V.bool false) ∧ True) ?_ ?_
            · unfold r100_7
              refine R_mv t6 ?_
              exact R_nil ⟨t0, t1, rfl, trivial⟩
            · intro T H ⟨t0, t1, t13, _⟩
              refine W_seq_ifb t13 (fun c2 => ?_) (fun c2 => ?_)
              · cases c2
              ·
                refine W_seq_skip ?_
                refine W_seq_seq ?_
                refine W_seq_regc (fun T H => T 0 = (iV (x)) ∧ T 1 = (iV (y)) ∧ T 16 = (V.bool (decide ((x) < (y)))) ∧ True) ?_ ?_
                · unfold r100_9
                  refine R_mv t0 ?_
                  refine R_mv t1 ?_
                  refine R_lss (x := (x)) (y := (y)) (@rfl V (iV (x))) (@rfl V (iV (y))) ?_
                  exact R_nil ⟨t0, t1, rfl, trivial⟩
                · intro T H ⟨t0, t1, t16, _⟩
                  refine W_seq_if (p := (x) < (y)) t16 (fun c3 => ?_) (fun c3 => ?_)
                  ·
                    refine W_seq_seq ?_
                    refine W_seq_regc (fun T H => T 4 = (iV (-1 : Int)) ∧ True) ?_ ?_
                    · unfold r100_10
                      refine R_mv (@rfl V (iV (-1 : Int))) ?_
                      exact R_nil ⟨rfl, trivial⟩
                    · intro T H ⟨t4, _⟩
                      refine W_seq_ret ?_
                      refine Ret_1 t4 (fz_int ?_)
                      · unfold cmpI; repeat (split <;> first | rfl | omega | skip)
                  ·
                    refine W_seq_skip ?_
                    refine W_seq_seq ?_
                    refine W_seq_regc (fun T H => T 19 = (V.bool (decide ((y) < (x)))) ∧ True) ?_ ?_
                    · unfold r100_11
                      refine R_mv t0 ?_
                      refine R_mv t1 ?_
                      refine R_gtr (x := (x)) (y := (y)) (@rfl V (iV (x))) (@rfl V (iV (y))) ?_
                      exact R_nil ⟨rfl, trivial⟩
                    · intro T H ⟨t19, _⟩
                      refine W_seq_if (p := (y) < (x)) t19 (fun c4 => ?_) (fun c4 => ?_)
                      ·
                        refine W_seq_seq ?_
                        refine W_seq_regc (fun T H => T 4 = (iV (1 : Int)) ∧ True) ?_ ?_
                        · unfold r100_12
                          refine R_mv (@rfl V (iV (1 : Int))) ?_
                          exact R_nil ⟨rfl, trivial⟩
                        · intro T H ⟨t4, _⟩
                          refine W_seq_ret ?_
                          refine Ret_1 t4 (fz_int ?_)
                          · unfold cmpI; repeat (split <;> first | rfl | omega | skip)
                      ·
                        refine W_seq_skip ?_
                        refine W_seq_regc (fun T H => T 4 = (iV (0 : Int)) ∧ True) ?_ ?_
                        · unfold r100_13
                          refine R_mv (@rfl V (iV (0 : Int))) ?_
                          exact R_nil ⟨rfl, trivial⟩
                        · intro T H ⟨t4, _⟩
                          refine W_ret ?_
                          refine Ret_1 t4 (fz_int ?_)
                          · unfold cmpI; repeat (split <;> first | rfl | omega | skip)

end Go.Proofs.Ytngkckefanbhgaa

namespace Go.Proofs.Ytngkckefanbhgaa
open Go Go.Proofs

theorem scompare_pure (a b : List Int) : PureC Try.prog 101 [(V.sl (List.map cI (a))), (V.sl (List.map cI (b)))] (iV (lexI a b)) := by
  refine pure_of_Wb true 6 Try.func101 s101_ok (by kernel_rfl) (by simp [s101]) (by simp) (by simp) fun hB => ?_
  simp only [bnd_map, bnd_int, bnd_bool, bnd_str, bnd_agg, bnd_pp, bnd_nil, bnd_cons, implies_true, and_true, true_and] at hB
  unfold s101
  dsimp only
  refine W_seq_regc (fun T H => T 0 = (V.sl (List.map cI (a))) ∧ T 1 = (V.sl (List.map cI (b))) ∧ True) ?_ ?_
  · unfold r101_0
    refine R_mv (@rfl V (iV (0 : Int))) ?_
    exact R_nil ⟨rfl, rfl, trivial⟩
  · intro T H ⟨t0, t1, _⟩
    refine W_seq_seq ?_
    refine W_seq_regc (fun T H => T 0 = (V.sl (List.map cI (a))) ∧ T 1 = (V.sl (List.map cI (b))) ∧ T 9 = (V.sl (List.map cI (a))) ∧ T 10 = (iV ((a.length : Nat) : Int)) ∧ T 11 = (iV (0 : Int)) ∧ True) ?_ ?_
    · unfold r101_1
      refine R_mv t0 ?_
      refine R_len (@rfl V (V.sl (List.map cI (a)))) ?_
      refine R_mv (@rfl V (iV (0 : Int))) ?_
      exact R_nil ⟨t0, t1, rfl, rfl, rfl, trivial⟩
    · intro T H ⟨t0, t1, t9, t10, t11, _⟩
      refine W_seq_blockg fun Q1 n1 x1 y1 z1 => ?_
      refine W_loop (fun mm T H => ∃ (k : Nat), mm = a.length - k ∧ T 0 = (V.sl (List.map cI (a))) ∧ T 1 = (V.sl (List.map cI (b))) ∧ T 9 = (V.sl (List.map cI (a))) ∧ T 10 = (iV ((a.length : Nat) : Int)) ∧ T 11 = (iV ((k : Nat) : Int)) ∧ (k ≤ a.length) ∧ (k ≤ cmn a b)) ?_ ?_
      · refine ⟨_, 0, rfl, t0, t1, t9, t10, (Eq.trans t11 (by first | rfl | simp)), ?_, ?_⟩
        · omega
        · exact Nat.zero_le _
      · intro mm T H ⟨k, hmm, t0, t1, t9, t10, t11, hk, hc⟩ Q2 p12 p22 p32
        unfold b101_0
        refine W_seq_regc (fun T H => T 0 = (V.sl (List.map cI (a))) ∧ T 1 = (V.sl (List.map cI (b))) ∧ T 9 = (V.sl (List.map cI (a))) ∧ T 10 = (iV ((a.length : Nat) : Int)) ∧ T 11 = (iV ((k : Nat) : Int)) ∧ T 12 = (V.bool (decide (((k : Nat) : Int) < ((a.length : Nat) : Int)))) ∧ True) ?_ ?_
        · unfold r101_2
          refine R_lss (x := ((k : Nat) : Int)) (y := ((a.length : Nat) : Int)) t11 t10 ?_
          exact R_nil ⟨t0, t1, t9, t10, t11, rfl, trivial⟩
        · intro T H ⟨t0, t1, t9, t10, t11, t12, _⟩
          refine W_seq_if (p := ((k : Nat) : Int) < ((a.length : Nat) : Int)) t12 (fun c3 => ?_) (fun c3 => ?_)
          ·
            refine W_seq_skip ?_
            refine W_seq_blockg fun Q4 n4 x4 y4 z4 => ?_
            refine W_seq_regc (fun T H => T 0 = (V.sl (List.map cI (a))) ∧ T 1 = (V.sl (List.map cI (b))) ∧ T 5 = (iV ((k : Nat) : Int)) ∧ T 6 = (iV ((nth (a) (k)))) ∧ T 9 = (V.sl (List.map cI (a))) ∧ T 10 = (iV ((a.length : Nat) : Int)) ∧ T 11 = (iV ((k : Nat) : Int)) ∧ True) ?_ ?_
            · unfold r101_3
              refine R_mv t11 ?_
              refine R_idx (i := k) t9 t11 (by omega) rfl ?_
              refine R_load_pp (v := (iV ((nth (a) (k))))) (@rfl V (V.pp [(iV ((nth (a) (k))))])) (by first | rfl | simp [ldV]) ?_
              refine R_mv (@rfl V (iV ((k : Nat) : Int))) ?_
              refine R_mv (@rfl V (iV ((nth (a) (k))))) ?_
              exact R_nil ⟨t0, t1, rfl, rfl, t9, t10, t11, trivial⟩
            · intro T H ⟨t0, t1, t5, t6, t9, t10, t11, _⟩
              refine W_seq_seq ?_
              refine W_seq_regc (fun T H => T 0 = (V.sl (List.map cI (a))) ∧ T 1 = (V.sl (List.map cI (b))) ∧ T 5 = (iV ((k : Nat) : Int)) ∧ T 6 = (iV ((nth (a) (k)))) ∧ T 9 = (V.sl (List.map cI (a))) ∧ T 10 = (iV ((a.length : Nat) : Int)) ∧ T 11 = (iV ((k : Nat) : Int)) ∧ T 19 = (V.bool (decide (((b.length : Nat) : Int) ≤ ((k : Nat) : Int)))) ∧ True) ?_ ?_
              · unfold r101_4
                refine R_mv t5 ?_
                refine R_mv t1 ?_
                refine R_len (@rfl V (V.sl (List.map cI (b)))) ?_
                refine R_geq (x := ((k : Nat) : Int)) (y := ((b.length : Nat) : Int)) (@rfl V (iV ((k : Nat) : Int))) (@rfl V (iV ((b.length : Nat) : Int))) ?_
                exact R_nil ⟨t0, t1, t5, t6, t9, t10, t11, rfl, trivial⟩
              · intro T H ⟨t0, t1, t5, t6, t9, t10, t11, t19, _⟩
                refine W_seq_if (p := ((b.length : Nat) : Int) ≤ ((k : Nat) : Int)) t19 (fun c5 => ?_) (fun c5 => ?_)
                ·
                  refine W_seq_seq ?_
                  refine W_seq_regc (fun T H => T 4 = (iV (1 : Int)) ∧ True) ?_ ?_
                  · unfold r101_5
                    refine R_mv (@rfl V (iV (1 : Int))) ?_
                    exact R_nil ⟨rfl, trivial⟩
                  · intro T H ⟨t4, _⟩
                    refine W_seq_ret ?_
                    refine y4 _ _ ?_
                    refine p22 _ _ ?_
                    refine y1 _ _ ?_
                    refine Ret_1 t4 (fz_int ?_)
                    · have g1 := cmn_l a b
                      have g2 := cmn_r a b
                      have g3 := cmn_at hc (by omega)
                      simp only [lexI, cmpI, g3] at *; repeat (split <;> first | rfl | omega | skip)
                ·
                  refine W_seq_skip ?_
                  refine W_seq_regc (fun T H => T 0 = (V.sl (List.map cI (a))) ∧ T 1 = (V.sl (List.map cI (b))) ∧ T 6 = (iV ((nth (a) (k)))) ∧ T 7 = (iV ((nth (b) (k)))) ∧ T 9 = (V.sl (List.map cI (a))) ∧ T 10 = (iV ((a.length : Nat) : Int)) ∧ T 11 = (iV ((k : Nat) : Int)) ∧ True) ?_ ?_
                  · unfold r101_6
                    refine R_mv t1 ?_
                    refine R_mv t5 ?_
                    refine R_idx (i := k) (@rfl V (V.sl (List.map cI (b)))) (@rfl V (iV ((k : Nat) : Int))) (by omega) rfl ?_
                    refine R_load_pp (v := (iV ((nth (b) (k))))) (@rfl V (V.pp [(iV ((nth (b) (k))))])) (by first | rfl | simp [ldV]) ?_
                    refine R_mv (@rfl V (iV ((nth (b) (k))))) ?_
                    exact R_nil ⟨t0, t1, t6, rfl, t9, t10, t11, trivial⟩
                  · intro T H ⟨t0, t1, t6, t7, t9, t10, t11, _⟩
                    refine W_seq_regc (fun T H => T 0 = (V.sl (List.map cI (a))) ∧ T 1 = (V.sl (List.map cI (b))) ∧ T 8 = (iV (cmpI (((nth (a) (k)))) (((nth (b) (k)))))) ∧ T 9 = (V.sl (List.map cI (a))) ∧ T 10 = (iV ((a.length : Nat) : Int)) ∧ T 11 = (iV ((k : Nat) : Int)) ∧ True) ?_ ?_
                    · unfold r101_7
                      refine R_mv t6 ?_
                      refine R_mv t7 ?_
                      refine R_call (evcons (@rfl V (iV ((nth (a) (k))))) (evcons (@rfl V (iV ((nth (b) (k))))) evnil)) (cmpint_pure (((nth (a) (k)))) (((nth (b) (k))))) (fzv_mapcanon _ _ (by simp [-List.map_take, -List.map_drop, -List.map_append, -List.map_reverse])) (by simp [-List.map_take, -List.map_drop, -List.map_append, -List.map_reverse]) (Or.inl (by simp [-List.map_take, -List.map_drop, -List.map_append, -List.map_reverse])) ?_
                      refine R_mv (@rfl V (iV (cmpI (((nth (a) (k)))) (((nth (b) (k))))))) ?_
                      exact R_nil ⟨t0, t1, rfl, t9, t10, t11, trivial⟩
                    · intro T H ⟨t0, t1, t8, t9, t10, t11, _⟩
                      refine W_seq_regc (fun T H => T 0 = (V.sl (List.map cI (a))) ∧ T 1 = (V.sl (List.map cI (b))) ∧ T 8 = (iV (cmpI (((nth (a) (k)))) (((nth (b) (k)))))) ∧ T 9 = (V.sl (List.map cI (a))) ∧ T 10 = (iV ((a.length : Nat) : Int)) ∧ T 11 = (iV ((k : Nat) : Int)) ∧ T 28 = (V.bool (decide ((cmpI (((nth (a) (k)))) (((nth (b) (k))))) ≠ (0 : Int)))) ∧ True) ?_ ?_
                      · unfold r101_8
                        refine R_mv t8 ?_
                        refine R_neq (x := (cmpI (((nth (a) (k)))) (((nth (b) (k)))))) (y := (0 : Int)) (@rfl V (iV (cmpI (((nth (a) (k)))) (((nth (b) (k))))))) (@rfl V (iV (0 : Int))) ?_
                        exact R_nil ⟨t0, t1, t8, t9, t10, t11, rfl, trivial⟩
                      · intro T H ⟨t0, t1, t8, t9, t10, t11, t28, _⟩
                        refine W_if (p := (cmpI (((nth (a) (k)))) (((nth (b) (k))))) ≠ (0 : Int)) t28 (fun c6 => ?_) (fun c6 => ?_)
                        ·
                          have c9 : nth a k ≠ nth b k := fun e => c6 (cmpI_zero.2 e)
                          refine W_seq_regc (fun T H => T 4 = (iV (cmpI (((nth (a) (k)))) (((nth (b) (k)))))) ∧ True) ?_ ?_
                          · unfold r101_9
                            refine R_mv t8 ?_
                            refine R_mv (@rfl V (iV (cmpI (((nth (a) (k)))) (((nth (b) (k))))))) ?_
                            exact R_nil ⟨rfl, trivial⟩
                          · intro T H ⟨t4, _⟩
                            refine W_ret ?_
                            refine y4 _ _ ?_
                            refine p22 _ _ ?_
                            refine y1 _ _ ?_
                            refine Ret_1 t4 (fz_int ?_)
                            · have g1 := cmn_l a b
                              have g2 := cmn_r a b
                              have g3 := cmn_at hc (by omega)
                              simp only [lexI, cmpI, g3] at *; repeat (split <;> first | rfl | omega | skip)
                        ·
                          refine W_skip ?_
                          refine n4 _ _ ?_
                          refine .done ?_
                          refine W_regc (fun T H => T 0 = (V.sl (List.map cI (a))) ∧ T 1 = (V.sl (List.map cI (b))) ∧ T 9 = (V.sl (List.map cI (a))) ∧ T 10 = (iV ((a.length : Nat) : Int)) ∧ T 11 = (iV ((k + 1 : Nat) : Int)) ∧ True) ?_ ?_
                          · unfold r101_10
                            refine R_addN (m := k) (n := 1) t11 (@rfl V (iV ((1 : Nat) : Int))) (by omega) ?_
                            refine R_mv (@rfl V (iV ((k + 1 : Nat) : Int))) ?_
                            exact R_nil ⟨t0, t1, t9, t10, rfl, trivial⟩
                          · intro T H ⟨t0, t1, t9, t10, t11, _⟩
                            refine p12 _ _ _ ?_ ⟨(k + 1), rfl, t0, t1, t9, t10, (Eq.trans t11 (by first | rfl | simp)), ?_, ?_⟩
                            · omega
                            · omega
                            · exact cmn_next hc (by omega) (by omega) (cmpI_zero.1 (by omega))
          ·
            refine W_seq_exit ?_
            refine p32 _ _ _ ?_
            refine x1 _ _ ?_
            refine .done ?_
            refine W_seq_seq ?_
            refine W_seq_regc (fun T H => T 35 = (V.bool (decide (((a.length : Nat) : Int) < ((b.length : Nat) : Int)))) ∧ True) ?_ ?_
            · unfold r101_11
              refine R_mv t0 ?_
              refine R_len (@rfl V (V.sl (List.map cI (a)))) ?_
              refine R_mv t1 ?_
              refine R_len (@rfl V (V.sl (List.map cI (b)))) ?_
              refine R_lss (x := ((a.length : Nat) : Int)) (y := ((b.length : Nat) : Int)) (@rfl V (iV ((a.length : Nat) : Int))) (@rfl V (iV ((b.length : Nat) : Int))) ?_
              exact R_nil ⟨rfl, trivial⟩
            · intro T H ⟨t35, _⟩
              refine W_seq_if (p := ((a.length : Nat) : Int) < ((b.length : Nat) : Int)) t35 (fun c7 => ?_) (fun c7 => ?_)
              ·
                refine W_seq_seq ?_
                refine W_seq_regc (fun T H => T 4 = (iV (-1 : Int)) ∧ True) ?_ ?_
                · unfold r101_12
                  refine R_mv (@rfl V (iV (-1 : Int))) ?_
                  exact R_nil ⟨rfl, trivial⟩
                · intro T H ⟨t4, _⟩
                  refine W_seq_ret ?_
                  refine Ret_1 t4 (fz_int ?_)
                  · have g1 := cmn_l a b
                    have g2 := cmn_r a b
                    have g3 := cmn_at hc (by omega)
                    simp only [lexI, cmpI, g3] at *; repeat (split <;> first | rfl | omega | skip)
              ·
                refine W_seq_skip ?_
                refine W_seq_regc (fun T H => T 4 = (iV (0 : Int)) ∧ True) ?_ ?_
                · unfold r101_13
                  refine R_mv (@rfl V (iV (0 : Int))) ?_
                  exact R_nil ⟨rfl, trivial⟩
                · intro T H ⟨t4, _⟩
                  refine W_ret ?_
                  refine Ret_1 t4 (fz_int ?_)
                  · have g1 := cmn_l a b
                    have g2 := cmn_r a b
                    have g3 := cmn_at hc (by omega)
                    simp only [lexI, cmpI, g3] at *; repeat (split <;> first | rfl | omega | skip)

end Go.Proofs.Ytngkckefanbhgaa

namespace Go.Proofs.Ytngkckefanbhgaa
open Go Go.Proofs

theorem compare_pure (a b : List Int) : PureC Try.prog 66 [(V.sl (List.map cI (a))), (V.sl (List.map cI (b)))] (iV (slx a b)) := by
  refine pure_of_Wb true 6 Try.func66 s66_ok (by kernel_rfl) (by simp [s66]) (by simp) (by simp) fun hB => ?_
  simp only [bnd_map, bnd_int, bnd_bool, bnd_str, bnd_agg, bnd_pp, bnd_nil, bnd_cons, implies_true, and_true, true_and] at hB
  unfold s66
  dsimp only
  refine W_seq_regc (fun T H => T 0 = (V.sl (List.map cI (a))) ∧ T 1 = (V.sl (List.map cI (b))) ∧ True) ?_ ?_
  · unfold r66_0
    refine R_mv (@rfl V (iV (0 : Int))) ?_
    exact R_nil ⟨rfl, rfl, trivial⟩
  · intro T H ⟨t0, t1, _⟩
    refine W_seq_regc (fun T H => T 4 = (iV (orI ([(cmpI (((a.length : Nat) : Int)) (((b.length : Nat) : Int))), (lexI a b)]))) ∧ True) ?_ ?_
    · unfold r66_1
      refine R_mv t0 ?_
      refine R_len (@rfl V (V.sl (List.map cI (a)))) ?_
      refine R_mv t1 ?_
      refine R_len (@rfl V (V.sl (List.map cI (b)))) ?_
      refine R_call (evcons (@rfl V (iV ((a.length : Nat) : Int))) (evcons (@rfl V (iV ((b.length : Nat) : Int))) evnil)) (cmpint_pure (((a.length : Nat) : Int)) (((b.length : Nat) : Int))) (fzv_mapcanon _ _ (by simp [-List.map_take, -List.map_drop, -List.map_append, -List.map_reverse])) (by simp [-List.map_take, -List.map_drop, -List.map_append, -List.map_reverse]) (Or.inl (by simp [-List.map_take, -List.map_drop, -List.map_append, -List.map_reverse])) ?_
      refine R_mv t0 ?_
      refine R_mv t1 ?_
      refine R_call (evcons (@rfl V (V.sl (List.map cI (a)))) (evcons (@rfl V (V.sl (List.map cI (b)))) evnil)) (scompare_pure a b) (fzv_mapcanon _ _ (by simp [-List.map_take, -List.map_drop, -List.map_append, -List.map_reverse])) (by simp [-List.map_take, -List.map_drop, -List.map_append, -List.map_reverse]) (Or.inl (by simp [-List.map_take, -List.map_drop, -List.map_append, -List.map_reverse])) ?_
      refine R_bslice (qs := [(0, (iV (cmpI (((a.length : Nat) : Int)) (((b.length : Nat) : Int))))), (1, (iV (lexI a b)))]) (rows := [[(iV (cmpI (((a.length : Nat) : Int)) (((b.length : Nat) : Int))))], [(iV (lexI a b))]]) (mcons (congrArg (fun v => (0, v)) (@rfl V (iV (cmpI (((a.length : Nat) : Int)) (((b.length : Nat) : Int)))))) (mcons (congrArg (fun v => (1, v)) (@rfl V (iV (lexI a b)))) rfl)) rfl ?_
      refine R_call (evcons (@rfl V (V.sl [[(iV (cmpI (((a.length : Nat) : Int)) (((b.length : Nat) : Int))))], [(iV (lexI a b))]])) evnil) (cmpor_pure ([(cmpI (((a.length : Nat) : Int)) (((b.length : Nat) : Int))), (lexI a b)]) (by simp)) (fzv_mapcanon _ _ (by simp [-List.map_take, -List.map_drop, -List.map_append, -List.map_reverse])) (by simp [-List.map_take, -List.map_drop, -List.map_append, -List.map_reverse]) (Or.inl (by simp [-List.map_take, -List.map_drop, -List.map_append, -List.map_reverse])) ?_
      refine R_mv (@rfl V (iV (orI ([(cmpI (((a.length : Nat) : Int)) (((b.length : Nat) : Int))), (lexI a b)])))) ?_
      exact R_nil ⟨rfl, trivial⟩
    · intro T H ⟨t4, _⟩
      refine W_ret ?_
      refine Ret_1 t4 (fz_int ?_)
      · simp only [orI, cmpI, slx]; repeat (split <;> first | rfl | omega | skip)

end Go.Proofs.Ytngkckefanbhgaa

namespace Go.Proofs.Ytngkckefanbhgaa
open Go Go.Proofs

theorem minfunc_pure (l : List (List Int)) (hl : 1 ≤ l.length) : PureC Try.prog 98 [(V.sl (List.map cL (l))), (V.fn 66 [] [])] (V.sl (List.map cI (least l))) := by
  refine pure_of_Wb true 6 Try.func98 s98_ok (by kernel_rfl) (by simp [s98]) (by simp) (by simp) fun hB => ?_
  simp only [bnd_map, bnd_int, bnd_bool, bnd_str, bnd_agg, bnd_pp, bnd_nil, bnd_cons, implies_true, and_true, true_and] at hB
  unfold s98
  dsimp only
  refine W_seq_regc (fun T H => T 0 = (V.sl (List.map cL (l))) ∧ T 1 = (V.fn 66 [] []) ∧ True) ?_ ?_
  · unfold r98_0
    refine R_mv (@rfl V V.nilsl) ?_
    exact R_nil ⟨rfl, rfl, trivial⟩
  · intro T H ⟨t0, t1, _⟩
    refine W_seq_seq ?_
    refine W_seq_regc (fun T H => T 0 = (V.sl (List.map cL (l))) ∧ T 1 = (V.fn 66 [] []) ∧ T 9 = (V.bool (decide (((l.length : Nat) : Int) < (1 : Int)))) ∧ True) ?_ ?_
    · unfold r98_1
      refine R_mv t0 ?_
      refine R_len (@rfl V (V.sl (List.map cL (l)))) ?_
      refine R_lss (x := ((l.length : Nat) : Int)) (y := (1 : Int)) (@rfl V (iV ((l.length : Nat) : Int))) (@rfl V (iV (1 : Int))) ?_
      exact R_nil ⟨t0, t1, rfl, trivial⟩
    · intro T H ⟨t0, t1, t9, _⟩
      refine W_seq_if (p := ((l.length : Nat) : Int) < (1 : Int)) t9 (fun c1 => ?_) (fun c1 => ?_)
      · exfalso; omega
      ·
        refine W_seq_skip ?_
        refine W_seq_regc (fun T H => T 0 = (V.sl (List.map cL (l))) ∧ T 1 = (V.fn 66 [] []) ∧ T 5 = (V.sl (List.map cI ((nth (l) (0))))) ∧ True) ?_ ?_
        · unfold r98_3
          refine R_mv t0 ?_
          refine R_idx (i := 0) (@rfl V (V.sl (List.map cL (l)))) (@rfl V (iV ((0 : Nat) : Int))) (by omega) rfl ?_
          refine R_load_pp (v := (V.sl (List.map cI ((nth (l) (0)))))) (@rfl V (V.pp [(V.sl (List.map cI ((nth (l) (0)))))])) (by first | rfl | simp [ldV]) ?_
          refine R_mv (@rfl V (V.sl (List.map cI ((nth (l) (0)))))) ?_
          exact R_nil ⟨t0, t1, rfl, trivial⟩
        · intro T H ⟨t0, t1, t5, _⟩
          refine W_seq_seq ?_
          refine W_seq_regc (fun T H => T 0 = (V.sl (List.map cL (l))) ∧ T 1 = (V.fn 66 [] []) ∧ T 5 = (V.sl (List.map cI ((nth (l) (0))))) ∧ T 6 = (iV (1 : Int)) ∧ True) ?_ ?_
          · unfold r98_4
            refine R_mv (@rfl V (iV (1 : Int))) ?_
            exact R_nil ⟨t0, t1, t5, rfl, trivial⟩
          · intro T H ⟨t0, t1, t5, t6, _⟩
            refine W_seq_blockg fun Q2 n2 x2 y2 z2 => ?_
            refine W_loop (fun mm T H => ∃ (k : Nat), mm = l.length - k ∧ T 0 = (V.sl (List.map cL (l))) ∧ T 1 = (V.fn 66 [] []) ∧ T 5 = (V.sl (List.map cI (least (l.take k)))) ∧ T 6 = (iV ((k : Nat) : Int)) ∧ (k ≤ l.length) ∧ (1 ≤ k)) ?_ ?_
            · refine ⟨_, 1, rfl, t0, t1, (Eq.trans t5 (by first | rfl | (rw [least_step (by omega) (by omega), if_pos (by omega)]) | (rw [least_step (by omega) (by omega), if_neg (by omega)]) | (rw [least_one (by omega)]))), (Eq.trans t6 (by first | rfl | (rw [least_step (by omega) (by omega), if_pos (by omega)]) | (rw [least_step (by omega) (by omega), if_neg (by omega)]) | (rw [least_one (by omega)]))), ?_, ?_⟩
              · omega
              · omega
            · intro mm T H ⟨k, hmm, t0, t1, t5, t6, hk, h1⟩ Q3 p13 p23 p33
              unfold b98_0
              refine W_seq_seq ?_
              refine W_seq_regc (fun T H => T 0 = (V.sl (List.map cL (l))) ∧ T 1 = (V.fn 66 [] []) ∧ T 5 = (V.sl (List.map cI (least (l.take k)))) ∧ T 6 = (iV ((k : Nat) : Int)) ∧ T 17 = (V.bool (decide (((k : Nat) : Int) < ((l.length : Nat) : Int)))) ∧ True) ?_ ?_
              · unfold r98_5
                refine R_mv t6 ?_
                refine R_mv t0 ?_
                refine R_len (@rfl V (V.sl (List.map cL (l)))) ?_
                refine R_lss (x := ((k : Nat) : Int)) (y := ((l.length : Nat) : Int)) (@rfl V (iV ((k : Nat) : Int))) (@rfl V (iV ((l.length : Nat) : Int))) ?_
                exact R_nil ⟨t0, t1, t5, t6, rfl, trivial⟩
              · intro T H ⟨t0, t1, t5, t6, t17, _⟩
                refine W_seq_if (p := ((k : Nat) : Int) < ((l.length : Nat) : Int)) t17 (fun c4 => ?_) (fun c4 => ?_)
                ·
                  refine W_seq_skip ?_
                  refine W_seq_blockg fun Q5 n5 x5 y5 z5 => ?_
                  refine W_seq_regc (fun T H => T 0 = (V.sl (List.map cL (l))) ∧ T 1 = (V.fn 66 [] []) ∧ T 5 = (V.sl (List.map cI (least (l.take k)))) ∧ T 6 = (iV ((k : Nat) : Int)) ∧ T 27 = (V.bool (decide ((slx ((nth (l) (k))) (least (l.take k))) < (0 : Int)))) ∧ True) ?_ ?_
                  · unfold r98_7
                    refine R_mv t1 ?_
                    refine R_mv t0 ?_
                    refine R_mv t6 ?_
                    refine R_idx (i := k) (@rfl V (V.sl (List.map cL (l)))) (@rfl V (iV ((k : Nat) : Int))) (by omega) rfl ?_
                    refine R_load_pp (v := (V.sl (List.map cI ((nth (l) (k)))))) (@rfl V (V.pp [(V.sl (List.map cI ((nth (l) (k)))))])) (by first | rfl | simp [ldV]) ?_
                    refine R_mv t5 ?_
                    refine R_callv (@rfl V (V.fn 66 [] [])) (evcons (@rfl V (V.sl (List.map cI ((nth (l) (k)))))) (evcons (@rfl V (V.sl (List.map cI (least (l.take k))))) evnil)) (compare_pure ((nth (l) (k))) (least (l.take k))) (fzv_mapcanon _ _ (by simp [-List.map_take, -List.map_drop, -List.map_append, -List.map_reverse])) (by simp [-List.map_take, -List.map_drop, -List.map_append, -List.map_reverse]) (Or.inl (by simp [-List.map_take, -List.map_drop, -List.map_append, -List.map_reverse])) ?_
                    refine R_lss (x := (slx ((nth (l) (k))) (least (l.take k)))) (y := (0 : Int)) (@rfl V (iV (slx ((nth (l) (k))) (least (l.take k))))) (@rfl V (iV (0 : Int))) ?_
                    exact R_nil ⟨t0, t1, t5, t6, rfl, trivial⟩
                  · intro T H ⟨t0, t1, t5, t6, t27, _⟩
                    refine W_if (p := (slx ((nth (l) (k))) (least (l.take k))) < (0 : Int)) t27 (fun c6 => ?_) (fun c6 => ?_)
                    ·
                      refine W_regc (fun T H => T 0 = (V.sl (List.map cL (l))) ∧ T 1 = (V.fn 66 [] []) ∧ T 5 = (V.sl (List.map cI ((nth (l) (k))))) ∧ T 6 = (iV ((k : Nat) : Int)) ∧ True) ?_ ?_
                      · unfold r98_8
                        refine R_mv t0 ?_
                        refine R_mv t6 ?_
                        refine R_idx (i := k) (@rfl V (V.sl (List.map cL (l)))) (@rfl V (iV ((k : Nat) : Int))) (by omega) rfl ?_
                        refine R_load_pp (v := (V.sl (List.map cI ((nth (l) (k)))))) (@rfl V (V.pp [(V.sl (List.map cI ((nth (l) (k)))))])) (by first | rfl | simp [ldV]) ?_
                        refine R_mv (@rfl V (V.sl (List.map cI ((nth (l) (k)))))) ?_
                        exact R_nil ⟨t0, t1, rfl, t6, trivial⟩
                      · intro T H ⟨t0, t1, t5, t6, _⟩
                        refine n5 _ _ ?_
                        refine .done ?_
                        refine W_regc (fun T H => T 0 = (V.sl (List.map cL (l))) ∧ T 1 = (V.fn 66 [] []) ∧ T 5 = (V.sl (List.map cI ((nth (l) (k))))) ∧ T 6 = (iV ((k + 1 : Nat) : Int)) ∧ True) ?_ ?_
                        · unfold r98_6
                          refine R_mv t6 ?_
                          refine R_addN (m := k) (n := 1) (@rfl V (iV ((k : Nat) : Int))) (@rfl V (iV ((1 : Nat) : Int))) (by omega) ?_
                          refine R_mv (@rfl V (iV ((k + 1 : Nat) : Int))) ?_
                          exact R_nil ⟨t0, t1, t5, rfl, trivial⟩
                        · intro T H ⟨t0, t1, t5, t6, _⟩
                          refine p13 _ _ _ ?_ ⟨(k + 1), rfl, t0, t1, (Eq.trans t5 (by first | rfl | (rw [least_step (by omega) (by omega), if_pos (by omega)]) | (rw [least_step (by omega) (by omega), if_neg (by omega)]) | (rw [least_one (by omega)]))), (Eq.trans t6 (by first | rfl | (rw [least_step (by omega) (by omega), if_pos (by omega)]) | (rw [least_step (by omega) (by omega), if_neg (by omega)]) | (rw [least_one (by omega)]))), ?_, ?_⟩
                          · omega
                          · omega
                          · omega
                    ·
                      refine W_skip ?_
                      refine n5 _ _ ?_
                      refine .done ?_
                      refine W_regc (fun T H => T 0 = (V.sl (List.map cL (l))) ∧ T 1 = (V.fn 66 [] []) ∧ T 5 = (V.sl (List.map cI (least (l.take k)))) ∧ T 6 = (iV ((k + 1 : Nat) : Int)) ∧ True) ?_ ?_
                      · unfold r98_6
                        refine R_mv t6 ?_
                        refine R_addN (m := k) (n := 1) (@rfl V (iV ((k : Nat) : Int))) (@rfl V (iV ((1 : Nat) : Int))) (by omega) ?_
                        refine R_mv (@rfl V (iV ((k + 1 : Nat) : Int))) ?_
                        exact R_nil ⟨t0, t1, t5, rfl, trivial⟩
                      · intro T H ⟨t0, t1, t5, t6, _⟩
                        refine p13 _ _ _ ?_ ⟨(k + 1), rfl, t0, t1, (Eq.trans t5 (by first | rfl | (rw [least_step (by omega) (by omega), if_pos (by omega)]) | (rw [least_step (by omega) (by omega), if_neg (by omega)]) | (rw [least_one (by omega)]))), (Eq.trans t6 (by first | rfl | (rw [least_step (by omega) (by omega), if_pos (by omega)]) | (rw [least_step (by omega) (by omega), if_neg (by omega)]) | (rw [least_one (by omega)]))), ?_, ?_⟩
                        · omega
                        · omega
                        · omega
                ·
                  refine W_seq_exit ?_
                  refine p33 _ _ _ ?_
                  refine x2 _ _ ?_
                  refine .done ?_
                  refine W_seq_regc (fun T H => T 4 = (V.sl (List.map cI (least (l.take k)))) ∧ True) ?_ ?_
                  · unfold r98_9
                    refine R_mv t5 ?_
                    refine R_mv (@rfl V (V.sl (List.map cI (least (l.take k))))) ?_
                    exact R_nil ⟨rfl, trivial⟩
                  · intro T H ⟨t4, _⟩
                    refine W_ret ?_
                    refine Ret_1 t4 (fz_sl ?_ (fun _ => by simp))
                    · (have e : k = l.length := (by omega); subst e; rw [List.take_length])

end Go.Proofs.Ytngkckefanbhgaa

namespace Go.Proofs.Ytngkckefanbhgaa
open Go Go.Proofs

theorem hleast_pure (l : List (List Int)) : PureC Try.prog 65 [(V.sl (List.map cL (l))), (V.fn 66 [] [])] (V.tup [(V.sl (List.map cI (least l))), (V.bool (decide (l ≠ [])))]) := by
  refine pure_of_Wb true 6 Try.func65 s65_ok (by kernel_rfl) (by simp [s65]) (by simp) (by simp) fun hB => ?_
  simp only [bnd_map, bnd_int, bnd_bool, bnd_str, bnd_agg, bnd_pp, bnd_nil, bnd_cons, implies_true, and_true, true_and] at hB
  unfold s65
  dsimp only
  refine W_seq_regc (fun T H => T 0 = (V.sl (List.map cL (l))) ∧ T 1 = (V.fn 66 [] []) ∧ True) ?_ ?_
  · unfold r65_0
    refine R_mv (@rfl V V.nilsl) ?_
    refine R_mv (@rfl V (V.bool false)) ?_
    exact R_nil ⟨rfl, rfl, trivial⟩
  · intro T H ⟨t0, t1, _⟩
    refine W_seq_regc (fun T H => T 0 = (V.sl (List.map cL (l))) ∧ T 1 = (V.fn 66 [] []) ∧ T 6 = V.nilsl ∧ True) ?_ ?_
    · unfold r65_1
      refine R_mv (@rfl V V.nilsl) ?_
      exact R_nil ⟨t0, t1, rfl, trivial⟩
    · intro T H ⟨t0, t1, t6, _⟩
      refine W_seq_seq ?_
      refine W_seq_regc (fun T H => T 0 = (V.sl (List.map cL (l))) ∧ T 1 = (V.fn 66 [] []) ∧ T 6 = V.nilsl ∧ T 9 = (V.bool (decide (((l.length : Nat) : Int) = (0 : Int)))) ∧ True) ?_ ?_
      · unfold r65_2
        refine R_mv t0 ?_
        refine R_len (@rfl V (V.sl (List.map cL (l)))) ?_
        refine R_eql (x := ((l.length : Nat) : Int)) (y := (0 : Int)) (@rfl V (iV ((l.length : Nat) : Int))) (@rfl V (iV (0 : Int))) ?_
        exact R_nil ⟨t0, t1, t6, rfl, trivial⟩
      · intro T H ⟨t0, t1, t6, t9, _⟩
        refine W_seq_if (p := ((l.length : Nat) : Int) = (0 : Int)) t9 (fun c1 => ?_) (fun c1 => ?_)
        ·
          refine W_seq_seq ?_
          refine W_seq_regc (fun T H => T 4 = V.nilsl ∧ T 5 = (V.bool false) ∧ True) ?_ ?_
          · unfold r65_3
            refine R_mv t6 ?_
            refine R_mv (@rfl V V.nilsl) ?_
            refine R_mv (@rfl V (V.bool false)) ?_
            exact R_nil ⟨rfl, rfl, trivial⟩
          · intro T H ⟨t4, t5, _⟩
            refine W_seq_ret ?_
            refine Ret_2 t4 t5 (fz_nil ?_) (fz_bool ?_)
            · have e : l = [] := List.length_eq_zero_iff.1 (by omega)
              subst e; rfl
            · have e : l = [] := List.length_eq_zero_iff.1 (by omega)
              subst e; simp
        ·
          refine W_seq_skip ?_
          refine W_seq_regc (fun T H => T 4 = (V.sl (List.map cI (least l))) ∧ T 5 = (V.bool true) ∧ True) ?_ ?_
          · unfold r65_4
            refine R_mv t0 ?_
            refine R_mv t1 ?_
            refine R_call (evcons (@rfl V (V.sl (List.map cL (l)))) (evcons (@rfl V (V.fn 66 [] [])) evnil)) (minfunc_pure l (by first | omega | assumption)) (fzv_mapcanon _ _ (by simp [-List.map_take, -List.map_drop, -List.map_append, -List.map_reverse])) (by simp [-List.map_take, -List.map_drop, -List.map_append, -List.map_reverse]) (Or.inl (by simp [-List.map_take, -List.map_drop, -List.map_append, -List.map_reverse])) ?_
            refine R_mv (@rfl V (V.sl (List.map cI (least l)))) ?_
            refine R_mv (@rfl V (V.bool true)) ?_
            exact R_nil ⟨rfl, rfl, trivial⟩
          · intro T H ⟨t4, t5, _⟩
            refine W_ret ?_
            refine Ret_2 t4 t5 (fz_canon (by simp) rfl) (fz_bool ?_)
            · exact (decide_eq_true (by intro e; subst e; simp at *)).symm

end Go.Proofs.Ytngkckefanbhgaa

namespace Go.Proofs.Ytngkckefanbhgaa
open Go Go.Proofs

theorem hrefuted_pure (h : Hy) (o : Ob) (hv : hval h = 0) (ho : oval o = 0) : PureC Try.prog 23 [(V.agg [(iV (h.m.i)), (iV (h.m.s)), (V.sl (List.map cL (h.m.nx))), (V.sl (List.map cL (h.m.ot))), (V.sl (List.map cL (h.acc)))]), (V.agg [(iV (o.i)), (V.sl (List.map cT (o.tr)))])] (V.tup [(V.sl (List.map cI (if h.m.i ≠ o.i then [] else least (rfs h o.tr)))), (V.bool (decide (h.m.i = o.i ∧ rfs h o.tr ≠ []))), (iV (if h.m.i ≠ o.i then (15 : Int) else 0))]) := by
  refine pure_of_Wb true 6 Try.func23 s23_ok (by kernel_rfl) (by simp [s23]) (by simp) (by simp) fun hB => ?_
  simp only [bnd_map, bnd_int, bnd_bool, bnd_str, bnd_agg, bnd_pp, bnd_nil, bnd_cons, implies_true, and_true, true_and] at hB
  unfold s23
  dsimp only
  have u1 := hval_ok hv
  have u2 := oval_ok ho
  have u5 := mval_ok u1.1
  refine W_seq_regc (fun T H => T 2 = (V.mp 2 1 0 0) ∧ T 3 = (V.mp 3 1 0 0) ∧ H 2 = (⟨1, true, false, 26, 5, [[(iV (h.m.i)), (iV (h.m.s)), (V.sl (List.map cL (h.m.nx))), (V.sl (List.map cL (h.m.ot))), (V.sl (List.map cL (h.acc)))]]⟩ : Blk) ∧ H 3 = (⟨1, true, false, 34, 2, [[(iV (o.i)), (V.sl (List.map cT (o.tr)))]]⟩ : Blk) ∧ H 7 = (⟨0, false, false, 0, 0, []⟩ : Blk) ∧ H 9 = (⟨0, false, false, 0, 0, []⟩ : Blk) ∧ True) ?_ ?_
  · unfold r23_0
    refine R_box (i := 2) (n := 0) (m := 5) (cs := [(iV (h.m.i)), (iV (h.m.s)), (V.sl (List.map cL (h.m.nx))), (V.sl (List.map cL (h.m.ot))), (V.sl (List.map cL (h.acc)))]) rfl (congrArg Blk.ver rfl) (@rfl V (V.agg [(iV (h.m.i)), (iV (h.m.s)), (V.sl (List.map cL (h.m.nx))), (V.sl (List.map cL (h.m.ot))), (V.sl (List.map cL (h.acc)))])) rfl rfl ?_
    refine R_box (i := 3) (n := 0) (m := 2) (cs := [(iV (o.i)), (V.sl (List.map cT (o.tr)))]) rfl (congrArg Blk.ver rfl) (@rfl V (V.agg [(iV (o.i)), (V.sl (List.map cT (o.tr)))])) rfl rfl ?_
    refine R_mv (@rfl V V.nilsl) ?_
    refine R_mv (@rfl V (V.bool false)) ?_
    refine R_mv (@rfl V (iV (0 : Int))) ?_
    exact R_nil ⟨rfl, rfl, rfl, rfl, rfl, rfl, trivial⟩
  · intro T H ⟨t2, t3, h2, h3, h7, h9, _⟩
    refine W_seq_seq ?_
    refine W_seq_regc (fun T H => T 2 = (V.mp 2 1 0 0) ∧ T 3 = (V.mp 3 1 0 0) ∧ T 21 = (V.bool (decide ((h.m.i) ≠ (o.i)))) ∧ H 2 = (⟨1, true, false, 26, 5, [[(iV (h.m.i)), (iV (h.m.s)), (V.sl (List.map cL (h.m.nx))), (V.sl (List.map cL (h.m.ot))), (V.sl (List.map cL (h.acc)))]]⟩ : Blk) ∧ H 3 = (⟨1, true, false, 34, 2, [[(iV (o.i)), (V.sl (List.map cT (o.tr)))]]⟩ : Blk) ∧ H 7 = (⟨0, false, false, 0, 0, []⟩ : Blk) ∧ H 9 = (⟨0, false, false, 0, 0, []⟩ : Blk) ∧ True) ?_ ?_
    · unfold r23_1
      refine R_fld_mp (o' := 0) t2 h2 (by first | rfl | simp [okB, Blk.own]) rfl ?_
      refine R_fld_mp (o' := 0) (@rfl V (V.mp 2 1 0 0)) h2 (by first | rfl | simp [okB, Blk.own]) rfl ?_
      refine R_load_mp (v := (iV (h.m.i))) (@rfl V (V.mp 2 1 0 0)) h2 (by first | rfl | simp [ldB, ldV, Blk.own, V.one]) ?_
      refine R_fld_mp (o' := 0) t3 h3 (by first | rfl | simp [okB, Blk.own]) rfl ?_
      refine R_load_mp (v := (iV (o.i))) (@rfl V (V.mp 3 1 0 0)) h3 (by first | rfl | simp [ldB, ldV, Blk.own, V.one]) ?_
      refine R_neq (x := (h.m.i)) (y := (o.i)) (@rfl V (iV (h.m.i))) (@rfl V (iV (o.i))) ?_
      exact R_nil ⟨t2, t3, rfl, h2, h3, h7, h9, trivial⟩
    · intro T H ⟨t2, t3, t21, h2, h3, h7, h9, _⟩
      refine W_seq_if (p := (h.m.i) ≠ (o.i)) t21 (fun c1 => ?_) (fun c1 => ?_)
      ·
        have d1 := c1
        refine W_seq_seq ?_
        refine W_seq_regc (fun T H => T 4 = V.nilsl ∧ T 5 = (V.bool false) ∧ T 6 = (iV (15 : Int)) ∧ H 2 = (⟨1, true, false, 26, 5, [[(iV (h.m.i)), (iV (h.m.s)), (V.sl (List.map cL (h.m.nx))), (V.sl (List.map cL (h.m.ot))), (V.sl (List.map cL (h.acc)))]]⟩ : Blk) ∧ H 3 = (⟨1, true, false, 34, 2, [[(iV (o.i)), (V.sl (List.map cT (o.tr)))]]⟩ : Blk) ∧ H 7 = (⟨0, false, false, 0, 0, []⟩ : Blk) ∧ H 9 = (⟨0, false, false, 0, 0, []⟩ : Blk) ∧ True) ?_ ?_
        · unfold r23_2
          refine R_mv (@rfl V V.nilsl) ?_
          refine R_mv (@rfl V (V.bool false)) ?_
          refine R_mv (@rfl V (iV (15 : Int))) ?_
          exact R_nil ⟨rfl, rfl, rfl, h2, h3, h7, h9, trivial⟩
        · intro T H ⟨t4, t5, t6, h2, h3, h7, h9, _⟩
          refine W_seq_ret ?_
          refine Ret_3 t4 t5 t6 (fz_nil ?_) (fz_bool ?_) (fz_int ?_)
          · rw [if_pos d1]
          · exact (decide_eq_false (by omega)).symm
          · rw [if_pos d1]
      ·
        have d1 := c1
        refine W_seq_skip ?_
        refine W_seq_regc (fun T H => T 2 = (V.mp 2 1 0 0) ∧ T 3 = (V.mp 3 1 0 0) ∧ T 7 = (V.ms 7 1 0 (0)) ∧ H 2 = (⟨1, true, false, 26, 5, [[(iV (h.m.i)), (iV (h.m.s)), (V.sl (List.map cL (h.m.nx))), (V.sl (List.map cL (h.m.ot))), (V.sl (List.map cL (h.acc)))]]⟩ : Blk) ∧ H 3 = (⟨1, true, false, 34, 2, [[(iV (o.i)), (V.sl (List.map cT (o.tr)))]]⟩ : Blk) ∧ H 7 = (⟨1, true, true, 35, 1, []⟩ : Blk) ∧ H 9 = (⟨0, false, false, 0, 0, []⟩ : Blk) ∧ True) ?_ ?_
        · unfold r23_3
          refine R_lazy (i := 7) (n := 0) rfl (congrArg Blk.ver h7) ?_
          exact R_nil ⟨t2, t3, rfl, h2, h3, rfl, h9, trivial⟩
        · intro T H ⟨t2, t3, t7, h2, h3, h7, h9, _⟩
          refine W_seq_seq ?_
          refine W_seq_regc (fun T H => T 2 = (V.mp 2 1 0 0) ∧ T 7 = (V.ms 7 1 0 (0)) ∧ T 23 = (V.sl (List.map cT (o.tr))) ∧ T 24 = (iV ((o.tr.length : Nat) : Int)) ∧ T 25 = (iV (0 : Int)) ∧ H 2 = (⟨1, true, false, 26, 5, [[(iV (h.m.i)), (iV (h.m.s)), (V.sl (List.map cL (h.m.nx))), (V.sl (List.map cL (h.m.ot))), (V.sl (List.map cL (h.acc)))]]⟩ : Blk) ∧ H 3 = (⟨1, true, false, 34, 2, [[(iV (o.i)), (V.sl (List.map cT (o.tr)))]]⟩ : Blk) ∧ H 7 = (⟨1, true, true, 35, 1, []⟩ : Blk) ∧ H 9 = (⟨0, false, false, 0, 0, []⟩ : Blk) ∧ True) ?_ ?_
          · unfold r23_4
            refine R_fld_mp (o' := 1) t3 h3 (by first | rfl | simp [okB, Blk.own]) rfl ?_
            refine R_load_mp (v := (V.sl (List.map cT (o.tr)))) (@rfl V (V.mp 3 1 0 1)) h3 (by first | rfl | simp [ldB, ldV, Blk.own, V.one]) ?_
            refine R_len (@rfl V (V.sl (List.map cT (o.tr)))) ?_
            refine R_mv (@rfl V (iV (0 : Int))) ?_
            exact R_nil ⟨t2, t7, rfl, rfl, rfl, h2, h3, h7, h9, trivial⟩
          · intro T H ⟨t2, t7, t23, t24, t25, h2, h3, h7, h9, _⟩
            refine W_seq_blockg fun Q2 n2 x2 y2 z2 => ?_
            refine W_loop (fun mm T H => ∃ (k : Nat) (v9 : Nat), mm = o.tr.length - k ∧ T 2 = (V.mp 2 1 0 0) ∧ T 7 = (V.ms 7 (1 + (rfs h (o.tr.take k)).length) 0 ((rfs h (o.tr.take k)).length)) ∧ T 23 = (V.sl (List.map cT (o.tr))) ∧ T 24 = (iV ((o.tr.length : Nat) : Int)) ∧ T 25 = (iV ((k : Nat) : Int)) ∧ H 2 = (⟨1, true, false, 26, 5, [[(iV (h.m.i)), (iV (h.m.s)), (V.sl (List.map cL (h.m.nx))), (V.sl (List.map cL (h.m.ot))), (V.sl (List.map cL (h.acc)))]]⟩ : Blk) ∧ H 3 = (⟨1, true, false, 34, 2, [[(iV (o.i)), (V.sl (List.map cT (o.tr)))]]⟩ : Blk) ∧ H 7 = (⟨1 + (rfs h (o.tr.take k)).length, true, true, 35, 1, (List.map cL (rfs h (o.tr.take k)))⟩ : Blk) ∧ (H 9).ver = v9 ∧ (k ≤ o.tr.length)) ?_ ?_
            · refine ⟨_, 0, 0, rfl, t2, (Eq.trans t7 (by first | rfl | (rw [g1, if_pos (by omega), List.length_append]; rfl) | (rw [g1, if_pos (by omega), u4, List.length_append]; rfl) | (rw [g1, if_neg (by omega), List.append_nil]))), t23, t24, (Eq.trans t25 (by first | rfl | (rw [g1, if_pos (by omega), List.length_append]; rfl) | (rw [g1, if_pos (by omega), u4, List.length_append]; rfl) | (rw [g1, if_neg (by omega), List.append_nil]))), h2, h3, (Eq.trans h7 (by first | rfl | (rw [g1, if_pos (by omega), List.length_append]; rfl) | (rw [g1, if_pos (by omega), u4, List.length_append]; rfl) | (rw [g1, if_neg (by omega), List.append_nil]))), (congrArg Blk.ver h9), ?_⟩
              · omega
            · intro mm T H ⟨k, v9, hmm, t2, t7, t23, t24, t25, h2, h3, h7, h9, hk⟩ Q3 p13 p23 p33
              unfold b23_0
              refine W_seq_regc (fun T H => T 2 = (V.mp 2 1 0 0) ∧ T 7 = (V.ms 7 (1 + (rfs h (o.tr.take k)).length) 0 ((rfs h (o.tr.take k)).length)) ∧ T 23 = (V.sl (List.map cT (o.tr))) ∧ T 24 = (iV ((o.tr.length : Nat) : Int)) ∧ T 25 = (iV ((k : Nat) : Int)) ∧ T 26 = (V.bool (decide (((k : Nat) : Int) < ((o.tr.length : Nat) : Int)))) ∧ H 2 = (⟨1, true, false, 26, 5, [[(iV (h.m.i)), (iV (h.m.s)), (V.sl (List.map cL (h.m.nx))), (V.sl (List.map cL (h.m.ot))), (V.sl (List.map cL (h.acc)))]]⟩ : Blk) ∧ H 3 = (⟨1, true, false, 34, 2, [[(iV (o.i)), (V.sl (List.map cT (o.tr)))]]⟩ : Blk) ∧ H 7 = (⟨1 + (rfs h (o.tr.take k)).length, true, true, 35, 1, (List.map cL (rfs h (o.tr.take k)))⟩ : Blk) ∧ (H 9).ver = v9 ∧ True) ?_ ?_
              · unfold r23_5
                refine R_lss (x := ((k : Nat) : Int)) (y := ((o.tr.length : Nat) : Int)) t25 t24 ?_
                exact R_nil ⟨t2, t7, t23, t24, t25, rfl, h2, h3, h7, h9, trivial⟩
              · intro T H ⟨t2, t7, t23, t24, t25, t26, h2, h3, h7, h9, _⟩
                refine W_seq_if (p := ((k : Nat) : Int) < ((o.tr.length : Nat) : Int)) t26 (fun c4 => ?_) (fun c4 => ?_)
                ·
                  have u3 := u2.pr k (by omega)
                  have u6 := u3.1.lel
                  have u7 := u3.1.len
                  have u8 : frE h.m h.m.s (nth o.tr k).ni = 0 := by rw [frE_val u1.1, wchk_zero (by omega) u6 (fun j hj => by have := u3.1.sym j hj; omega)]
                  have u9 := frE_ok (w := (nth o.tr k).ni) u1.1 (by rw [← frE_val u1.1]; exact u8)
                  have g1 := rfs_take (h := h) (l := o.tr) (k := k) (by omega)
                  have g2 := rfs_len (h := h) (o.tr.take k)
                  have g3 : (o.tr.take k).length ≤ k := by simp; omega
                  rw [rf1, ← u9.2.1] at g1
                  have g6 : (frOut h.m h.m.s (nth o.tr k).ni).length = (nth o.tr k).ni.length := by rw [u9.2.1, outs_len]
                  have u10 := u2.len
                  refine W_seq_skip ?_
                  refine W_seq_blockg fun Q5 n5 x5 y5 z5 => ?_
                  refine W_seq_regc (fun T H => T 2 = (V.mp 2 1 0 0) ∧ T 7 = (V.ms 7 (1 + (rfs h (o.tr.take k)).length) 0 ((rfs h (o.tr.take k)).length)) ∧ T 9 = (V.mp 9 (v9 + 1) 0 0) ∧ T 23 = (V.sl (List.map cT (o.tr))) ∧ T 24 = (iV ((o.tr.length : Nat) : Int)) ∧ T 25 = (iV ((k : Nat) : Int)) ∧ H 2 = (⟨1, true, false, 26, 5, [[(iV (h.m.i)), (iV (h.m.s)), (V.sl (List.map cL (h.m.nx))), (V.sl (List.map cL (h.m.ot))), (V.sl (List.map cL (h.acc)))]]⟩ : Blk) ∧ H 3 = (⟨1, true, false, 34, 2, [[(iV (o.i)), (V.sl (List.map cT (o.tr)))]]⟩ : Blk) ∧ H 7 = (⟨1 + (rfs h (o.tr.take k)).length, true, true, 35, 1, (List.map cL (rfs h (o.tr.take k)))⟩ : Blk) ∧ H 9 = (⟨v9 + 1, true, false, 63, 2, [[(V.sl (List.map cI ((nth (o.tr) (k)).ni))), (V.sl (List.map cI ((nth (o.tr) (k)).no)))]]⟩ : Blk) ∧ True) ?_ ?_
                  · unfold r23_6
                    refine R_idx (i := k) t23 t25 (by omega) rfl ?_
                    refine R_load_pp (v := (V.agg [(V.sl (List.map cI ((nth (o.tr) (k)).ni))), (V.sl (List.map cI ((nth (o.tr) (k)).no)))])) (@rfl V (V.pp [(V.sl (List.map cI ((nth (o.tr) (k)).ni))), (V.sl (List.map cI ((nth (o.tr) (k)).no)))])) (by first | rfl | simp [ldV]) ?_
                    refine R_alloc (i := 9) (n := v9) (m := 2) rfl h9 rfl ?_
                    refine R_store (vs := [(V.sl (List.map cI ((nth (o.tr) (k)).ni))), (V.sl (List.map cI ((nth (o.tr) (k)).no)))]) (B' := (⟨v9 + 1, true, false, 63, 2, [[(V.sl (List.map cI ((nth (o.tr) (k)).ni))), (V.sl (List.map cI ((nth (o.tr) (k)).no)))]]⟩ : Blk)) (@rfl V (V.mp 9 (v9 + 1) 0 0)) (@rfl V (V.agg [(V.sl (List.map cI ((nth (o.tr) (k)).ni))), (V.sl (List.map cI ((nth (o.tr) (k)).no)))])) rfl (@rfl Blk (⟨v9 + 1, true, false, 63, 2, [[V.nilsl, V.nilsl]]⟩ : Blk)) (by first | rfl | simp [stB, okB, Blk.own, putAt, V.one]) ?_
                    exact R_nil ⟨t2, t7, rfl, t23, t24, t25, h2, h3, h7, rfl, trivial⟩
                  · intro T H ⟨t2, t7, t9, t23, t24, t25, h2, h3, h7, h9, _⟩
                    refine W_seq_regc (fun T H => T 2 = (V.mp 2 1 0 0) ∧ T 7 = (V.ms 7 (1 + (rfs h (o.tr.take k)).length) 0 ((rfs h (o.tr.take k)).length)) ∧ T 9 = (V.mp 9 (v9 + 1) 0 0) ∧ T 10 = (V.sl (List.map cI (frOut h.m h.m.s ((nth (o.tr) (k)).ni)))) ∧ T 11 = (iV (frE h.m h.m.s ((nth (o.tr) (k)).ni))) ∧ T 23 = (V.sl (List.map cT (o.tr))) ∧ T 24 = (iV ((o.tr.length : Nat) : Int)) ∧ T 25 = (iV ((k : Nat) : Int)) ∧ H 2 = (⟨1, true, false, 26, 5, [[(iV (h.m.i)), (iV (h.m.s)), (V.sl (List.map cL (h.m.nx))), (V.sl (List.map cL (h.m.ot))), (V.sl (List.map cL (h.acc)))]]⟩ : Blk) ∧ H 3 = (⟨1, true, false, 34, 2, [[(iV (o.i)), (V.sl (List.map cT (o.tr)))]]⟩ : Blk) ∧ H 7 = (⟨1 + (rfs h (o.tr.take k)).length, true, true, 35, 1, (List.map cL (rfs h (o.tr.take k)))⟩ : Blk) ∧ H 9 = (⟨v9 + 1, true, false, 63, 2, [[(V.sl (List.map cI ((nth (o.tr) (k)).ni))), (V.sl (List.map cI ((nth (o.tr) (k)).no)))]]⟩ : Blk) ∧ True) ?_ ?_
                    · unfold r23_7
                      refine R_fld_mp (o' := 0) t2 h2 (by first | rfl | simp [okB, Blk.own]) rfl ?_
                      refine R_load_mp (v := (V.agg [(iV (h.m.i)), (iV (h.m.s)), (V.sl (List.map cL (h.m.nx))), (V.sl (List.map cL (h.m.ot)))])) (@rfl V (V.mp 2 1 0 0)) h2 (by first | rfl | simp [ldB, ldV, Blk.own, V.one]) ?_
                      refine R_fld_mp (o' := 0) t9 h9 (by first | rfl | simp [okB, Blk.own]) rfl ?_
                      refine R_load_mp (v := (V.sl (List.map cI ((nth (o.tr) (k)).ni)))) (@rfl V (V.mp 9 (v9 + 1) 0 0)) h9 (by first | rfl | simp [ldB, ldV, Blk.own, V.one]) ?_
                      refine R_call (evcons (@rfl V (V.agg [(iV (h.m.i)), (iV (h.m.s)), (V.sl (List.map cL (h.m.nx))), (V.sl (List.map cL (h.m.ot)))])) (evcons (@rfl V (V.sl (List.map cI ((nth (o.tr) (k)).ni)))) evnil)) (mrun_pure h.m ((nth (o.tr) (k)).ni)) (fzv_mapcanon _ _ (by simp [-List.map_take, -List.map_drop, -List.map_append, -List.map_reverse])) (by simp [-List.map_take, -List.map_drop, -List.map_append, -List.map_reverse]) (Or.inl (by simp [-List.map_take, -List.map_drop, -List.map_append, -List.map_reverse])) ?_
                      refine R_mv (@rfl V (V.tup [(V.sl (List.map cI (frOut h.m h.m.s ((nth (o.tr) (k)).ni)))), (iV (frE h.m h.m.s ((nth (o.tr) (k)).ni)))])) ?_
                      refine R_ext (v := (V.sl (List.map cI (frOut h.m h.m.s ((nth (o.tr) (k)).ni))))) (@rfl V (V.tup [(V.sl (List.map cI (frOut h.m h.m.s ((nth (o.tr) (k)).ni)))), (iV (frE h.m h.m.s ((nth (o.tr) (k)).ni)))])) rfl ?_
                      refine R_ext (v := (iV (frE h.m h.m.s ((nth (o.tr) (k)).ni)))) (@rfl V (V.tup [(V.sl (List.map cI (frOut h.m h.m.s ((nth (o.tr) (k)).ni)))), (iV (frE h.m h.m.s ((nth (o.tr) (k)).ni)))])) rfl ?_
                      refine R_mv (@rfl V (V.sl (List.map cI (frOut h.m h.m.s ((nth (o.tr) (k)).ni))))) ?_
                      refine R_mv (@rfl V (iV (frE h.m h.m.s ((nth (o.tr) (k)).ni)))) ?_
                      exact R_nil ⟨t2, t7, t9, rfl, rfl, t23, t24, t25, h2, h3, h7, h9, trivial⟩
                    · intro T H ⟨t2, t7, t9, t10, t11, t23, t24, t25, h2, h3, h7, h9, _⟩
                      refine W_seq_seq ?_
                      refine W_seq_regc (fun T H => T 2 = (V.mp 2 1 0 0) ∧ T 7 = (V.ms 7 (1 + (rfs h (o.tr.take k)).length) 0 ((rfs h (o.tr.take k)).length)) ∧ T 9 = (V.mp 9 (v9 + 1) 0 0) ∧ T 10 = (V.sl (List.map cI (frOut h.m h.m.s ((nth (o.tr) (k)).ni)))) ∧ T 11 = (iV (frE h.m h.m.s ((nth (o.tr) (k)).ni))) ∧ T 23 = (V.sl (List.map cT (o.tr))) ∧ T 24 = (iV ((o.tr.length : Nat) : Int)) ∧ T 25 = (iV ((k : Nat) : Int)) ∧ T 38 = (V.bool (decide ((frE h.m h.m.s ((nth (o.tr) (k)).ni)) ≠ (0 : Int)))) ∧ H 2 = (⟨1, true, false, 26, 5, [[(iV (h.m.i)), (iV (h.m.s)), (V.sl (List.map cL (h.m.nx))), (V.sl (List.map cL (h.m.ot))), (V.sl (List.map cL (h.acc)))]]⟩ : Blk) ∧ H 3 = (⟨1, true, false, 34, 2, [[(iV (o.i)), (V.sl (List.map cT (o.tr)))]]⟩ : Blk) ∧ H 7 = (⟨1 + (rfs h (o.tr.take k)).length, true, true, 35, 1, (List.map cL (rfs h (o.tr.take k)))⟩ : Blk) ∧ H 9 = (⟨v9 + 1, true, false, 63, 2, [[(V.sl (List.map cI ((nth (o.tr) (k)).ni))), (V.sl (List.map cI ((nth (o.tr) (k)).no)))]]⟩ : Blk) ∧ True) ?_ ?_
                      · unfold r23_8
                        refine R_mv t11 ?_
                        refine R_neq (x := (frE h.m h.m.s ((nth (o.tr) (k)).ni))) (y := (0 : Int)) (@rfl V (iV (frE h.m h.m.s ((nth (o.tr) (k)).ni)))) (@rfl V (iV (0 : Int))) ?_
                        exact R_nil ⟨t2, t7, t9, t10, t11, t23, t24, t25, rfl, h2, h3, h7, h9, trivial⟩
                      · intro T H ⟨t2, t7, t9, t10, t11, t23, t24, t25, t38, h2, h3, h7, h9, _⟩
                        refine W_seq_if (p := (frE h.m h.m.s ((nth (o.tr) (k)).ni)) ≠ (0 : Int)) t38 (fun c6 => ?_) (fun c6 => ?_)
                        · exfalso; omega
                        ·
                          refine W_seq_skip ?_
                          refine W_seq_regc (fun T H => T 2 = (V.mp 2 1 0 0) ∧ T 7 = (V.ms 7 (1 + (rfs h (o.tr.take k)).length) 0 ((rfs h (o.tr.take k)).length)) ∧ T 9 = (V.mp 9 (v9 + 1) 0 0) ∧ T 12 = (iV ((difn (frOut h.m h.m.s ((nth (o.tr) (k)).ni)) ((nth (o.tr) (k)).no) : Nat) : Int)) ∧ T 13 = (V.bool (decide (cmn (frOut h.m h.m.s ((nth (o.tr) (k)).ni)) ((nth (o.tr) (k)).no) < min (frOut h.m h.m.s ((nth (o.tr) (k)).ni)).length ((nth (o.tr) (k)).no).length))) ∧ T 23 = (V.sl (List.map cT (o.tr))) ∧ T 24 = (iV ((o.tr.length : Nat) : Int)) ∧ T 25 = (iV ((k : Nat) : Int)) ∧ H 2 = (⟨1, true, false, 26, 5, [[(iV (h.m.i)), (iV (h.m.s)), (V.sl (List.map cL (h.m.nx))), (V.sl (List.map cL (h.m.ot))), (V.sl (List.map cL (h.acc)))]]⟩ : Blk) ∧ H 3 = (⟨1, true, false, 34, 2, [[(iV (o.i)), (V.sl (List.map cT (o.tr)))]]⟩ : Blk) ∧ H 7 = (⟨1 + (rfs h (o.tr.take k)).length, true, true, 35, 1, (List.map cL (rfs h (o.tr.take k)))⟩ : Blk) ∧ H 9 = (⟨v9 + 1, true, false, 63, 2, [[(V.sl (List.map cI ((nth (o.tr) (k)).ni))), (V.sl (List.map cI ((nth (o.tr) (k)).no)))]]⟩ : Blk) ∧ True) ?_ ?_
                          · unfold r23_10
                            refine R_mv t10 ?_
                            refine R_fld_mp (o' := 1) t9 h9 (by first | rfl | simp [okB, Blk.own]) rfl ?_
                            refine R_load_mp (v := (V.sl (List.map cI ((nth (o.tr) (k)).no)))) (@rfl V (V.mp 9 (v9 + 1) 0 1)) h9 (by first | rfl | simp [ldB, ldV, Blk.own, V.one]) ?_
                            refine R_call (evcons (@rfl V (V.sl (List.map cI (frOut h.m h.m.s ((nth (o.tr) (k)).ni))))) (evcons (@rfl V (V.sl (List.map cI ((nth (o.tr) (k)).no)))) evnil)) (hdiffer_pure (frOut h.m h.m.s ((nth (o.tr) (k)).ni)) ((nth (o.tr) (k)).no)) (fzv_mapcanon _ _ (by simp [-List.map_take, -List.map_drop, -List.map_append, -List.map_reverse])) (by simp [-List.map_take, -List.map_drop, -List.map_append, -List.map_reverse]) (Or.inl (by simp [-List.map_take, -List.map_drop, -List.map_append, -List.map_reverse])) ?_
                            refine R_mv (@rfl V (V.tup [(iV ((difn (frOut h.m h.m.s ((nth (o.tr) (k)).ni)) ((nth (o.tr) (k)).no) : Nat) : Int)), (V.bool (decide (cmn (frOut h.m h.m.s ((nth (o.tr) (k)).ni)) ((nth (o.tr) (k)).no) < min (frOut h.m h.m.s ((nth (o.tr) (k)).ni)).length ((nth (o.tr) (k)).no).length)))])) ?_
                            refine R_ext (v := (iV ((difn (frOut h.m h.m.s ((nth (o.tr) (k)).ni)) ((nth (o.tr) (k)).no) : Nat) : Int))) (@rfl V (V.tup [(iV ((difn (frOut h.m h.m.s ((nth (o.tr) (k)).ni)) ((nth (o.tr) (k)).no) : Nat) : Int)), (V.bool (decide (cmn (frOut h.m h.m.s ((nth (o.tr) (k)).ni)) ((nth (o.tr) (k)).no) < min (frOut h.m h.m.s ((nth (o.tr) (k)).ni)).length ((nth (o.tr) (k)).no).length)))])) rfl ?_
                            refine R_ext (v := (V.bool (decide (cmn (frOut h.m h.m.s ((nth (o.tr) (k)).ni)) ((nth (o.tr) (k)).no) < min (frOut h.m h.m.s ((nth (o.tr) (k)).ni)).length ((nth (o.tr) (k)).no).length)))) (@rfl V (V.tup [(iV ((difn (frOut h.m h.m.s ((nth (o.tr) (k)).ni)) ((nth (o.tr) (k)).no) : Nat) : Int)), (V.bool (decide (cmn (frOut h.m h.m.s ((nth (o.tr) (k)).ni)) ((nth (o.tr) (k)).no) < min (frOut h.m h.m.s ((nth (o.tr) (k)).ni)).length ((nth (o.tr) (k)).no).length)))])) rfl ?_
                            refine R_mv (@rfl V (iV ((difn (frOut h.m h.m.s ((nth (o.tr) (k)).ni)) ((nth (o.tr) (k)).no) : Nat) : Int))) ?_
                            refine R_mv (@rfl V (V.bool (decide (cmn (frOut h.m h.m.s ((nth (o.tr) (k)).ni)) ((nth (o.tr) (k)).no) < min (frOut h.m h.m.s ((nth (o.tr) (k)).ni)).length ((nth (o.tr) (k)).no).length)))) ?_
                            exact R_nil ⟨t2, t7, t9, rfl, rfl, t23, t24, t25, h2, h3, h7, h9, trivial⟩
                          · intro T H ⟨t2, t7, t9, t12, t13, t23, t24, t25, h2, h3, h7, h9, _⟩
                            refine W_seq_regc (fun T H => T 2 = (V.mp 2 1 0 0) ∧ T 7 = (V.ms 7 (1 + (rfs h (o.tr.take k)).length) 0 ((rfs h (o.tr.take k)).length)) ∧ T 9 = (V.mp 9 (v9 + 1) 0 0) ∧ T 12 = (iV ((difn (frOut h.m h.m.s ((nth (o.tr) (k)).ni)) ((nth (o.tr) (k)).no) : Nat) : Int)) ∧ T 23 = (V.sl (List.map cT (o.tr))) ∧ T 24 = (iV ((o.tr.length : Nat) : Int)) ∧ T 25 = (iV ((k : Nat) : Int)) ∧ T 47 = (V.bool (decide (cmn (frOut h.m h.m.s ((nth (o.tr) (k)).ni)) ((nth (o.tr) (k)).no) < min (frOut h.m h.m.s ((nth (o.tr) (k)).ni)).length ((nth (o.tr) (k)).no).length))) ∧ H 2 = (⟨1, true, false, 26, 5, [[(iV (h.m.i)), (iV (h.m.s)), (V.sl (List.map cL (h.m.nx))), (V.sl (List.map cL (h.m.ot))), (V.sl (List.map cL (h.acc)))]]⟩ : Blk) ∧ H 3 = (⟨1, true, false, 34, 2, [[(iV (o.i)), (V.sl (List.map cT (o.tr)))]]⟩ : Blk) ∧ H 7 = (⟨1 + (rfs h (o.tr.take k)).length, true, true, 35, 1, (List.map cL (rfs h (o.tr.take k)))⟩ : Blk) ∧ H 9 = (⟨v9 + 1, true, false, 63, 2, [[(V.sl (List.map cI ((nth (o.tr) (k)).ni))), (V.sl (List.map cI ((nth (o.tr) (k)).no)))]]⟩ : Blk) ∧ True) ?_ ?_
                            · unfold r23_11
                              refine R_mv t13 ?_
                              exact R_nil ⟨t2, t7, t9, t12, t23, t24, t25, rfl, h2, h3, h7, h9, trivial⟩
                            · intro T H ⟨t2, t7, t9, t12, t23, t24, t25, t47, h2, h3, h7, h9, _⟩
                              refine W_if (p := cmn (frOut h.m h.m.s ((nth (o.tr) (k)).ni)) ((nth (o.tr) (k)).no) < min (frOut h.m h.m.s ((nth (o.tr) (k)).ni)).length ((nth (o.tr) (k)).no).length) t47 (fun c7 => ?_) (fun c7 => ?_)
                              ·
                                have u4 := difn_at c7
                                refine W_regc (fun T H => T 2 = (V.mp 2 1 0 0) ∧ T 7 = (V.ms 7 ((1 + (rfs h (o.tr.take k)).length) + 1) 0 (((rfs h (o.tr.take k)).length) + 1)) ∧ T 23 = (V.sl (List.map cT (o.tr))) ∧ T 24 = (iV ((o.tr.length : Nat) : Int)) ∧ T 25 = (iV ((k : Nat) : Int)) ∧ H 2 = (⟨1, true, false, 26, 5, [[(iV (h.m.i)), (iV (h.m.s)), (V.sl (List.map cL (h.m.nx))), (V.sl (List.map cL (h.m.ot))), (V.sl (List.map cL (h.acc)))]]⟩ : Blk) ∧ H 3 = (⟨1, true, false, 34, 2, [[(iV (o.i)), (V.sl (List.map cT (o.tr)))]]⟩ : Blk) ∧ H 7 = (⟨(1 + (rfs h (o.tr.take k)).length) + 1, true, true, 35, 1, (List.map cL (rfs h (o.tr.take k) ++ [List.take ((difn (frOut h.m h.m.s ((nth (o.tr) (k)).ni)) ((nth (o.tr) (k)).no)) + 1) ((nth (o.tr) (k)).ni)]))⟩ : Blk) ∧ H 9 = (⟨v9 + 1, true, false, 63, 2, [[(V.sl (List.map cI ((nth (o.tr) (k)).ni))), (V.sl (List.map cI ((nth (o.tr) (k)).no)))]]⟩ : Blk) ∧ True) ?_ ?_
                                · unfold r23_12
                                  refine R_mv t7 ?_
                                  refine R_fld_mp (o' := 0) t9 h9 (by first | rfl | simp [okB, Blk.own]) rfl ?_
                                  refine R_load_mp (v := (V.sl (List.map cI ((nth (o.tr) (k)).ni)))) (@rfl V (V.mp 9 (v9 + 1) 0 0)) h9 (by first | rfl | simp [ldB, ldV, Blk.own, V.one]) ?_
                                  refine R_mv t12 ?_
                                  refine R_addN (m := (difn (frOut h.m h.m.s ((nth (o.tr) (k)).ni)) ((nth (o.tr) (k)).no))) (n := 1) (@rfl V (iV ((difn (frOut h.m h.m.s ((nth (o.tr) (k)).ni)) ((nth (o.tr) (k)).no) : Nat) : Int))) (@rfl V (iV ((1 : Nat) : Int))) (by omega) ?_
                                  refine R_slice_hi (n := ((difn (frOut h.m h.m.s ((nth (o.tr) (k)).ni)) ((nth (o.tr) (k)).no)) + 1)) (@rfl V (V.sl (List.map cI ((nth (o.tr) (k)).ni)))) (@rfl V (iV (((difn (frOut h.m h.m.s ((nth (o.tr) (k)).ni)) ((nth (o.tr) (k)).no)) + 1 : Nat) : Int))) (by omega) (fun _ => rfl) ?_
                                  refine R_bslice (qs := [(0, (V.sl (List.map cI (List.take ((difn (frOut h.m h.m.s ((nth (o.tr) (k)).ni)) ((nth (o.tr) (k)).no)) + 1) ((nth (o.tr) (k)).ni)))))]) (rows := [[(V.sl (List.map cI (List.take ((difn (frOut h.m h.m.s ((nth (o.tr) (k)).ni)) ((nth (o.tr) (k)).no)) + 1) ((nth (o.tr) (k)).ni))))]]) (mcons (congrArg (fun v => (0, v)) (@rfl V (V.sl (List.map cI (List.take ((difn (frOut h.m h.m.s ((nth (o.tr) (k)).ni)) ((nth (o.tr) (k)).no)) + 1) ((nth (o.tr) (k)).ni)))))) rfl) rfl ?_
                                  refine R_append1 (l := (rfs h (o.tr.take k))) (f := cL) (x := (List.take ((difn (frOut h.m h.m.s ((nth (o.tr) (k)).ni)) ((nth (o.tr) (k)).no)) + 1) ((nth (o.tr) (k)).ni))) (@rfl V (V.ms 7 (1 + (rfs h (o.tr.take k)).length) 0 ((rfs h (o.tr.take k)).length))) h7 (by first | rfl | simp | omega) (@rfl V (V.sl [[(V.sl (List.map cI (List.take ((difn (frOut h.m h.m.s ((nth (o.tr) (k)).ni)) ((nth (o.tr) (k)).no)) + 1) ((nth (o.tr) (k)).ni))))]])) rfl rfl (by omega) (by omega) ?_
                                  refine R_mv (@rfl V (V.ms 7 ((1 + (rfs h (o.tr.take k)).length) + 1) 0 (((rfs h (o.tr.take k)).length) + 1))) ?_
                                  exact R_nil ⟨t2, rfl, t23, t24, t25, h2, h3, rfl, h9, trivial⟩
                                · intro T H ⟨t2, t7, t23, t24, t25, h2, h3, h7, h9, _⟩
                                  refine n5 _ _ ?_
                                  refine .done ?_
                                  refine W_regc (fun T H => T 2 = (V.mp 2 1 0 0) ∧ T 7 = (V.ms 7 ((1 + (rfs h (o.tr.take k)).length) + 1) 0 (((rfs h (o.tr.take k)).length) + 1)) ∧ T 23 = (V.sl (List.map cT (o.tr))) ∧ T 24 = (iV ((o.tr.length : Nat) : Int)) ∧ T 25 = (iV ((k + 1 : Nat) : Int)) ∧ H 2 = (⟨1, true, false, 26, 5, [[(iV (h.m.i)), (iV (h.m.s)), (V.sl (List.map cL (h.m.nx))), (V.sl (List.map cL (h.m.ot))), (V.sl (List.map cL (h.acc)))]]⟩ : Blk) ∧ H 3 = (⟨1, true, false, 34, 2, [[(iV (o.i)), (V.sl (List.map cT (o.tr)))]]⟩ : Blk) ∧ H 7 = (⟨(1 + (rfs h (o.tr.take k)).length) + 1, true, true, 35, 1, (List.map cL (rfs h (o.tr.take k) ++ [List.take ((difn (frOut h.m h.m.s ((nth (o.tr) (k)).ni)) ((nth (o.tr) (k)).no)) + 1) ((nth (o.tr) (k)).ni)]))⟩ : Blk) ∧ H 9 = (⟨v9 + 1, true, false, 63, 2, [[(V.sl (List.map cI ((nth (o.tr) (k)).ni))), (V.sl (List.map cI ((nth (o.tr) (k)).no)))]]⟩ : Blk) ∧ True) ?_ ?_
                                  · unfold r23_13
                                    refine R_addN (m := k) (n := 1) t25 (@rfl V (iV ((1 : Nat) : Int))) (by omega) ?_
                                    refine R_mv (@rfl V (iV ((k + 1 : Nat) : Int))) ?_
                                    exact R_nil ⟨t2, t7, t23, t24, rfl, h2, h3, h7, h9, trivial⟩
                                  · intro T H ⟨t2, t7, t23, t24, t25, h2, h3, h7, h9, _⟩
                                    refine p13 _ _ _ ?_ ⟨(k + 1), (v9 + 1), rfl, t2, (Eq.trans t7 (by first | rfl | (rw [g1, if_pos (by omega), List.length_append]; rfl) | (rw [g1, if_pos (by omega), u4, List.length_append]; rfl) | (rw [g1, if_neg (by omega), List.append_nil]))), t23, t24, (Eq.trans t25 (by first | rfl | (rw [g1, if_pos (by omega), List.length_append]; rfl) | (rw [g1, if_pos (by omega), u4, List.length_append]; rfl) | (rw [g1, if_neg (by omega), List.append_nil]))), h2, h3, (Eq.trans h7 (by first | rfl | (rw [g1, if_pos (by omega), List.length_append]; rfl) | (rw [g1, if_pos (by omega), u4, List.length_append]; rfl) | (rw [g1, if_neg (by omega), List.append_nil]))), (congrArg Blk.ver h9), ?_⟩
                                    · omega
                                    · omega
                              ·
                                refine W_skip ?_
                                refine n5 _ _ ?_
                                refine .done ?_
                                refine W_regc (fun T H => T 2 = (V.mp 2 1 0 0) ∧ T 7 = (V.ms 7 (1 + (rfs h (o.tr.take k)).length) 0 ((rfs h (o.tr.take k)).length)) ∧ T 23 = (V.sl (List.map cT (o.tr))) ∧ T 24 = (iV ((o.tr.length : Nat) : Int)) ∧ T 25 = (iV ((k + 1 : Nat) : Int)) ∧ H 2 = (⟨1, true, false, 26, 5, [[(iV (h.m.i)), (iV (h.m.s)), (V.sl (List.map cL (h.m.nx))), (V.sl (List.map cL (h.m.ot))), (V.sl (List.map cL (h.acc)))]]⟩ : Blk) ∧ H 3 = (⟨1, true, false, 34, 2, [[(iV (o.i)), (V.sl (List.map cT (o.tr)))]]⟩ : Blk) ∧ H 7 = (⟨1 + (rfs h (o.tr.take k)).length, true, true, 35, 1, (List.map cL (rfs h (o.tr.take k)))⟩ : Blk) ∧ H 9 = (⟨v9 + 1, true, false, 63, 2, [[(V.sl (List.map cI ((nth (o.tr) (k)).ni))), (V.sl (List.map cI ((nth (o.tr) (k)).no)))]]⟩ : Blk) ∧ True) ?_ ?_
                                · unfold r23_13
                                  refine R_addN (m := k) (n := 1) t25 (@rfl V (iV ((1 : Nat) : Int))) (by omega) ?_
                                  refine R_mv (@rfl V (iV ((k + 1 : Nat) : Int))) ?_
                                  exact R_nil ⟨t2, t7, t23, t24, rfl, h2, h3, h7, h9, trivial⟩
                                · intro T H ⟨t2, t7, t23, t24, t25, h2, h3, h7, h9, _⟩
                                  refine p13 _ _ _ ?_ ⟨(k + 1), (v9 + 1), rfl, t2, (Eq.trans t7 (by first | rfl | (rw [g1, if_pos (by omega), List.length_append]; rfl) | (rw [g1, if_pos (by omega), u4, List.length_append]; rfl) | (rw [g1, if_neg (by omega), List.append_nil]))), t23, t24, (Eq.trans t25 (by first | rfl | (rw [g1, if_pos (by omega), List.length_append]; rfl) | (rw [g1, if_pos (by omega), u4, List.length_append]; rfl) | (rw [g1, if_neg (by omega), List.append_nil]))), h2, h3, (Eq.trans h7 (by first | rfl | (rw [g1, if_pos (by omega), List.length_append]; rfl) | (rw [g1, if_pos (by omega), u4, List.length_append]; rfl) | (rw [g1, if_neg (by omega), List.append_nil]))), (congrArg Blk.ver h9), ?_⟩
                                  · omega
                                  · omega
                ·
                  refine W_seq_exit ?_
                  refine p33 _ _ _ ?_
                  refine x2 _ _ ?_
                  refine .freeze 7 (.done ?_)
                  refine fork_ (R := fun T H => T 2 = (V.mp 2 1 0 0) ∧ T 7 = (V.sl (List.map cL (rfs h (o.tr.take k)))) ∧ T 23 = (V.sl (List.map cT (o.tr))) ∧ T 24 = (iV ((o.tr.length : Nat) : Int)) ∧ T 25 = (iV ((k : Nat) : Int)) ∧ T 26 = (V.bool (decide (((k : Nat) : Int) < ((o.tr.length : Nat) : Int)))) ∧ H 2 = (⟨1, true, false, 26, 5, [[(iV (h.m.i)), (iV (h.m.s)), (V.sl (List.map cL (h.m.nx))), (V.sl (List.map cL (h.m.ot))), (V.sl (List.map cL (h.acc)))]]⟩ : Blk) ∧ H 3 = (⟨1, true, false, 34, 2, [[(iV (o.i)), (V.sl (List.map cT (o.tr)))]]⟩ : Blk) ∧ (H 7).ver = 1 + (rfs h (o.tr.take k)).length ∧ (H 9).ver = v9 ∧ True) ⟨(fzT_q t2 rfl), (fzT_q t7 (fzq_own h7 (by first | rfl | simp) (l := (rfs h (o.tr.take k))) rfl (by first | rfl | simp | omega))), (fzT_q t23 rfl), (fzT_q t24 rfl), (fzT_q t25 rfl), (fzT_q t26 rfl), (kill_ne h2 (by decide)), (kill_ne h3 (by decide)), (kill_ver (congrArg Blk.ver h7)), (kill_ver h9), trivial⟩ ?_
                  clear t2 t7 t23 t24 t25 t26 h2 h3 h7 h9 T H
                  intro T H ⟨t2, t7, t23, t24, t25, t26, h2, h3, h7, h9, _⟩
                  refine W_seq_regc (fun T H => T 14 = (V.sl (List.map cI (least (rfs h (o.tr.take k))))) ∧ T 15 = (V.bool (decide ((rfs h (o.tr.take k)) ≠ []))) ∧ H 2 = (⟨1, true, false, 26, 5, [[(iV (h.m.i)), (iV (h.m.s)), (V.sl (List.map cL (h.m.nx))), (V.sl (List.map cL (h.m.ot))), (V.sl (List.map cL (h.acc)))]]⟩ : Blk) ∧ H 3 = (⟨1, true, false, 34, 2, [[(iV (o.i)), (V.sl (List.map cT (o.tr)))]]⟩ : Blk) ∧ (H 7).ver = 1 + (rfs h (o.tr.take k)).length ∧ (H 9).ver = v9 ∧ True) ?_ ?_
                  · unfold r23_14
                    refine R_mv t7 ?_
                    refine R_call (evcons (@rfl V (V.sl (List.map cL (rfs h (o.tr.take k))))) (evcons (@rfl V (V.fn 66 [] [])) evnil)) (hleast_pure (rfs h (o.tr.take k))) (fzv_mapcanon _ _ (by simp [-List.map_take, -List.map_drop, -List.map_append, -List.map_reverse])) (by simp [-List.map_take, -List.map_drop, -List.map_append, -List.map_reverse]) (Or.inl (by simp [-List.map_take, -List.map_drop, -List.map_append, -List.map_reverse])) ?_
                    refine R_mv (@rfl V (V.tup [(V.sl (List.map cI (least (rfs h (o.tr.take k))))), (V.bool (decide ((rfs h (o.tr.take k)) ≠ [])))])) ?_
                    refine R_ext (v := (V.sl (List.map cI (least (rfs h (o.tr.take k)))))) (@rfl V (V.tup [(V.sl (List.map cI (least (rfs h (o.tr.take k))))), (V.bool (decide ((rfs h (o.tr.take k)) ≠ [])))])) rfl ?_
                    refine R_ext (v := (V.bool (decide ((rfs h (o.tr.take k)) ≠ [])))) (@rfl V (V.tup [(V.sl (List.map cI (least (rfs h (o.tr.take k))))), (V.bool (decide ((rfs h (o.tr.take k)) ≠ [])))])) rfl ?_
                    refine R_mv (@rfl V (V.sl (List.map cI (least (rfs h (o.tr.take k)))))) ?_
                    refine R_mv (@rfl V (V.bool (decide ((rfs h (o.tr.take k)) ≠ [])))) ?_
                    exact R_nil ⟨rfl, rfl, h2, h3, h7, h9, trivial⟩
                  · intro T H ⟨t14, t15, h2, h3, h7, h9, _⟩
                    refine W_seq_regc (fun T H => T 4 = (V.sl (List.map cI ((least (rfs h (o.tr.take k)))))) ∧ T 5 = (V.bool (decide ((rfs h (o.tr.take k)) ≠ []))) ∧ T 6 = (iV (0 : Int)) ∧ H 2 = (⟨1, true, false, 26, 5, [[(iV (h.m.i)), (iV (h.m.s)), (V.sl (List.map cL (h.m.nx))), (V.sl (List.map cL (h.m.ot))), (V.sl (List.map cL (h.acc)))]]⟩ : Blk) ∧ H 3 = (⟨1, true, false, 34, 2, [[(iV (o.i)), (V.sl (List.map cT (o.tr)))]]⟩ : Blk) ∧ (H 7).ver = 1 + (rfs h (o.tr.take k)).length ∧ (H 9).ver = v9 ∧ True) ?_ ?_
                    · unfold r23_15
                      refine R_mv t14 ?_
                      refine R_call (evcons (@rfl V (V.sl (List.map cI (least (rfs h (o.tr.take k)))))) evnil) (clone_pure (least (rfs h (o.tr.take k))) (by have := rfs_least (h := h) u2 k; omega)) (fzv_mapcanon _ _ (by simp [-List.map_take, -List.map_drop, -List.map_append, -List.map_reverse])) (by simp [-List.map_take, -List.map_drop, -List.map_append, -List.map_reverse]) (Or.inl (by simp [-List.map_take, -List.map_drop, -List.map_append, -List.map_reverse])) ?_
                      refine R_mv t15 ?_
                      refine R_mv (@rfl V (V.sl (List.map cI ((least (rfs h (o.tr.take k))))))) ?_
                      refine R_mv (@rfl V (V.bool (decide ((rfs h (o.tr.take k)) ≠ [])))) ?_
                      refine R_mv (@rfl V (iV (0 : Int))) ?_
                      exact R_nil ⟨rfl, rfl, rfl, h2, h3, h7, h9, trivial⟩
                    · intro T H ⟨t4, t5, t6, h2, h3, h7, h9, _⟩
                      refine W_ret ?_
                      refine Ret_3 t4 t5 t6 (fz_sl ?_ (fun _ => by simp)) (fz_bool ?_) (fz_int ?_)
                      · (have e : k = o.tr.length := (by omega)); subst e; rw [List.take_length]; rw [if_neg d1]
                      · (have e : k = o.tr.length := (by omega)); subst e; rw [List.take_length]; simp [show h.m.i = o.i by omega]
                      · rw [if_neg d1]

end Go.Proofs.Ytngkckefanbhgaa

namespace Go.Proofs.Ytngkckefanbhgaa
open Go Go.Proofs

theorem rhrefuted_pure (h : Hy) (o : Ob) (hv : hval h = 0) (ho : oval o = 0) : PureC Try.prog 24 [(V.agg [(iV (h.m.i)), (iV (h.m.s)), (V.sl (List.map cL (h.m.nx))), (V.sl (List.map cL (h.m.ot))), (V.sl (List.map cL (h.acc)))]), (V.agg [(iV (o.i)), (V.sl (List.map cT (o.tr)))])] (V.tup [(V.sl (List.map cI (if h.m.i ≠ o.i then [] else least (rfs h o.tr)))), (V.bool (decide (h.m.i = o.i ∧ rfs h o.tr ≠ []))), (iV (if h.m.i ≠ o.i then (15 : Int) else 0))]) := by
  refine pure_of_Wb true 6 Try.func24 s24_ok (by kernel_rfl) (by simp [s24]) (by simp) (by simp) fun hB => ?_
  simp only [bnd_map, bnd_int, bnd_bool, bnd_str, bnd_agg, bnd_pp, bnd_nil, bnd_cons, implies_true, and_true, true_and] at hB
  unfold s24
  dsimp only
  have u1 := hval_ok hv
  have u2 := oval_ok ho
  have u5 := mval_ok u1.1
  refine W_seq_regc (fun T H => T 2 = (V.mp 2 1 0 0) ∧ T 3 = (V.mp 3 1 0 0) ∧ H 2 = (⟨1, true, false, 26, 5, [[(iV (h.m.i)), (iV (h.m.s)), (V.sl (List.map cL (h.m.nx))), (V.sl (List.map cL (h.m.ot))), (V.sl (List.map cL (h.acc)))]]⟩ : Blk) ∧ H 3 = (⟨1, true, false, 34, 2, [[(iV (o.i)), (V.sl (List.map cT (o.tr)))]]⟩ : Blk) ∧ H 10 = (⟨0, false, false, 0, 0, []⟩ : Blk) ∧ True) ?_ ?_
  · unfold r24_0
    refine R_box (i := 2) (n := 0) (m := 5) (cs := [(iV (h.m.i)), (iV (h.m.s)), (V.sl (List.map cL (h.m.nx))), (V.sl (List.map cL (h.m.ot))), (V.sl (List.map cL (h.acc)))]) rfl (congrArg Blk.ver rfl) (@rfl V (V.agg [(iV (h.m.i)), (iV (h.m.s)), (V.sl (List.map cL (h.m.nx))), (V.sl (List.map cL (h.m.ot))), (V.sl (List.map cL (h.acc)))])) rfl rfl ?_
    refine R_box (i := 3) (n := 0) (m := 2) (cs := [(iV (o.i)), (V.sl (List.map cT (o.tr)))]) rfl (congrArg Blk.ver rfl) (@rfl V (V.agg [(iV (o.i)), (V.sl (List.map cT (o.tr)))])) rfl rfl ?_
    refine R_mv (@rfl V V.nilsl) ?_
    refine R_mv (@rfl V (V.bool false)) ?_
    refine R_mv (@rfl V (iV (0 : Int))) ?_
    exact R_nil ⟨rfl, rfl, rfl, rfl, rfl, trivial⟩
  · intro T H ⟨t2, t3, h2, h3, h10, _⟩
    refine W_seq_seq ?_
    refine W_seq_regc (fun T H => T 2 = (V.mp 2 1 0 0) ∧ T 3 = (V.mp 3 1 0 0) ∧ T 19 = (V.bool (decide ((h.m.i) ≠ (o.i)))) ∧ H 2 = (⟨1, true, false, 26, 5, [[(iV (h.m.i)), (iV (h.m.s)), (V.sl (List.map cL (h.m.nx))), (V.sl (List.map cL (h.m.ot))), (V.sl (List.map cL (h.acc)))]]⟩ : Blk) ∧ H 3 = (⟨1, true, false, 34, 2, [[(iV (o.i)), (V.sl (List.map cT (o.tr)))]]⟩ : Blk) ∧ H 10 = (⟨0, false, false, 0, 0, []⟩ : Blk) ∧ True) ?_ ?_
    · unfold r24_1
      refine R_fld_mp (o' := 0) t2 h2 (by first | rfl | simp [okB, Blk.own]) rfl ?_
      refine R_fld_mp (o' := 0) (@rfl V (V.mp 2 1 0 0)) h2 (by first | rfl | simp [okB, Blk.own]) rfl ?_
      refine R_load_mp (v := (iV (h.m.i))) (@rfl V (V.mp 2 1 0 0)) h2 (by first | rfl | simp [ldB, ldV, Blk.own, V.one]) ?_
      refine R_fld_mp (o' := 0) t3 h3 (by first | rfl | simp [okB, Blk.own]) rfl ?_
      refine R_load_mp (v := (iV (o.i))) (@rfl V (V.mp 3 1 0 0)) h3 (by first | rfl | simp [ldB, ldV, Blk.own, V.one]) ?_
      refine R_neq (x := (h.m.i)) (y := (o.i)) (@rfl V (iV (h.m.i))) (@rfl V (iV (o.i))) ?_
      exact R_nil ⟨t2, t3, rfl, h2, h3, h10, trivial⟩
    · intro T H ⟨t2, t3, t19, h2, h3, h10, _⟩
      refine W_seq_if (p := (h.m.i) ≠ (o.i)) t19 (fun c1 => ?_) (fun c1 => ?_)
      ·
        have d1 := c1
        refine W_seq_seq ?_
        refine W_seq_regc (fun T H => T 4 = V.nilsl ∧ T 5 = (V.bool false) ∧ T 6 = (iV (15 : Int)) ∧ H 2 = (⟨1, true, false, 26, 5, [[(iV (h.m.i)), (iV (h.m.s)), (V.sl (List.map cL (h.m.nx))), (V.sl (List.map cL (h.m.ot))), (V.sl (List.map cL (h.acc)))]]⟩ : Blk) ∧ H 3 = (⟨1, true, false, 34, 2, [[(iV (o.i)), (V.sl (List.map cT (o.tr)))]]⟩ : Blk) ∧ H 10 = (⟨0, false, false, 0, 0, []⟩ : Blk) ∧ True) ?_ ?_
        · unfold r24_2
          refine R_mv (@rfl V V.nilsl) ?_
          refine R_mv (@rfl V (V.bool false)) ?_
          refine R_mv (@rfl V (iV (15 : Int))) ?_
          exact R_nil ⟨rfl, rfl, rfl, h2, h3, h10, trivial⟩
        · intro T H ⟨t4, t5, t6, h2, h3, h10, _⟩
          refine W_seq_ret ?_
          refine Ret_3 t4 t5 t6 (fz_nil ?_) (fz_bool ?_) (fz_int ?_)
          · rw [if_pos d1]
          · exact (decide_eq_false (by omega)).symm
          · rw [if_pos d1]
      ·
        have d1 := c1
        refine W_seq_skip ?_
        refine W_seq_regc (fun T H => T 2 = (V.mp 2 1 0 0) ∧ T 3 = (V.mp 3 1 0 0) ∧ T 7 = V.nilsl ∧ H 2 = (⟨1, true, false, 26, 5, [[(iV (h.m.i)), (iV (h.m.s)), (V.sl (List.map cL (h.m.nx))), (V.sl (List.map cL (h.m.ot))), (V.sl (List.map cL (h.acc)))]]⟩ : Blk) ∧ H 3 = (⟨1, true, false, 34, 2, [[(iV (o.i)), (V.sl (List.map cT (o.tr)))]]⟩ : Blk) ∧ H 10 = (⟨0, false, false, 0, 0, []⟩ : Blk) ∧ True) ?_ ?_
        · unfold r24_3
          refine R_mv (@rfl V V.nilsl) ?_
          exact R_nil ⟨t2, t3, rfl, h2, h3, h10, trivial⟩
        · intro T H ⟨t2, t3, t7, h2, h3, h10, _⟩
          refine W_seq_regc (fun T H => T 2 = (V.mp 2 1 0 0) ∧ T 3 = (V.mp 3 1 0 0) ∧ T 7 = V.nilsl ∧ T 8 = (V.bool false) ∧ H 2 = (⟨1, true, false, 26, 5, [[(iV (h.m.i)), (iV (h.m.s)), (V.sl (List.map cL (h.m.nx))), (V.sl (List.map cL (h.m.ot))), (V.sl (List.map cL (h.acc)))]]⟩ : Blk) ∧ H 3 = (⟨1, true, false, 34, 2, [[(iV (o.i)), (V.sl (List.map cT (o.tr)))]]⟩ : Blk) ∧ H 10 = (⟨0, false, false, 0, 0, []⟩ : Blk) ∧ True) ?_ ?_
          · unfold r24_4
            refine R_mv (@rfl V (V.bool false)) ?_
            exact R_nil ⟨t2, t3, t7, rfl, h2, h3, h10, trivial⟩
          · intro T H ⟨t2, t3, t7, t8, h2, h3, h10, _⟩
            refine W_seq_seq ?_
            refine W_seq_g (fun T H => T 2 = (V.mp 2 1 0 0) ∧ T 3 = (V.mp 3 1 0 0) ∧ T 7 = V.nilsl ∧ T 8 = (V.bool false) ∧ T 9 = (iV (0 : Int)) ∧ H 2 = (⟨1, true, false, 26, 5, [[(iV (h.m.i)), (iV (h.m.s)), (V.sl (List.map cL (h.m.nx))), (V.sl (List.map cL (h.m.ot))), (V.sl (List.map cL (h.acc)))]]⟩ : Blk) ∧ H 3 = (⟨1, true, false, 34, 2, [[(iV (o.i)), (V.sl (List.map cT (o.tr)))]]⟩ : Blk) ∧ H 10 = (⟨0, false, false, 0, 0, []⟩ : Blk) ∧ True) ?_ ?_
            · unfold r24_5
              refine R_mv (@rfl V (iV (0 : Int))) ?_
              exact R_nil ⟨t2, t3, t7, t8, rfl, h2, h3, h10, trivial⟩
            · intro T H ⟨t2, t3, t7, t8, t9, h2, h3, h10, _⟩
              refine G_nil t7 ?_
              refine fork_ (R := fun T H => T 2 = (V.mp 2 1 0 0) ∧ T 3 = (V.mp 3 1 0 0) ∧ T 7 = (V.sl []) ∧ T 8 = (V.bool false) ∧ T 9 = (iV (0 : Int)) ∧ H 2 = (⟨1, true, false, 26, 5, [[(iV (h.m.i)), (iV (h.m.s)), (V.sl (List.map cL (h.m.nx))), (V.sl (List.map cL (h.m.ot))), (V.sl (List.map cL (h.acc)))]]⟩ : Blk) ∧ H 3 = (⟨1, true, false, 34, 2, [[(iV (o.i)), (V.sl (List.map cT (o.tr)))]]⟩ : Blk) ∧ H 10 = (⟨0, false, false, 0, 0, []⟩ : Blk) ∧ True) ⟨((upd_ne _ _ (by decide)).trans t2), ((upd_ne _ _ (by decide)).trans t3), (upd_same _ _ _), ((upd_ne _ _ (by decide)).trans t8), ((upd_ne _ _ (by decide)).trans t9), h2, h3, h10, trivial⟩ ?_
              clear t2 t3 t7 t8 t9 h2 h3 h10 T H
              intro T H ⟨t2, t3, t7, t8, t9, h2, h3, h10, _⟩
              refine W_seq_blockg fun Q2 n2 x2 y2 z2 => ?_
              refine W_loop (fun mm T H => ∃ (k : Nat) (v10 : Nat), mm = o.tr.length - k ∧ T 2 = (V.mp 2 1 0 0) ∧ T 3 = (V.mp 3 1 0 0) ∧ T 7 = (V.sl (List.map cI (least (rfs h (o.tr.take k))))) ∧ T 8 = (V.bool (decide (rfs h (o.tr.take k) ≠ []))) ∧ T 9 = (iV ((k : Nat) : Int)) ∧ H 2 = (⟨1, true, false, 26, 5, [[(iV (h.m.i)), (iV (h.m.s)), (V.sl (List.map cL (h.m.nx))), (V.sl (List.map cL (h.m.ot))), (V.sl (List.map cL (h.acc)))]]⟩ : Blk) ∧ H 3 = (⟨1, true, false, 34, 2, [[(iV (o.i)), (V.sl (List.map cT (o.tr)))]]⟩ : Blk) ∧ (H 10).ver = v10 ∧ (k ≤ o.tr.length)) ?_ ?_
              · refine ⟨_, 0, 0, rfl, t2, t3, (Eq.trans t7 (by first | rfl | (simp [rfs]; done) | (rw [d5.1]; done) | (rw [d5.1]; simp [cat]; done) | (simp [d5.2]; done) | (simp only [d5.2]; done))), (Eq.trans t8 (by first | rfl | (simp [rfs]; done) | (rw [d5.1]; done) | (rw [d5.1]; simp [cat]; done) | (simp [d5.2]; done) | (simp only [d5.2]; done))), (Eq.trans t9 (by first | rfl | (simp [rfs]; done) | (rw [d5.1]; done) | (rw [d5.1]; simp [cat]; done) | (simp [d5.2]; done) | (simp only [d5.2]; done))), h2, h3, (congrArg Blk.ver h10), ?_⟩
                · omega
              · intro mm T H ⟨k, v10, hmm, t2, t3, t7, t8, t9, h2, h3, h10, hk⟩ Q3 p13 p23 p33
                unfold b24_0
                refine W_seq_seq ?_
                refine W_seq_regc (fun T H => T 2 = (V.mp 2 1 0 0) ∧ T 3 = (V.mp 3 1 0 0) ∧ T 7 = (V.sl (List.map cI (least (rfs h (o.tr.take k))))) ∧ T 8 = (V.bool (decide (rfs h (o.tr.take k) ≠ []))) ∧ T 9 = (iV ((k : Nat) : Int)) ∧ T 24 = (V.bool (decide (((k : Nat) : Int) < ((o.tr.length : Nat) : Int)))) ∧ H 2 = (⟨1, true, false, 26, 5, [[(iV (h.m.i)), (iV (h.m.s)), (V.sl (List.map cL (h.m.nx))), (V.sl (List.map cL (h.m.ot))), (V.sl (List.map cL (h.acc)))]]⟩ : Blk) ∧ H 3 = (⟨1, true, false, 34, 2, [[(iV (o.i)), (V.sl (List.map cT (o.tr)))]]⟩ : Blk) ∧ (H 10).ver = v10 ∧ True) ?_ ?_
                · unfold r24_6
                  refine R_mv t9 ?_
                  refine R_fld_mp (o' := 1) t3 h3 (by first | rfl | simp [okB, Blk.own]) rfl ?_
                  refine R_load_mp (v := (V.sl (List.map cT (o.tr)))) (@rfl V (V.mp 3 1 0 1)) h3 (by first | rfl | simp [ldB, ldV, Blk.own, V.one]) ?_
                  refine R_len (@rfl V (V.sl (List.map cT (o.tr)))) ?_
                  refine R_lss (x := ((k : Nat) : Int)) (y := ((o.tr.length : Nat) : Int)) (@rfl V (iV ((k : Nat) : Int))) (@rfl V (iV ((o.tr.length : Nat) : Int))) ?_
                  exact R_nil ⟨t2, t3, t7, t8, t9, rfl, h2, h3, h10, trivial⟩
                · intro T H ⟨t2, t3, t7, t8, t9, t24, h2, h3, h10, _⟩
                  refine W_seq_if (p := ((k : Nat) : Int) < ((o.tr.length : Nat) : Int)) t24 (fun c4 => ?_) (fun c4 => ?_)
                  ·
                    have u3 := u2.pr k (by omega)
                    have u6 := u3.1.lel
                    have u7 := u3.1.len
                    have g1 := rfs_take (h := h) (l := o.tr) (k := k) (by omega)
                    rw [rf1] at g1
                    have g6 := outs_len h.m (nth o.tr k).ni h.m.s
                    refine W_seq_skip ?_
                    refine W_seq_blockg fun Q5 n5 x5 y5 z5 => ?_
                    refine W_seq_regc (fun T H => T 2 = (V.mp 2 1 0 0) ∧ T 3 = (V.mp 3 1 0 0) ∧ T 7 = (V.sl (List.map cI (least (rfs h (o.tr.take k))))) ∧ T 8 = (V.bool (decide (rfs h (o.tr.take k) ≠ []))) ∧ T 9 = (iV ((k : Nat) : Int)) ∧ T 10 = (V.mp 10 (v10 + 1) 0 0) ∧ H 2 = (⟨1, true, false, 26, 5, [[(iV (h.m.i)), (iV (h.m.s)), (V.sl (List.map cL (h.m.nx))), (V.sl (List.map cL (h.m.ot))), (V.sl (List.map cL (h.acc)))]]⟩ : Blk) ∧ H 3 = (⟨1, true, false, 34, 2, [[(iV (o.i)), (V.sl (List.map cT (o.tr)))]]⟩ : Blk) ∧ H 10 = (⟨v10 + 1, true, false, 63, 2, [[(V.sl (List.map cI ((nth (o.tr) (k)).ni))), (V.sl (List.map cI ((nth (o.tr) (k)).no)))]]⟩ : Blk) ∧ True) ?_ ?_
                    · unfold r24_8
                      refine R_fld_mp (o' := 1) t3 h3 (by first | rfl | simp [okB, Blk.own]) rfl ?_
                      refine R_load_mp (v := (V.sl (List.map cT (o.tr)))) (@rfl V (V.mp 3 1 0 1)) h3 (by first | rfl | simp [ldB, ldV, Blk.own, V.one]) ?_
                      refine R_mv t9 ?_
                      refine R_idx (i := k) (@rfl V (V.sl (List.map cT (o.tr)))) (@rfl V (iV ((k : Nat) : Int))) (by omega) rfl ?_
                      refine R_load_pp (v := (V.agg [(V.sl (List.map cI ((nth (o.tr) (k)).ni))), (V.sl (List.map cI ((nth (o.tr) (k)).no)))])) (@rfl V (V.pp [(V.sl (List.map cI ((nth (o.tr) (k)).ni))), (V.sl (List.map cI ((nth (o.tr) (k)).no)))])) (by first | rfl | simp [ldV]) ?_
                      refine R_alloc (i := 10) (n := v10) (m := 2) rfl h10 rfl ?_
                      refine R_store (vs := [(V.sl (List.map cI ((nth (o.tr) (k)).ni))), (V.sl (List.map cI ((nth (o.tr) (k)).no)))]) (B' := (⟨v10 + 1, true, false, 63, 2, [[(V.sl (List.map cI ((nth (o.tr) (k)).ni))), (V.sl (List.map cI ((nth (o.tr) (k)).no)))]]⟩ : Blk)) (@rfl V (V.mp 10 (v10 + 1) 0 0)) (@rfl V (V.agg [(V.sl (List.map cI ((nth (o.tr) (k)).ni))), (V.sl (List.map cI ((nth (o.tr) (k)).no)))])) rfl (@rfl Blk (⟨v10 + 1, true, false, 63, 2, [[V.nilsl, V.nilsl]]⟩ : Blk)) (by first | rfl | simp [stB, okB, Blk.own, putAt, V.one]) ?_
                      exact R_nil ⟨t2, t3, t7, t8, t9, rfl, h2, h3, rfl, trivial⟩
                    · intro T H ⟨t2, t3, t7, t8, t9, t10, h2, h3, h10, _⟩
                      refine W_seq_regc (fun T H => T 2 = (V.mp 2 1 0 0) ∧ T 3 = (V.mp 3 1 0 0) ∧ T 7 = (V.sl (List.map cI (least (rfs h (o.tr.take k))))) ∧ T 8 = (V.bool (decide (rfs h (o.tr.take k) ≠ []))) ∧ T 9 = (iV ((k : Nat) : Int)) ∧ T 10 = (V.mp 10 (v10 + 1) 0 0) ∧ T 11 = (V.sl (List.map cI (outs h.m ((h.m.s)) ((nth (o.tr) (k)).ni)))) ∧ H 2 = (⟨1, true, false, 26, 5, [[(iV (h.m.i)), (iV (h.m.s)), (V.sl (List.map cL (h.m.nx))), (V.sl (List.map cL (h.m.ot))), (V.sl (List.map cL (h.acc)))]]⟩ : Blk) ∧ H 3 = (⟨1, true, false, 34, 2, [[(iV (o.i)), (V.sl (List.map cT (o.tr)))]]⟩ : Blk) ∧ H 10 = (⟨v10 + 1, true, false, 63, 2, [[(V.sl (List.map cI ((nth (o.tr) (k)).ni))), (V.sl (List.map cI ((nth (o.tr) (k)).no)))]]⟩ : Blk) ∧ True) ?_ ?_
                      · unfold r24_9
                        refine R_fld_mp (o' := 0) t2 h2 (by first | rfl | simp [okB, Blk.own]) rfl ?_
                        refine R_load_mp (v := (V.agg [(iV (h.m.i)), (iV (h.m.s)), (V.sl (List.map cL (h.m.nx))), (V.sl (List.map cL (h.m.ot)))])) (@rfl V (V.mp 2 1 0 0)) h2 (by first | rfl | simp [ldB, ldV, Blk.own, V.one]) ?_
                        refine R_fld_mp (o' := 0) t2 h2 (by first | rfl | simp [okB, Blk.own]) rfl ?_
                        refine R_fld_mp (o' := 1) (@rfl V (V.mp 2 1 0 0)) h2 (by first | rfl | simp [okB, Blk.own]) rfl ?_
                        refine R_load_mp (v := (iV (h.m.s))) (@rfl V (V.mp 2 1 0 1)) h2 (by first | rfl | simp [ldB, ldV, Blk.own, V.one]) ?_
                        refine R_fld_mp (o' := 0) t10 h10 (by first | rfl | simp [okB, Blk.own]) rfl ?_
                        refine R_load_mp (v := (V.sl (List.map cI ((nth (o.tr) (k)).ni)))) (@rfl V (V.mp 10 (v10 + 1) 0 0)) h10 (by first | rfl | simp [ldB, ldV, Blk.own, V.one]) ?_
                        refine R_call (evcons (@rfl V (V.agg [(iV (h.m.i)), (iV (h.m.s)), (V.sl (List.map cL (h.m.nx))), (V.sl (List.map cL (h.m.ot)))])) (evcons (@rfl V (iV (h.m.s))) (evcons (@rfl V (V.sl (List.map cI ((nth (o.tr) (k)).ni)))) evnil))) (outs_pure h.m ((h.m.s)) ((nth (o.tr) (k)).ni) u1.1 ⟨u5.2.2.2.2.1, u5.2.2.2.2.2.1⟩ u6 (fun j hj => by have := u3.1.sym j hj; omega)) (fzv_mapcanon _ _ (by simp [-List.map_take, -List.map_drop, -List.map_append, -List.map_reverse])) (by simp [-List.map_take, -List.map_drop, -List.map_append, -List.map_reverse]) (Or.inl (by simp [-List.map_take, -List.map_drop, -List.map_append, -List.map_reverse])) ?_
                        refine R_mv (@rfl V (V.tup [(V.sl (List.map cI (outs h.m ((h.m.s)) ((nth (o.tr) (k)).ni)))), (iV (goal h.m ((h.m.s)) ((nth (o.tr) (k)).ni)))])) ?_
                        refine R_ext (v := (V.sl (List.map cI (outs h.m ((h.m.s)) ((nth (o.tr) (k)).ni))))) (@rfl V (V.tup [(V.sl (List.map cI (outs h.m ((h.m.s)) ((nth (o.tr) (k)).ni)))), (iV (goal h.m ((h.m.s)) ((nth (o.tr) (k)).ni)))])) rfl ?_
                        refine R_ext (v := (iV (goal h.m ((h.m.s)) ((nth (o.tr) (k)).ni)))) (@rfl V (V.tup [(V.sl (List.map cI (outs h.m ((h.m.s)) ((nth (o.tr) (k)).ni)))), (iV (goal h.m ((h.m.s)) ((nth (o.tr) (k)).ni)))])) rfl ?_
                        refine R_mv (@rfl V (V.sl (List.map cI (outs h.m ((h.m.s)) ((nth (o.tr) (k)).ni))))) ?_
                        refine R_mv (@rfl V (iV (goal h.m ((h.m.s)) ((nth (o.tr) (k)).ni)))) ?_
                        exact R_nil ⟨t2, t3, t7, t8, t9, t10, rfl, h2, h3, h10, trivial⟩
                      · intro T H ⟨t2, t3, t7, t8, t9, t10, t11, h2, h3, h10, _⟩
                        refine W_seq_regc (fun T H => T 2 = (V.mp 2 1 0 0) ∧ T 3 = (V.mp 3 1 0 0) ∧ T 7 = (V.sl (List.map cI (least (rfs h (o.tr.take k))))) ∧ T 8 = (V.bool (decide (rfs h (o.tr.take k) ≠ []))) ∧ T 9 = (iV ((k : Nat) : Int)) ∧ T 10 = (V.mp 10 (v10 + 1) 0 0) ∧ T 11 = (V.sl (List.map cI (outs h.m ((h.m.s)) ((nth (o.tr) (k)).ni)))) ∧ T 13 = (iV ((cmn (outs h.m ((h.m.s)) ((nth (o.tr) (k)).ni)) ((nth (o.tr) (k)).no) : Nat) : Int)) ∧ H 2 = (⟨1, true, false, 26, 5, [[(iV (h.m.i)), (iV (h.m.s)), (V.sl (List.map cL (h.m.nx))), (V.sl (List.map cL (h.m.ot))), (V.sl (List.map cL (h.acc)))]]⟩ : Blk) ∧ H 3 = (⟨1, true, false, 34, 2, [[(iV (o.i)), (V.sl (List.map cT (o.tr)))]]⟩ : Blk) ∧ H 10 = (⟨v10 + 1, true, false, 63, 2, [[(V.sl (List.map cI ((nth (o.tr) (k)).ni))), (V.sl (List.map cI ((nth (o.tr) (k)).no)))]]⟩ : Blk) ∧ True) ?_ ?_
                        · unfold r24_10
                          refine R_mv t11 ?_
                          refine R_fld_mp (o' := 1) t10 h10 (by first | rfl | simp [okB, Blk.own]) rfl ?_
                          refine R_load_mp (v := (V.sl (List.map cI ((nth (o.tr) (k)).no)))) (@rfl V (V.mp 10 (v10 + 1) 0 1)) h10 (by first | rfl | simp [ldB, ldV, Blk.own, V.one]) ?_
                          have q6 := cmn_l (outs h.m ((h.m.s)) ((nth (o.tr) (k)).ni)) ((nth (o.tr) (k)).no)
                          have q7 := cmn_r (outs h.m ((h.m.s)) ((nth (o.tr) (k)).ni)) ((nth (o.tr) (k)).no)
                          refine R_call (evcons (@rfl V (V.sl (List.map cI (outs h.m ((h.m.s)) ((nth (o.tr) (k)).ni))))) (evcons (@rfl V (V.sl (List.map cI ((nth (o.tr) (k)).no)))) evnil)) (rcommon_pure (outs h.m ((h.m.s)) ((nth (o.tr) (k)).ni)) ((nth (o.tr) (k)).no)) (fzv_mapcanon _ _ (by simp [-List.map_take, -List.map_drop, -List.map_append, -List.map_reverse])) (by simp [-List.map_take, -List.map_drop, -List.map_append, -List.map_reverse]) (Or.inl (by simp [-List.map_take, -List.map_drop, -List.map_append, -List.map_reverse])) ?_
                          refine R_mv (@rfl V (iV ((cmn (outs h.m ((h.m.s)) ((nth (o.tr) (k)).ni)) ((nth (o.tr) (k)).no) : Nat) : Int))) ?_
                          exact R_nil ⟨t2, t3, t7, t8, t9, t10, t11, rfl, h2, h3, h10, trivial⟩
                        · intro T H ⟨t2, t3, t7, t8, t9, t10, t11, t13, h2, h3, h10, _⟩
                          have q8 := cmn_l (outs h.m ((h.m.s)) ((nth (o.tr) (k)).ni)) ((nth (o.tr) (k)).no)
                          have q9 := cmn_r (outs h.m ((h.m.s)) ((nth (o.tr) (k)).ni)) ((nth (o.tr) (k)).no)
                          refine W_seq_regc (fun T H => T 2 = (V.mp 2 1 0 0) ∧ T 3 = (V.mp 3 1 0 0) ∧ T 7 = (V.sl (List.map cI (least (rfs h (o.tr.take k))))) ∧ T 8 = (V.bool (decide (rfs h (o.tr.take k) ≠ []))) ∧ T 9 = (iV ((k : Nat) : Int)) ∧ T 10 = (V.mp 10 (v10 + 1) 0 0) ∧ T 13 = (iV ((cmn (outs h.m ((h.m.s)) ((nth (o.tr) (k)).ni)) ((nth (o.tr) (k)).no) : Nat) : Int)) ∧ T 64 = (V.bool (decide ((((cmn (outs h.m ((h.m.s)) ((nth (o.tr) (k)).ni)) ((nth (o.tr) (k)).no) : Nat) : Int) < (((outs h.m ((h.m.s)) ((nth (o.tr) (k)).ni)).length : Nat) : Int)) ∧ ((¬(rfs h (o.tr.take k) ≠ [])) ∨ ((slx (List.take ((cmn (outs h.m ((h.m.s)) ((nth (o.tr) (k)).ni)) ((nth (o.tr) (k)).no)) + 1) ((nth (o.tr) (k)).ni)) (least (rfs h (o.tr.take k)))) < (0 : Int)))))) ∧ H 2 = (⟨1, true, false, 26, 5, [[(iV (h.m.i)), (iV (h.m.s)), (V.sl (List.map cL (h.m.nx))), (V.sl (List.map cL (h.m.ot))), (V.sl (List.map cL (h.acc)))]]⟩ : Blk) ∧ H 3 = (⟨1, true, false, 34, 2, [[(iV (o.i)), (V.sl (List.map cT (o.tr)))]]⟩ : Blk) ∧ H 10 = (⟨v10 + 1, true, false, 63, 2, [[(V.sl (List.map cI ((nth (o.tr) (k)).ni))), (V.sl (List.map cI ((nth (o.tr) (k)).no)))]]⟩ : Blk) ∧ True) ?_ ?_
                          · unfold r24_11
                            refine R_mv t13 ?_
                            refine R_mv t11 ?_
                            refine R_len (@rfl V (V.sl (List.map cI (outs h.m ((h.m.s)) ((nth (o.tr) (k)).ni))))) ?_
                            refine R_lss (x := ((cmn (outs h.m ((h.m.s)) ((nth (o.tr) (k)).ni)) ((nth (o.tr) (k)).no) : Nat) : Int)) (y := (((outs h.m ((h.m.s)) ((nth (o.tr) (k)).ni)).length : Nat) : Int)) (@rfl V (iV ((cmn (outs h.m ((h.m.s)) ((nth (o.tr) (k)).ni)) ((nth (o.tr) (k)).no) : Nat) : Int))) (@rfl V (iV (((outs h.m ((h.m.s)) ((nth (o.tr) (k)).ni)).length : Nat) : Int))) ?_
                            refine R_mv (@rfl V (V.bool (decide (((cmn (outs h.m ((h.m.s)) ((nth (o.tr) (k)).ni)) ((nth (o.tr) (k)).no) : Nat) : Int) < (((outs h.m ((h.m.s)) ((nth (o.tr) (k)).ni)).length : Nat) : Int))))) ?_
                            refine Ops_seg 13 (fun T H => T 2 = (V.mp 2 1 0 0) ∧ T 3 = (V.mp 3 1 0 0) ∧ T 7 = (V.sl (List.map cI (least (rfs h (o.tr.take k))))) ∧ T 8 = (V.bool (decide (rfs h (o.tr.take k) ≠ []))) ∧ T 9 = (iV ((k : Nat) : Int)) ∧ T 10 = (V.mp 10 (v10 + 1) 0 0) ∧ T 13 = (iV ((cmn (outs h.m ((h.m.s)) ((nth (o.tr) (k)).ni)) ((nth (o.tr) (k)).no) : Nat) : Int)) ∧ T 64 = (V.bool (decide ((((cmn (outs h.m ((h.m.s)) ((nth (o.tr) (k)).ni)) ((nth (o.tr) (k)).no) : Nat) : Int) < (((outs h.m ((h.m.s)) ((nth (o.tr) (k)).ni)).length : Nat) : Int)) ∧ ((¬(rfs h (o.tr.take k) ≠ [])) ∨ ((slx (List.take ((cmn (outs h.m ((h.m.s)) ((nth (o.tr) (k)).ni)) ((nth (o.tr) (k)).no)) + 1) ((nth (o.tr) (k)).ni)) (least (rfs h (o.tr.take k)))) < (0 : Int)))))) ∧ H 2 = (⟨1, true, false, 26, 5, [[(iV (h.m.i)), (iV (h.m.s)), (V.sl (List.map cL (h.m.nx))), (V.sl (List.map cL (h.m.ot))), (V.sl (List.map cL (h.acc)))]]⟩ : Blk) ∧ H 3 = (⟨1, true, false, 34, 2, [[(iV (o.i)), (V.sl (List.map cT (o.tr)))]]⟩ : Blk) ∧ H 10 = (⟨v10 + 1, true, false, 63, 2, [[(V.sl (List.map cI ((nth (o.tr) (k)).ni))), (V.sl (List.map cI ((nth (o.tr) (k)).no)))]]⟩ : Blk) ∧ True) ?_ ?_
                            · by_cases g10 : ((cmn (outs h.m ((h.m.s)) ((nth (o.tr) (k)).ni)) ((nth (o.tr) (k)).no) : Nat) : Int) < (((outs h.m ((h.m.s)) ((nth (o.tr) (k)).ni)).length : Nat) : Int)
                              ·
                                refine G_yes (Eq.trans (@rfl V (V.bool (decide (((cmn (outs h.m ((h.m.s)) ((nth (o.tr) (k)).ni)) ((nth (o.tr) (k)).no) : Nat) : Int) < (((outs h.m ((h.m.s)) ((nth (o.tr) (k)).ni)).length : Nat) : Int))))) (bdT g10)) ?_
                                refine R_mv t8 ?_
                                refine G_yes (Eq.trans (@rfl V (V.bool (decide (((cmn (outs h.m ((h.m.s)) ((nth (o.tr) (k)).ni)) ((nth (o.tr) (k)).no) : Nat) : Int) < (((outs h.m ((h.m.s)) ((nth (o.tr) (k)).ni)).length : Nat) : Int))))) (bdT g10)) ?_
                                refine R_not (p := rfs h (o.tr.take k) ≠ []) (@rfl V (V.bool (decide (rfs h (o.tr.take k) ≠ [])))) ?_
                                refine G_yes (Eq.trans (@rfl V (V.bool (decide (((cmn (outs h.m ((h.m.s)) ((nth (o.tr) (k)).ni)) ((nth (o.tr) (k)).no) : Nat) : Int) < (((outs h.m ((h.m.s)) ((nth (o.tr) (k)).ni)).length : Nat) : Int))))) (bdT g10)) ?_
                                refine R_mv (@rfl V (V.bool (decide (¬(rfs h (o.tr.take k) ≠ []))))) ?_
                                refine Ops_seg 9 (fun T H => T 2 = (V.mp 2 1 0 0) ∧ T 3 = (V.mp 3 1 0 0) ∧ T 7 = (V.sl (List.map cI (least (rfs h (o.tr.take k))))) ∧ T 8 = (V.bool (decide (rfs h (o.tr.take k) ≠ []))) ∧ T 9 = (iV ((k : Nat) : Int)) ∧ T 10 = (V.mp 10 (v10 + 1) 0 0) ∧ T 13 = (iV ((cmn (outs h.m ((h.m.s)) ((nth (o.tr) (k)).ni)) ((nth (o.tr) (k)).no) : Nat) : Int)) ∧ T 51 = (V.bool true) ∧ T 52 = (V.bool (decide (rfs h (o.tr.take k) ≠ []))) ∧ T 53 = (V.bool (decide (¬(rfs h (o.tr.take k) ≠ [])))) ∧ T 54 = (V.bool (decide (¬(rfs h (o.tr.take k) ≠ [])))) ∧ T 63 = (V.bool (decide ((¬(rfs h (o.tr.take k) ≠ [])) ∨ ((slx (List.take ((cmn (outs h.m ((h.m.s)) ((nth (o.tr) (k)).ni)) ((nth (o.tr) (k)).no)) + 1) ((nth (o.tr) (k)).ni)) (least (rfs h (o.tr.take k)))) < (0 : Int))))) ∧ H 2 = (⟨1, true, false, 26, 5, [[(iV (h.m.i)), (iV (h.m.s)), (V.sl (List.map cL (h.m.nx))), (V.sl (List.map cL (h.m.ot))), (V.sl (List.map cL (h.acc)))]]⟩ : Blk) ∧ H 3 = (⟨1, true, false, 34, 2, [[(iV (o.i)), (V.sl (List.map cT (o.tr)))]]⟩ : Blk) ∧ H 10 = (⟨v10 + 1, true, false, 63, 2, [[(V.sl (List.map cI ((nth (o.tr) (k)).ni))), (V.sl (List.map cI ((nth (o.tr) (k)).no)))]]⟩ : Blk) ∧ True) ?_ ?_
                                · by_cases g11 : ¬(rfs h (o.tr.take k) ≠ [])
                                  ·
                                    refine G_no (Eq.trans (@rfl V (V.bool (decide (¬(rfs h (o.tr.take k) ≠ []))))) (bdT g11)) (by decide) ?_
                                    refine G_no (Eq.trans (@rfl V (V.bool (decide (¬(rfs h (o.tr.take k) ≠ []))))) (bdT g11)) (by decide) ?_
                                    refine G_no (Eq.trans (@rfl V (V.bool (decide (¬(rfs h (o.tr.take k) ≠ []))))) (bdT g11)) (by decide) ?_
                                    refine G_no (Eq.trans (@rfl V (V.bool (decide (¬(rfs h (o.tr.take k) ≠ []))))) (bdT g11)) (by decide) ?_
                                    refine G_no (Eq.trans (@rfl V (V.bool (decide (¬(rfs h (o.tr.take k) ≠ []))))) (bdT g11)) (by decide) ?_
                                    refine G_no (Eq.trans (@rfl V (V.bool (decide (¬(rfs h (o.tr.take k) ≠ []))))) (bdT g11)) (by decide) ?_
                                    refine G_no (Eq.trans (@rfl V (V.bool (decide (¬(rfs h (o.tr.take k) ≠ []))))) (bdT g11)) (by decide) ?_
                                    refine G_no (Eq.trans (@rfl V (V.bool (decide (¬(rfs h (o.tr.take k) ≠ []))))) (bdT g11)) (by decide) ?_
                                    refine G_yes (Eq.trans (@rfl V (V.bool (decide (((cmn (outs h.m ((h.m.s)) ((nth (o.tr) (k)).ni)) ((nth (o.tr) (k)).no) : Nat) : Int) < (((outs h.m ((h.m.s)) ((nth (o.tr) (k)).ni)).length : Nat) : Int))))) (bdT g10)) ?_
                                    refine R_pickT (Eq.trans (@rfl V (V.bool (decide (¬(rfs h (o.tr.take k) ≠ []))))) (bdT g11)) (@rfl V (V.bool true)) ?_
                                    exact ⟨t2, t3, t7, t8, t9, t10, t13, (Eq.trans (@rfl V (V.bool (decide (((cmn (outs h.m ((h.m.s)) ((nth (o.tr) (k)).ni)) ((nth (o.tr) (k)).no) : Nat) : Int) < (((outs h.m ((h.m.s)) ((nth (o.tr) (k)).ni)).length : Nat) : Int))))) (bdT g10)), rfl, rfl, (@rfl V (V.bool (decide (¬(rfs h (o.tr.take k) ≠ []))))), (Eq.trans (@rfl V (V.bool true)) (dec_orT g11)), h2, h3, h10, trivial⟩
                                  ·
                                    refine G_yes (Eq.trans (@rfl V (V.bool (decide (¬(rfs h (o.tr.take k) ≠ []))))) (bdF g11)) ?_
                                    refine R_fld_mp (o' := 0) t10 h10 (by first | rfl | simp [okB, Blk.own]) rfl ?_
                                    refine G_yes (Eq.trans (@rfl V (V.bool (decide (¬(rfs h (o.tr.take k) ≠ []))))) (bdF g11)) ?_
                                    refine R_load_mp (v := (V.sl (List.map cI ((nth (o.tr) (k)).ni)))) (@rfl V (V.mp 10 (v10 + 1) 0 0)) h10 (by first | rfl | simp [ldB, ldV, Blk.own, V.one]) ?_
                                    refine G_yes (Eq.trans (@rfl V (V.bool (decide (¬(rfs h (o.tr.take k) ≠ []))))) (bdF g11)) ?_
                                    refine R_mv t13 ?_
                                    refine G_yes (Eq.trans (@rfl V (V.bool (decide (¬(rfs h (o.tr.take k) ≠ []))))) (bdF g11)) ?_
                                    refine R_addN (m := (cmn (outs h.m ((h.m.s)) ((nth (o.tr) (k)).ni)) ((nth (o.tr) (k)).no))) (n := 1) (@rfl V (iV ((cmn (outs h.m ((h.m.s)) ((nth (o.tr) (k)).ni)) ((nth (o.tr) (k)).no) : Nat) : Int))) (@rfl V (iV ((1 : Nat) : Int))) (by omega) ?_
                                    refine G_yes (Eq.trans (@rfl V (V.bool (decide (¬(rfs h (o.tr.take k) ≠ []))))) (bdF g11)) ?_
                                    refine R_slice_hi (n := ((cmn (outs h.m ((h.m.s)) ((nth (o.tr) (k)).ni)) ((nth (o.tr) (k)).no)) + 1)) (@rfl V (V.sl (List.map cI ((nth (o.tr) (k)).ni)))) (@rfl V (iV (((cmn (outs h.m ((h.m.s)) ((nth (o.tr) (k)).ni)) ((nth (o.tr) (k)).no)) + 1 : Nat) : Int))) (by omega) (fun _ => rfl) ?_
                                    refine G_yes (Eq.trans (@rfl V (V.bool (decide (¬(rfs h (o.tr.take k) ≠ []))))) (bdF g11)) ?_
                                    refine R_mv t7 ?_
                                    refine G_yes (Eq.trans (@rfl V (V.bool (decide (¬(rfs h (o.tr.take k) ≠ []))))) (bdF g11)) ?_
                                    refine R_call (evcons (@rfl V (V.sl (List.map cI (List.take ((cmn (outs h.m ((h.m.s)) ((nth (o.tr) (k)).ni)) ((nth (o.tr) (k)).no)) + 1) ((nth (o.tr) (k)).ni))))) (evcons (@rfl V (V.sl (List.map cI (least (rfs h (o.tr.take k)))))) evnil)) (rcompare_pure (List.take ((cmn (outs h.m ((h.m.s)) ((nth (o.tr) (k)).ni)) ((nth (o.tr) (k)).no)) + 1) ((nth (o.tr) (k)).ni)) (least (rfs h (o.tr.take k)))) (fzv_mapcanon _ _ (by simp [-List.map_take, -List.map_drop, -List.map_append, -List.map_reverse])) (by simp [-List.map_take, -List.map_drop, -List.map_append, -List.map_reverse]) (Or.inl (by simp [-List.map_take, -List.map_drop, -List.map_append, -List.map_reverse])) ?_
                                    refine G_yes (Eq.trans (@rfl V (V.bool (decide (¬(rfs h (o.tr.take k) ≠ []))))) (bdF g11)) ?_
                                    refine R_lss (x := (slx (List.take ((cmn (outs h.m ((h.m.s)) ((nth (o.tr) (k)).ni)) ((nth (o.tr) (k)).no)) + 1) ((nth (o.tr) (k)).ni)) (least (rfs h (o.tr.take k))))) (y := (0 : Int)) (@rfl V (iV (slx (List.take ((cmn (outs h.m ((h.m.s)) ((nth (o.tr) (k)).ni)) ((nth (o.tr) (k)).no)) + 1) ((nth (o.tr) (k)).ni)) (least (rfs h (o.tr.take k)))))) (@rfl V (iV (0 : Int))) ?_
                                    refine G_yes (Eq.trans (@rfl V (V.bool (decide (((cmn (outs h.m ((h.m.s)) ((nth (o.tr) (k)).ni)) ((nth (o.tr) (k)).no) : Nat) : Int) < (((outs h.m ((h.m.s)) ((nth (o.tr) (k)).ni)).length : Nat) : Int))))) (bdT g10)) ?_
                                    refine R_pickF (Eq.trans (@rfl V (V.bool (decide (¬(rfs h (o.tr.take k) ≠ []))))) (bdF g11)) (@rfl V (V.bool (decide ((slx (List.take ((cmn (outs h.m ((h.m.s)) ((nth (o.tr) (k)).ni)) ((nth (o.tr) (k)).no)) + 1) ((nth (o.tr) (k)).ni)) (least (rfs h (o.tr.take k)))) < (0 : Int))))) ?_
                                    exact ⟨t2, t3, t7, t8, t9, t10, t13, (Eq.trans (@rfl V (V.bool (decide (((cmn (outs h.m ((h.m.s)) ((nth (o.tr) (k)).ni)) ((nth (o.tr) (k)).no) : Nat) : Int) < (((outs h.m ((h.m.s)) ((nth (o.tr) (k)).ni)).length : Nat) : Int))))) (bdT g10)), rfl, rfl, (@rfl V (V.bool (decide (¬(rfs h (o.tr.take k) ≠ []))))), (Eq.trans (@rfl V (V.bool (decide ((slx (List.take ((cmn (outs h.m ((h.m.s)) ((nth (o.tr) (k)).ni)) ((nth (o.tr) (k)).no)) + 1) ((nth (o.tr) (k)).ni)) (least (rfs h (o.tr.take k)))) < (0 : Int))))) (dec_orF g11)), h2, h3, h10, trivial⟩
                                · intro T H ⟨t2, t3, t7, t8, t9, t10, t13, t51, t52, t53, t54, t63, h2, h3, h10, _⟩
                                  refine R_pickT t51 t63 ?_
                                  exact ⟨t2, t3, t7, t8, t9, t10, t13, (Eq.trans (@rfl V (V.bool (decide ((¬(rfs h (o.tr.take k) ≠ [])) ∨ ((slx (List.take ((cmn (outs h.m ((h.m.s)) ((nth (o.tr) (k)).ni)) ((nth (o.tr) (k)).no)) + 1) ((nth (o.tr) (k)).ni)) (least (rfs h (o.tr.take k)))) < (0 : Int)))))) (dec_andT g10)), h2, h3, h10, trivial⟩
                              ·
                                refine G_no (Eq.trans (@rfl V (V.bool (decide (((cmn (outs h.m ((h.m.s)) ((nth (o.tr) (k)).ni)) ((nth (o.tr) (k)).no) : Nat) : Int) < (((outs h.m ((h.m.s)) ((nth (o.tr) (k)).ni)).length : Nat) : Int))))) (bdF g10)) (by decide) ?_
                                refine G_no (Eq.trans (@rfl V (V.bool (decide (((cmn (outs h.m ((h.m.s)) ((nth (o.tr) (k)).ni)) ((nth (o.tr) (k)).no) : Nat) : Int) < (((outs h.m ((h.m.s)) ((nth (o.tr) (k)).ni)).length : Nat) : Int))))) (bdF g10)) (by decide) ?_
                                refine G_no (Eq.trans (@rfl V (V.bool (decide (((cmn (outs h.m ((h.m.s)) ((nth (o.tr) (k)).ni)) ((nth (o.tr) (k)).no) : Nat) : Int) < (((outs h.m ((h.m.s)) ((nth (o.tr) (k)).ni)).length : Nat) : Int))))) (bdF g10)) (by decide) ?_
                                refine G_raw (@rfl V (V.raw undef)) ?_
                                refine G_raw (@rfl V (V.raw undef)) ?_
                                refine G_raw (@rfl V (V.raw undef)) ?_
                                refine G_raw (@rfl V (V.raw undef)) ?_
                                refine G_raw (@rfl V (V.raw undef)) ?_
                                refine G_raw (@rfl V (V.raw undef)) ?_
                                refine G_raw (@rfl V (V.raw undef)) ?_
                                refine G_raw (@rfl V (V.raw undef)) ?_
                                refine G_no (Eq.trans (@rfl V (V.bool (decide (((cmn (outs h.m ((h.m.s)) ((nth (o.tr) (k)).ni)) ((nth (o.tr) (k)).no) : Nat) : Int) < (((outs h.m ((h.m.s)) ((nth (o.tr) (k)).ni)).length : Nat) : Int))))) (bdF g10)) (by decide) ?_
                                refine R_pickF (Eq.trans (@rfl V (V.bool (decide (((cmn (outs h.m ((h.m.s)) ((nth (o.tr) (k)).ni)) ((nth (o.tr) (k)).no) : Nat) : Int) < (((outs h.m ((h.m.s)) ((nth (o.tr) (k)).ni)).length : Nat) : Int))))) (bdF g10)) (@rfl V (V.bool false)) ?_
                                exact ⟨t2, t3, t7, t8, t9, t10, t13, (Eq.trans (@rfl V (V.bool false)) (dec_andF g10)), h2, h3, h10, trivial⟩
                            · intro T H ⟨t2, t3, t7, t8, t9, t10, t13, t64, h2, h3, h10, _⟩
                              exact R_nil ⟨t2, t3, t7, t8, t9, t10, t13, t64, h2, h3, h10, trivial⟩
                          · intro T H ⟨t2, t3, t7, t8, t9, t10, t13, t64, h2, h3, h10, _⟩
                            refine W_if (p := (((cmn (outs h.m ((h.m.s)) ((nth (o.tr) (k)).ni)) ((nth (o.tr) (k)).no) : Nat) : Int) < (((outs h.m ((h.m.s)) ((nth (o.tr) (k)).ni)).length : Nat) : Int)) ∧ ((¬(rfs h (o.tr.take k) ≠ [])) ∨ ((slx (List.take ((cmn (outs h.m ((h.m.s)) ((nth (o.tr) (k)).ni)) ((nth (o.tr) (k)).no)) + 1) ((nth (o.tr) (k)).ni)) (least (rfs h (o.tr.take k)))) < (0 : Int)))) t64 (fun c12 => ?_) (fun c12 => ?_)
                            ·
                              have d5 := rb_yes g1 (by omega) c12.2
                              refine W_seq_regc (fun T H => T 2 = (V.mp 2 1 0 0) ∧ T 3 = (V.mp 3 1 0 0) ∧ T 7 = (V.sl (List.map cI (cat ([List.take ((cmn (outs h.m ((h.m.s)) ((nth (o.tr) (k)).ni)) ((nth (o.tr) (k)).no)) + 1) ((nth (o.tr) (k)).ni)])))) ∧ T 9 = (iV ((k : Nat) : Int)) ∧ H 2 = (⟨1, true, false, 26, 5, [[(iV (h.m.i)), (iV (h.m.s)), (V.sl (List.map cL (h.m.nx))), (V.sl (List.map cL (h.m.ot))), (V.sl (List.map cL (h.acc)))]]⟩ : Blk) ∧ H 3 = (⟨1, true, false, 34, 2, [[(iV (o.i)), (V.sl (List.map cT (o.tr)))]]⟩ : Blk) ∧ H 10 = (⟨v10 + 1, true, false, 63, 2, [[(V.sl (List.map cI ((nth (o.tr) (k)).ni))), (V.sl (List.map cI ((nth (o.tr) (k)).no)))]]⟩ : Blk) ∧ True) ?_ ?_
                              · unfold r24_12
                                refine R_fld_mp (o' := 0) t10 h10 (by first | rfl | simp [okB, Blk.own]) rfl ?_
                                refine R_load_mp (v := (V.sl (List.map cI ((nth (o.tr) (k)).ni)))) (@rfl V (V.mp 10 (v10 + 1) 0 0)) h10 (by first | rfl | simp [ldB, ldV, Blk.own, V.one]) ?_
                                refine R_mv t13 ?_
                                refine R_addN (m := (cmn (outs h.m ((h.m.s)) ((nth (o.tr) (k)).ni)) ((nth (o.tr) (k)).no))) (n := 1) (@rfl V (iV ((cmn (outs h.m ((h.m.s)) ((nth (o.tr) (k)).ni)) ((nth (o.tr) (k)).no) : Nat) : Int))) (@rfl V (iV ((1 : Nat) : Int))) (by omega) ?_
                                refine R_slice_hi (n := ((cmn (outs h.m ((h.m.s)) ((nth (o.tr) (k)).ni)) ((nth (o.tr) (k)).no)) + 1)) (@rfl V (V.sl (List.map cI ((nth (o.tr) (k)).ni)))) (@rfl V (iV (((cmn (outs h.m ((h.m.s)) ((nth (o.tr) (k)).ni)) ((nth (o.tr) (k)).no)) + 1 : Nat) : Int))) (by omega) (fun _ => rfl) ?_
                                refine R_bslice (qs := [(0, (V.sl (List.map cI (List.take ((cmn (outs h.m ((h.m.s)) ((nth (o.tr) (k)).ni)) ((nth (o.tr) (k)).no)) + 1) ((nth (o.tr) (k)).ni)))))]) (rows := [[(V.sl (List.map cI (List.take ((cmn (outs h.m ((h.m.s)) ((nth (o.tr) (k)).ni)) ((nth (o.tr) (k)).no)) + 1) ((nth (o.tr) (k)).ni))))]]) (mcons (congrArg (fun v => (0, v)) (@rfl V (V.sl (List.map cI (List.take ((cmn (outs h.m ((h.m.s)) ((nth (o.tr) (k)).ni)) ((nth (o.tr) (k)).no)) + 1) ((nth (o.tr) (k)).ni)))))) rfl) rfl ?_
                                refine R_call (evcons (@rfl V (V.sl [[(V.sl (List.map cI (List.take ((cmn (outs h.m ((h.m.s)) ((nth (o.tr) (k)).ni)) ((nth (o.tr) (k)).no)) + 1) ((nth (o.tr) (k)).ni))))]])) evnil) (join_pure ([List.take ((cmn (outs h.m ((h.m.s)) ((nth (o.tr) (k)).ni)) ((nth (o.tr) (k)).no)) + 1) ((nth (o.tr) (k)).ni)]) (by simp [cat]; omega)) (fzv_mapcanon _ _ (by simp [-List.map_take, -List.map_drop, -List.map_append, -List.map_reverse])) (by simp [-List.map_take, -List.map_drop, -List.map_append, -List.map_reverse]) (Or.inl (by simp [-List.map_take, -List.map_drop, -List.map_append, -List.map_reverse])) ?_
                                refine R_mv (@rfl V (V.sl (List.map cI (cat ([List.take ((cmn (outs h.m ((h.m.s)) ((nth (o.tr) (k)).ni)) ((nth (o.tr) (k)).no)) + 1) ((nth (o.tr) (k)).ni)]))))) ?_
                                exact R_nil ⟨t2, t3, rfl, t9, h2, h3, h10, trivial⟩
                              · intro T H ⟨t2, t3, t7, t9, h2, h3, h10, _⟩
                                refine W_regc (fun T H => T 2 = (V.mp 2 1 0 0) ∧ T 3 = (V.mp 3 1 0 0) ∧ T 7 = (V.sl (List.map cI (cat ([List.take ((cmn (outs h.m ((h.m.s)) ((nth (o.tr) (k)).ni)) ((nth (o.tr) (k)).no)) + 1) ((nth (o.tr) (k)).ni)])))) ∧ T 8 = (V.bool true) ∧ T 9 = (iV ((k : Nat) : Int)) ∧ H 2 = (⟨1, true, false, 26, 5, [[(iV (h.m.i)), (iV (h.m.s)), (V.sl (List.map cL (h.m.nx))), (V.sl (List.map cL (h.m.ot))), (V.sl (List.map cL (h.acc)))]]⟩ : Blk) ∧ H 3 = (⟨1, true, false, 34, 2, [[(iV (o.i)), (V.sl (List.map cT (o.tr)))]]⟩ : Blk) ∧ H 10 = (⟨v10 + 1, true, false, 63, 2, [[(V.sl (List.map cI ((nth (o.tr) (k)).ni))), (V.sl (List.map cI ((nth (o.tr) (k)).no)))]]⟩ : Blk) ∧ True) ?_ ?_
                                · unfold r24_13
                                  refine R_mv (@rfl V (V.bool true)) ?_
                                  exact R_nil ⟨t2, t3, t7, rfl, t9, h2, h3, h10, trivial⟩
                                · intro T H ⟨t2, t3, t7, t8, t9, h2, h3, h10, _⟩
                                  refine n5 _ _ ?_
                                  refine .done ?_
                                  refine W_regc (fun T H => T 2 = (V.mp 2 1 0 0) ∧ T 3 = (V.mp 3 1 0 0) ∧ T 7 = (V.sl (List.map cI (cat ([List.take ((cmn (outs h.m ((h.m.s)) ((nth (o.tr) (k)).ni)) ((nth (o.tr) (k)).no)) + 1) ((nth (o.tr) (k)).ni)])))) ∧ T 8 = (V.bool true) ∧ T 9 = (iV ((k + 1 : Nat) : Int)) ∧ H 2 = (⟨1, true, false, 26, 5, [[(iV (h.m.i)), (iV (h.m.s)), (V.sl (List.map cL (h.m.nx))), (V.sl (List.map cL (h.m.ot))), (V.sl (List.map cL (h.acc)))]]⟩ : Blk) ∧ H 3 = (⟨1, true, false, 34, 2, [[(iV (o.i)), (V.sl (List.map cT (o.tr)))]]⟩ : Blk) ∧ H 10 = (⟨v10 + 1, true, false, 63, 2, [[(V.sl (List.map cI ((nth (o.tr) (k)).ni))), (V.sl (List.map cI ((nth (o.tr) (k)).no)))]]⟩ : Blk) ∧ True) ?_ ?_
                                  · unfold r24_7
                                    refine R_mv t9 ?_
                                    refine R_addN (m := k) (n := 1) (@rfl V (iV ((k : Nat) : Int))) (@rfl V (iV ((1 : Nat) : Int))) (by omega) ?_
                                    refine R_mv (@rfl V (iV ((k + 1 : Nat) : Int))) ?_
                                    exact R_nil ⟨t2, t3, t7, t8, rfl, h2, h3, h10, trivial⟩
                                  · intro T H ⟨t2, t3, t7, t8, t9, h2, h3, h10, _⟩
                                    refine p13 _ _ _ ?_ ⟨(k + 1), (v10 + 1), rfl, t2, t3, (Eq.trans t7 (by first | rfl | (simp [rfs]; done) | (rw [d5.1]; done) | (rw [d5.1]; simp [cat]; done) | (simp [d5.2]; done) | (simp only [d5.2]; done))), (Eq.trans t8 (by first | rfl | (simp [rfs]; done) | (rw [d5.1]; done) | (rw [d5.1]; simp [cat]; done) | (simp [d5.2]; done) | (simp only [d5.2]; done))), (Eq.trans t9 (by first | rfl | (simp [rfs]; done) | (rw [d5.1]; done) | (rw [d5.1]; simp [cat]; done) | (simp [d5.2]; done) | (simp only [d5.2]; done))), h2, h3, (congrArg Blk.ver h10), ?_⟩
                                    · omega
                                    · omega
                            ·
                              have d5 := rb_no g1 (fun e => c12 ⟨by omega, e.2⟩)
                              refine W_skip ?_
                              refine n5 _ _ ?_
                              refine .done ?_
                              refine W_regc (fun T H => T 2 = (V.mp 2 1 0 0) ∧ T 3 = (V.mp 3 1 0 0) ∧ T 7 = (V.sl (List.map cI (least (rfs h (o.tr.take k))))) ∧ T 8 = (V.bool (decide (rfs h (o.tr.take k) ≠ []))) ∧ T 9 = (iV ((k + 1 : Nat) : Int)) ∧ H 2 = (⟨1, true, false, 26, 5, [[(iV (h.m.i)), (iV (h.m.s)), (V.sl (List.map cL (h.m.nx))), (V.sl (List.map cL (h.m.ot))), (V.sl (List.map cL (h.acc)))]]⟩ : Blk) ∧ H 3 = (⟨1, true, false, 34, 2, [[(iV (o.i)), (V.sl (List.map cT (o.tr)))]]⟩ : Blk) ∧ H 10 = (⟨v10 + 1, true, false, 63, 2, [[(V.sl (List.map cI ((nth (o.tr) (k)).ni))), (V.sl (List.map cI ((nth (o.tr) (k)).no)))]]⟩ : Blk) ∧ True) ?_ ?_
                              · unfold r24_7
                                refine R_mv t9 ?_
                                refine R_addN (m := k) (n := 1) (@rfl V (iV ((k : Nat) : Int))) (@rfl V (iV ((1 : Nat) : Int))) (by omega) ?_
                                refine R_mv (@rfl V (iV ((k + 1 : Nat) : Int))) ?_
                                exact R_nil ⟨t2, t3, t7, t8, rfl, h2, h3, h10, trivial⟩
                              · intro T H ⟨t2, t3, t7, t8, t9, h2, h3, h10, _⟩
                                refine p13 _ _ _ ?_ ⟨(k + 1), (v10 + 1), rfl, t2, t3, (Eq.trans t7 (by first | rfl | (simp [rfs]; done) | (rw [d5.1]; done) | (rw [d5.1]; simp [cat]; done) | (simp [d5.2]; done) | (simp only [d5.2]; done))), (Eq.trans t8 (by first | rfl | (simp [rfs]; done) | (rw [d5.1]; done) | (rw [d5.1]; simp [cat]; done) | (simp [d5.2]; done) | (simp only [d5.2]; done))), (Eq.trans t9 (by first | rfl | (simp [rfs]; done) | (rw [d5.1]; done) | (rw [d5.1]; simp [cat]; done) | (simp [d5.2]; done) | (simp only [d5.2]; done))), h2, h3, (congrArg Blk.ver h10), ?_⟩
                                · omega
                                · omega
                  ·
                    refine W_seq_exit ?_
                    refine p33 _ _ _ ?_
                    refine x2 _ _ ?_
                    refine .done ?_
                    refine W_seq_regc (fun T H => T 4 = (V.sl (List.map cI (least (rfs h (o.tr.take k))))) ∧ T 5 = (V.bool (decide (rfs h (o.tr.take k) ≠ []))) ∧ T 6 = (iV (0 : Int)) ∧ H 2 = (⟨1, true, false, 26, 5, [[(iV (h.m.i)), (iV (h.m.s)), (V.sl (List.map cL (h.m.nx))), (V.sl (List.map cL (h.m.ot))), (V.sl (List.map cL (h.acc)))]]⟩ : Blk) ∧ H 3 = (⟨1, true, false, 34, 2, [[(iV (o.i)), (V.sl (List.map cT (o.tr)))]]⟩ : Blk) ∧ (H 10).ver = v10 ∧ True) ?_ ?_
                    · unfold r24_14
                      refine R_mv t7 ?_
                      refine R_mv t8 ?_
                      refine R_mv (@rfl V (V.sl (List.map cI (least (rfs h (o.tr.take k)))))) ?_
                      refine R_mv (@rfl V (V.bool (decide (rfs h (o.tr.take k) ≠ [])))) ?_
                      refine R_mv (@rfl V (iV (0 : Int))) ?_
                      exact R_nil ⟨rfl, rfl, rfl, h2, h3, h10, trivial⟩
                    · intro T H ⟨t4, t5, t6, h2, h3, h10, _⟩
                      refine W_ret ?_
                      refine Ret_3 t4 t5 t6 (fz_sl ?_ (fun _ => by simp)) (fz_bool ?_) (fz_int ?_)
                      · (have e : k = o.tr.length := (by omega)); subst e; rw [List.take_length]; rw [if_neg d1]
                      · (have e : k = o.tr.length := (by omega)); subst e; rw [List.take_length]; simp [show h.m.i = o.i by omega]
                      · rw [if_neg d1]

end Go.Proofs.Ytngkckefanbhgaa

namespace Go.Proofs.Ytngkckefanbhgaa
open Go Go.Proofs

theorem ints_pure (a b : List Int) : PureC Try.prog 25 [(V.sl (List.map cI (a))), (V.sl (List.map cI (b)))] (V.bool (decide (a = b))) := by
  refine pure_of_Wb true 6 Try.func25 s25_ok (by kernel_rfl) (by simp [s25]) (by simp) (by simp) fun hB => ?_
  simp only [bnd_map, bnd_int, bnd_bool, bnd_str, bnd_agg, bnd_pp, bnd_nil, bnd_cons, implies_true, and_true, true_and] at hB
  unfold s25
  dsimp only
  refine W_seq_regc (fun T H => T 0 = (V.sl (List.map cI (a))) ∧ T 1 = (V.sl (List.map cI (b))) ∧ True) ?_ ?_
  · unfold r25_0
    refine R_mv (@rfl V (V.bool false)) ?_
    exact R_nil ⟨rfl, rfl, trivial⟩
  · intro T H ⟨t0, t1, _⟩
    refine W_seq_seq ?_
    refine W_seq_regc (fun T H => T 0 = (V.sl (List.map cI (a))) ∧ T 1 = (V.sl (List.map cI (b))) ∧ T 10 = (V.bool (decide (((a.length : Nat) : Int) ≠ ((b.length : Nat) : Int)))) ∧ True) ?_ ?_
    · unfold r25_1
      refine R_mv t0 ?_
      refine R_len (@rfl V (V.sl (List.map cI (a)))) ?_
      refine R_mv t1 ?_
      refine R_len (@rfl V (V.sl (List.map cI (b)))) ?_
      refine R_neq (x := ((a.length : Nat) : Int)) (y := ((b.length : Nat) : Int)) (@rfl V (iV ((a.length : Nat) : Int))) (@rfl V (iV ((b.length : Nat) : Int))) ?_
      exact R_nil ⟨t0, t1, rfl, trivial⟩
    · intro T H ⟨t0, t1, t10, _⟩
      refine W_seq_if (p := ((a.length : Nat) : Int) ≠ ((b.length : Nat) : Int)) t10 (fun c1 => ?_) (fun c1 => ?_)
      ·
        refine W_seq_seq ?_
        refine W_seq_regc (fun T H => T 4 = (V.bool false) ∧ True) ?_ ?_
        · unfold r25_2
          refine R_mv (@rfl V (V.bool false)) ?_
          exact R_nil ⟨rfl, trivial⟩
        · intro T H ⟨t4, _⟩
          refine W_seq_ret ?_
          refine Ret_1 t4 (fz_bool ?_)
          · exact (decide_eq_false (fun e => by subst e; omega)).symm
      ·
        refine W_seq_skip ?_
        refine W_seq_seq ?_
        refine W_seq_regc (fun T H => T 0 = (V.sl (List.map cI (a))) ∧ T 1 = (V.sl (List.map cI (b))) ∧ T 5 = (iV (0 : Int)) ∧ True) ?_ ?_
        · unfold r25_3
          refine R_mv (@rfl V (iV (0 : Int))) ?_
          exact R_nil ⟨t0, t1, rfl, trivial⟩
        · intro T H ⟨t0, t1, t5, _⟩
          refine W_seq_blockg fun Q2 n2 x2 y2 z2 => ?_
          refine W_loop (fun mm T H => ∃ (k : Nat), mm = a.length - k ∧ T 0 = (V.sl (List.map cI (a))) ∧ T 1 = (V.sl (List.map cI (b))) ∧ T 5 = (iV ((k : Nat) : Int)) ∧ (k ≤ a.length) ∧ (a.length = b.length) ∧ (∀ j, j < k → nth a j = nth b j)) ?_ ?_
          · refine ⟨_, 0, rfl, t0, t1, (Eq.trans t5 (by first | rfl | simp)), ?_, ?_, ?_⟩
            · omega
            · omega
            · intro j hj; omega
          · intro mm T H ⟨k, hmm, t0, t1, t5, hk, hl, hc⟩ Q3 p13 p23 p33
            unfold b25_0
            refine W_seq_seq ?_
            refine W_seq_regc (fun T H => T 0 = (V.sl (List.map cI (a))) ∧ T 1 = (V.sl (List.map cI (b))) ∧ T 5 = (iV ((k : Nat) : Int)) ∧ T 14 = (V.bool (decide (((k : Nat) : Int) < ((a.length : Nat) : Int)))) ∧ True) ?_ ?_
            · unfold r25_4
              refine R_mv t5 ?_
              refine R_mv t0 ?_
              refine R_len (@rfl V (V.sl (List.map cI (a)))) ?_
              refine R_lss (x := ((k : Nat) : Int)) (y := ((a.length : Nat) : Int)) (@rfl V (iV ((k : Nat) : Int))) (@rfl V (iV ((a.length : Nat) : Int))) ?_
              exact R_nil ⟨t0, t1, t5, rfl, trivial⟩
            · intro T H ⟨t0, t1, t5, t14, _⟩
              refine W_seq_if (p := ((k : Nat) : Int) < ((a.length : Nat) : Int)) t14 (fun c4 => ?_) (fun c4 => ?_)
              ·
                refine W_seq_skip ?_
                refine W_seq_blockg fun Q5 n5 x5 y5 z5 => ?_
                refine W_seq_regc (fun T H => T 0 = (V.sl (List.map cI (a))) ∧ T 1 = (V.sl (List.map cI (b))) ∧ T 5 = (iV ((k : Nat) : Int)) ∧ T 25 = (V.bool (decide (((nth (a) (k))) ≠ ((nth (b) (k)))))) ∧ True) ?_ ?_
                · unfold r25_6
                  refine R_mv t0 ?_
                  refine R_mv t5 ?_
                  refine R_idx (i := k) (@rfl V (V.sl (List.map cI (a)))) (@rfl V (iV ((k : Nat) : Int))) (by omega) rfl ?_
                  refine R_load_pp (v := (iV ((nth (a) (k))))) (@rfl V (V.pp [(iV ((nth (a) (k))))])) (by first | rfl | simp [ldV]) ?_
                  refine R_mv t1 ?_
                  refine R_mv t5 ?_
                  refine R_idx (i := k) (@rfl V (V.sl (List.map cI (b)))) (@rfl V (iV ((k : Nat) : Int))) (by omega) rfl ?_
                  refine R_load_pp (v := (iV ((nth (b) (k))))) (@rfl V (V.pp [(iV ((nth (b) (k))))])) (by first | rfl | simp [ldV]) ?_
                  refine R_neq (x := ((nth (a) (k)))) (y := ((nth (b) (k)))) (@rfl V (iV ((nth (a) (k))))) (@rfl V (iV ((nth (b) (k))))) ?_
                  exact R_nil ⟨t0, t1, t5, rfl, trivial⟩
                · intro T H ⟨t0, t1, t5, t25, _⟩
                  refine W_if (p := ((nth (a) (k))) ≠ ((nth (b) (k)))) t25 (fun c6 => ?_) (fun c6 => ?_)
                  ·
                    refine W_seq_regc (fun T H => T 4 = (V.bool false) ∧ True) ?_ ?_
                    · unfold r25_7
                      refine R_mv (@rfl V (V.bool false)) ?_
                      exact R_nil ⟨rfl, trivial⟩
                    · intro T H ⟨t4, _⟩
                      refine W_ret ?_
                      refine y5 _ _ ?_
                      refine p23 _ _ ?_
                      refine y2 _ _ ?_
                      refine Ret_1 t4 (fz_bool ?_)
                      · exact (decide_eq_false (fun e => by subst e; omega)).symm
                  ·
                    refine W_skip ?_
                    refine n5 _ _ ?_
                    refine .done ?_
                    refine W_regc (fun T H => T 0 = (V.sl (List.map cI (a))) ∧ T 1 = (V.sl (List.map cI (b))) ∧ T 5 = (iV ((k + 1 : Nat) : Int)) ∧ True) ?_ ?_
                    · unfold r25_5
                      refine R_mv t5 ?_
                      refine R_addN (m := k) (n := 1) (@rfl V (iV ((k : Nat) : Int))) (@rfl V (iV ((1 : Nat) : Int))) (by omega) ?_
                      refine R_mv (@rfl V (iV ((k + 1 : Nat) : Int))) ?_
                      exact R_nil ⟨t0, t1, rfl, trivial⟩
                    · intro T H ⟨t0, t1, t5, _⟩
                      refine p13 _ _ _ ?_ ⟨(k + 1), rfl, t0, t1, (Eq.trans t5 (by first | rfl | simp)), ?_, ?_, ?_⟩
                      · omega
                      · omega
                      · omega
                      · intro j hj
                        by_cases e : j = k
                        · subst e; omega
                        · exact hc j (by omega)
              ·
                refine W_seq_exit ?_
                refine p33 _ _ _ ?_
                refine x2 _ _ ?_
                refine .done ?_
                refine W_seq_regc (fun T H => T 4 = (V.bool true) ∧ True) ?_ ?_
                · unfold r25_8
                  refine R_mv (@rfl V (V.bool true)) ?_
                  exact R_nil ⟨rfl, trivial⟩
                · intro T H ⟨t4, _⟩
                  refine W_ret ?_
                  refine Ret_1 t4 (fz_bool ?_)
                  · exact (decide_eq_true (nth_ext hl fun j hj => hc j (by omega))).symm

end Go.Proofs.Ytngkckefanbhgaa

namespace Go.Proofs.Ytngkckefanbhgaa
open Go Go.Proofs

theorem law4_pure (h : Hy) (o : Ob) (w : List Int) : PureC Try.prog 4 [(V.agg [(iV (h.m.i)), (iV (h.m.s)), (V.sl (List.map cL (h.m.nx))), (V.sl (List.map cL (h.m.ot))), (V.sl (List.map cL (h.acc)))]), (V.agg [(iV (o.i)), (V.sl (List.map cT (o.tr)))]), (V.sl (List.map cI (w)))] (V.bool true) := by
  refine pure_of_Wb true 6 Try.func4 s4_ok (by kernel_rfl) (by simp [s4]) (by simp) (by simp) fun hB => ?_
  simp only [bnd_map, bnd_int, bnd_bool, bnd_str, bnd_agg, bnd_pp, bnd_nil, bnd_cons, implies_true, and_true, true_and] at hB
  unfold s4
  dsimp only
  refine W_seq_regc (fun T H => T 2 = (V.sl (List.map cI (w))) ∧ T 3 = (V.mp 3 1 0 0) ∧ T 4 = (V.mp 4 1 0 0) ∧ H 3 = (⟨1, true, false, 26, 5, [[(iV (h.m.i)), (iV (h.m.s)), (V.sl (List.map cL (h.m.nx))), (V.sl (List.map cL (h.m.ot))), (V.sl (List.map cL (h.acc)))]]⟩ : Blk) ∧ H 4 = (⟨1, true, false, 34, 2, [[(iV (o.i)), (V.sl (List.map cT (o.tr)))]]⟩ : Blk) ∧ True) ?_ ?_
  · unfold r4_0
    refine R_box (i := 3) (n := 0) (m := 5) (cs := [(iV (h.m.i)), (iV (h.m.s)), (V.sl (List.map cL (h.m.nx))), (V.sl (List.map cL (h.m.ot))), (V.sl (List.map cL (h.acc)))]) rfl (congrArg Blk.ver rfl) (@rfl V (V.agg [(iV (h.m.i)), (iV (h.m.s)), (V.sl (List.map cL (h.m.nx))), (V.sl (List.map cL (h.m.ot))), (V.sl (List.map cL (h.acc)))])) rfl rfl ?_
    refine R_box (i := 4) (n := 0) (m := 2) (cs := [(iV (o.i)), (V.sl (List.map cT (o.tr)))]) rfl (congrArg Blk.ver rfl) (@rfl V (V.agg [(iV (o.i)), (V.sl (List.map cT (o.tr)))])) rfl rfl ?_
    refine R_mv (@rfl V (V.bool false)) ?_
    exact R_nil ⟨rfl, rfl, rfl, rfl, rfl, trivial⟩
  · intro T H ⟨t2, t3, t4, h3, h4, _⟩
    refine W_seq_seq ?_
    refine W_seq_regc (fun T H => T 2 = (V.sl (List.map cI (w))) ∧ T 3 = (V.mp 3 1 0 0) ∧ T 4 = (V.mp 4 1 0 0) ∧ T 32 = (V.bool (decide (((((40 < h.m.nx.length ∨ 40 < h.m.ot.length ∨ 20 < h.m.i) ∨ (200 < h.acc.length ∨ fe (longE h.acc) 0 h.acc.length ≠ 0)) ∨ (ogr o)) ∨ ((hval h) ≠ (0 : Int))) ∨ ((oval o) ≠ (0 : Int))))) ∧ H 3 = (⟨1, true, false, 26, 5, [[(iV (h.m.i)), (iV (h.m.s)), (V.sl (List.map cL (h.m.nx))), (V.sl (List.map cL (h.m.ot))), (V.sl (List.map cL (h.acc)))]]⟩ : Blk) ∧ H 4 = (⟨1, true, false, 34, 2, [[(iV (o.i)), (V.sl (List.map cT (o.tr)))]]⟩ : Blk) ∧ True) ?_ ?_
    · unfold r4_1
      refine R_load_mp (v := (V.agg [(iV (h.m.i)), (iV (h.m.s)), (V.sl (List.map cL (h.m.nx))), (V.sl (List.map cL (h.m.ot))), (V.sl (List.map cL (h.acc)))])) t3 h3 (by first | rfl | simp [ldB, ldV, Blk.own, V.one]) ?_
      refine R_call (evcons (@rfl V (V.agg [(iV (h.m.i)), (iV (h.m.s)), (V.sl (List.map cL (h.m.nx))), (V.sl (List.map cL (h.m.ot))), (V.sl (List.map cL (h.acc)))])) evnil) (great22_pure h) (fzv_mapcanon _ _ (by simp [-List.map_take, -List.map_drop, -List.map_append, -List.map_reverse])) (by simp [-List.map_take, -List.map_drop, -List.map_append, -List.map_reverse]) (Or.inl (by simp [-List.map_take, -List.map_drop, -List.map_append, -List.map_reverse])) ?_
      refine R_mv (@rfl V (V.bool (decide ((40 < h.m.nx.length ∨ 40 < h.m.ot.length ∨ 20 < h.m.i) ∨ (200 < h.acc.length ∨ fe (longE h.acc) 0 h.acc.length ≠ 0))))) ?_
      refine Ops_seg 3 (fun T H => T 2 = (V.sl (List.map cI (w))) ∧ T 3 = (V.mp 3 1 0 0) ∧ T 4 = (V.mp 4 1 0 0) ∧ T 22 = (V.bool (decide (((40 < h.m.nx.length ∨ 40 < h.m.ot.length ∨ 20 < h.m.i) ∨ (200 < h.acc.length ∨ fe (longE h.acc) 0 h.acc.length ≠ 0)) ∨ (ogr o)))) ∧ H 3 = (⟨1, true, false, 26, 5, [[(iV (h.m.i)), (iV (h.m.s)), (V.sl (List.map cL (h.m.nx))), (V.sl (List.map cL (h.m.ot))), (V.sl (List.map cL (h.acc)))]]⟩ : Blk) ∧ H 4 = (⟨1, true, false, 34, 2, [[(iV (o.i)), (V.sl (List.map cT (o.tr)))]]⟩ : Blk) ∧ True) ?_ ?_
      · by_cases g1 : (40 < h.m.nx.length ∨ 40 < h.m.ot.length ∨ 20 < h.m.i) ∨ (200 < h.acc.length ∨ fe (longE h.acc) 0 h.acc.length ≠ 0)
        ·
          refine G_no (Eq.trans (@rfl V (V.bool (decide ((40 < h.m.nx.length ∨ 40 < h.m.ot.length ∨ 20 < h.m.i) ∨ (200 < h.acc.length ∨ fe (longE h.acc) 0 h.acc.length ≠ 0))))) (bdT g1)) (by decide) ?_
          refine G_no (Eq.trans (@rfl V (V.bool (decide ((40 < h.m.nx.length ∨ 40 < h.m.ot.length ∨ 20 < h.m.i) ∨ (200 < h.acc.length ∨ fe (longE h.acc) 0 h.acc.length ≠ 0))))) (bdT g1)) (by decide) ?_
          refine R_pickT (Eq.trans (@rfl V (V.bool (decide ((40 < h.m.nx.length ∨ 40 < h.m.ot.length ∨ 20 < h.m.i) ∨ (200 < h.acc.length ∨ fe (longE h.acc) 0 h.acc.length ≠ 0))))) (bdT g1)) (@rfl V (V.bool true)) ?_
          exact ⟨t2, t3, t4, (Eq.trans (@rfl V (V.bool true)) (dec_orT g1)), h3, h4, trivial⟩
        ·
          refine G_yes (Eq.trans (@rfl V (V.bool (decide ((40 < h.m.nx.length ∨ 40 < h.m.ot.length ∨ 20 < h.m.i) ∨ (200 < h.acc.length ∨ fe (longE h.acc) 0 h.acc.length ≠ 0))))) (bdF g1)) ?_
          refine R_load_mp (v := (V.agg [(iV (o.i)), (V.sl (List.map cT (o.tr)))])) t4 h4 (by first | rfl | simp [ldB, ldV, Blk.own, V.one]) ?_
          refine G_yes (Eq.trans (@rfl V (V.bool (decide ((40 < h.m.nx.length ∨ 40 < h.m.ot.length ∨ 20 < h.m.i) ∨ (200 < h.acc.length ∨ fe (longE h.acc) 0 h.acc.length ≠ 0))))) (bdF g1)) ?_
          refine R_call (evcons (@rfl V (V.agg [(iV (o.i)), (V.sl (List.map cT (o.tr)))])) evnil) (great16_pure o) (fzv_mapcanon _ _ (by simp [-List.map_take, -List.map_drop, -List.map_append, -List.map_reverse])) (by simp [-List.map_take, -List.map_drop, -List.map_append, -List.map_reverse]) (Or.inl (by simp [-List.map_take, -List.map_drop, -List.map_append, -List.map_reverse])) ?_
          refine R_pickF (Eq.trans (@rfl V (V.bool (decide ((40 < h.m.nx.length ∨ 40 < h.m.ot.length ∨ 20 < h.m.i) ∨ (200 < h.acc.length ∨ fe (longE h.acc) 0 h.acc.length ≠ 0))))) (bdF g1)) (@rfl V (V.bool (decide (ogr o)))) ?_
          exact ⟨t2, t3, t4, (Eq.trans (@rfl V (V.bool (decide (ogr o)))) (dec_orF g1)), h3, h4, trivial⟩
      · intro T H ⟨t2, t3, t4, t22, h3, h4, _⟩
        refine R_mv t22 ?_
        refine Ops_seg 4 (fun T H => T 2 = (V.sl (List.map cI (w))) ∧ T 3 = (V.mp 3 1 0 0) ∧ T 4 = (V.mp 4 1 0 0) ∧ T 27 = (V.bool (decide ((((40 < h.m.nx.length ∨ 40 < h.m.ot.length ∨ 20 < h.m.i) ∨ (200 < h.acc.length ∨ fe (longE h.acc) 0 h.acc.length ≠ 0)) ∨ (ogr o)) ∨ ((hval h) ≠ (0 : Int))))) ∧ H 3 = (⟨1, true, false, 26, 5, [[(iV (h.m.i)), (iV (h.m.s)), (V.sl (List.map cL (h.m.nx))), (V.sl (List.map cL (h.m.ot))), (V.sl (List.map cL (h.acc)))]]⟩ : Blk) ∧ H 4 = (⟨1, true, false, 34, 2, [[(iV (o.i)), (V.sl (List.map cT (o.tr)))]]⟩ : Blk) ∧ True) ?_ ?_
        · by_cases g2 : ((40 < h.m.nx.length ∨ 40 < h.m.ot.length ∨ 20 < h.m.i) ∨ (200 < h.acc.length ∨ fe (longE h.acc) 0 h.acc.length ≠ 0)) ∨ (ogr o)
          ·
            refine G_no (Eq.trans (@rfl V (V.bool (decide (((40 < h.m.nx.length ∨ 40 < h.m.ot.length ∨ 20 < h.m.i) ∨ (200 < h.acc.length ∨ fe (longE h.acc) 0 h.acc.length ≠ 0)) ∨ (ogr o))))) (bdT g2)) (by decide) ?_
            refine G_no (Eq.trans (@rfl V (V.bool (decide (((40 < h.m.nx.length ∨ 40 < h.m.ot.length ∨ 20 < h.m.i) ∨ (200 < h.acc.length ∨ fe (longE h.acc) 0 h.acc.length ≠ 0)) ∨ (ogr o))))) (bdT g2)) (by decide) ?_
            refine G_no (Eq.trans (@rfl V (V.bool (decide (((40 < h.m.nx.length ∨ 40 < h.m.ot.length ∨ 20 < h.m.i) ∨ (200 < h.acc.length ∨ fe (longE h.acc) 0 h.acc.length ≠ 0)) ∨ (ogr o))))) (bdT g2)) (by decide) ?_
            refine R_pickT (Eq.trans (@rfl V (V.bool (decide (((40 < h.m.nx.length ∨ 40 < h.m.ot.length ∨ 20 < h.m.i) ∨ (200 < h.acc.length ∨ fe (longE h.acc) 0 h.acc.length ≠ 0)) ∨ (ogr o))))) (bdT g2)) (@rfl V (V.bool true)) ?_
            exact ⟨t2, t3, t4, (Eq.trans (@rfl V (V.bool true)) (dec_orT g2)), h3, h4, trivial⟩
          ·
            refine G_yes (Eq.trans (@rfl V (V.bool (decide (((40 < h.m.nx.length ∨ 40 < h.m.ot.length ∨ 20 < h.m.i) ∨ (200 < h.acc.length ∨ fe (longE h.acc) 0 h.acc.length ≠ 0)) ∨ (ogr o))))) (bdF g2)) ?_
            refine R_load_mp (v := (V.agg [(iV (h.m.i)), (iV (h.m.s)), (V.sl (List.map cL (h.m.nx))), (V.sl (List.map cL (h.m.ot))), (V.sl (List.map cL (h.acc)))])) t3 h3 (by first | rfl | simp [ldB, ldV, Blk.own, V.one]) ?_
            refine G_yes (Eq.trans (@rfl V (V.bool (decide (((40 < h.m.nx.length ∨ 40 < h.m.ot.length ∨ 20 < h.m.i) ∨ (200 < h.acc.length ∨ fe (longE h.acc) 0 h.acc.length ≠ 0)) ∨ (ogr o))))) (bdF g2)) ?_
            refine R_call (evcons (@rfl V (V.agg [(iV (h.m.i)), (iV (h.m.s)), (V.sl (List.map cL (h.m.nx))), (V.sl (List.map cL (h.m.ot))), (V.sl (List.map cL (h.acc)))])) evnil) (rhvalid_pure h) (fzv_mapcanon _ _ (by simp [-List.map_take, -List.map_drop, -List.map_append, -List.map_reverse])) (by simp [-List.map_take, -List.map_drop, -List.map_append, -List.map_reverse]) (Or.inl (by simp [-List.map_take, -List.map_drop, -List.map_append, -List.map_reverse])) ?_
            refine G_yes (Eq.trans (@rfl V (V.bool (decide (((40 < h.m.nx.length ∨ 40 < h.m.ot.length ∨ 20 < h.m.i) ∨ (200 < h.acc.length ∨ fe (longE h.acc) 0 h.acc.length ≠ 0)) ∨ (ogr o))))) (bdF g2)) ?_
            refine R_neq (x := (hval h)) (y := (0 : Int)) (@rfl V (iV (hval h))) (@rfl V (iV (0 : Int))) ?_
            refine R_pickF (Eq.trans (@rfl V (V.bool (decide (((40 < h.m.nx.length ∨ 40 < h.m.ot.length ∨ 20 < h.m.i) ∨ (200 < h.acc.length ∨ fe (longE h.acc) 0 h.acc.length ≠ 0)) ∨ (ogr o))))) (bdF g2)) (@rfl V (V.bool (decide ((hval h) ≠ (0 : Int))))) ?_
            exact ⟨t2, t3, t4, (Eq.trans (@rfl V (V.bool (decide ((hval h) ≠ (0 : Int))))) (dec_orF g2)), h3, h4, trivial⟩
        · intro T H ⟨t2, t3, t4, t27, h3, h4, _⟩
          refine R_mv t27 ?_
          refine Ops_seg 4 (fun T H => T 2 = (V.sl (List.map cI (w))) ∧ T 3 = (V.mp 3 1 0 0) ∧ T 4 = (V.mp 4 1 0 0) ∧ T 32 = (V.bool (decide (((((40 < h.m.nx.length ∨ 40 < h.m.ot.length ∨ 20 < h.m.i) ∨ (200 < h.acc.length ∨ fe (longE h.acc) 0 h.acc.length ≠ 0)) ∨ (ogr o)) ∨ ((hval h) ≠ (0 : Int))) ∨ ((oval o) ≠ (0 : Int))))) ∧ H 3 = (⟨1, true, false, 26, 5, [[(iV (h.m.i)), (iV (h.m.s)), (V.sl (List.map cL (h.m.nx))), (V.sl (List.map cL (h.m.ot))), (V.sl (List.map cL (h.acc)))]]⟩ : Blk) ∧ H 4 = (⟨1, true, false, 34, 2, [[(iV (o.i)), (V.sl (List.map cT (o.tr)))]]⟩ : Blk) ∧ True) ?_ ?_
          · by_cases g3 : (((40 < h.m.nx.length ∨ 40 < h.m.ot.length ∨ 20 < h.m.i) ∨ (200 < h.acc.length ∨ fe (longE h.acc) 0 h.acc.length ≠ 0)) ∨ (ogr o)) ∨ ((hval h) ≠ (0 : Int))
            ·
              refine G_no (Eq.trans (@rfl V (V.bool (decide ((((40 < h.m.nx.length ∨ 40 < h.m.ot.length ∨ 20 < h.m.i) ∨ (200 < h.acc.length ∨ fe (longE h.acc) 0 h.acc.length ≠ 0)) ∨ (ogr o)) ∨ ((hval h) ≠ (0 : Int)))))) (bdT g3)) (by decide) ?_
              refine G_no (Eq.trans (@rfl V (V.bool (decide ((((40 < h.m.nx.length ∨ 40 < h.m.ot.length ∨ 20 < h.m.i) ∨ (200 < h.acc.length ∨ fe (longE h.acc) 0 h.acc.length ≠ 0)) ∨ (ogr o)) ∨ ((hval h) ≠ (0 : Int)))))) (bdT g3)) (by decide) ?_
              refine G_no (Eq.trans (@rfl V (V.bool (decide ((((40 < h.m.nx.length ∨ 40 < h.m.ot.length ∨ 20 < h.m.i) ∨ (200 < h.acc.length ∨ fe (longE h.acc) 0 h.acc.length ≠ 0)) ∨ (ogr o)) ∨ ((hval h) ≠ (0 : Int)))))) (bdT g3)) (by decide) ?_
              refine R_pickT (Eq.trans (@rfl V (V.bool (decide ((((40 < h.m.nx.length ∨ 40 < h.m.ot.length ∨ 20 < h.m.i) ∨ (200 < h.acc.length ∨ fe (longE h.acc) 0 h.acc.length ≠ 0)) ∨ (ogr o)) ∨ ((hval h) ≠ (0 : Int)))))) (bdT g3)) (@rfl V (V.bool true)) ?_
              exact ⟨t2, t3, t4, (Eq.trans (@rfl V (V.bool true)) (dec_orT g3)), h3, h4, trivial⟩
            ·
              refine G_yes (Eq.trans (@rfl V (V.bool (decide ((((40 < h.m.nx.length ∨ 40 < h.m.ot.length ∨ 20 < h.m.i) ∨ (200 < h.acc.length ∨ fe (longE h.acc) 0 h.acc.length ≠ 0)) ∨ (ogr o)) ∨ ((hval h) ≠ (0 : Int)))))) (bdF g3)) ?_
              refine R_load_mp (v := (V.agg [(iV (o.i)), (V.sl (List.map cT (o.tr)))])) t4 h4 (by first | rfl | simp [ldB, ldV, Blk.own, V.one]) ?_
              refine G_yes (Eq.trans (@rfl V (V.bool (decide ((((40 < h.m.nx.length ∨ 40 < h.m.ot.length ∨ 20 < h.m.i) ∨ (200 < h.acc.length ∨ fe (longE h.acc) 0 h.acc.length ≠ 0)) ∨ (ogr o)) ∨ ((hval h) ≠ (0 : Int)))))) (bdF g3)) ?_
              refine R_call (evcons (@rfl V (V.agg [(iV (o.i)), (V.sl (List.map cT (o.tr)))])) evnil) (roval_pure o) (fzv_mapcanon _ _ (by simp [-List.map_take, -List.map_drop, -List.map_append, -List.map_reverse])) (by simp [-List.map_take, -List.map_drop, -List.map_append, -List.map_reverse]) (Or.inl (by simp [-List.map_take, -List.map_drop, -List.map_append, -List.map_reverse])) ?_
              refine G_yes (Eq.trans (@rfl V (V.bool (decide ((((40 < h.m.nx.length ∨ 40 < h.m.ot.length ∨ 20 < h.m.i) ∨ (200 < h.acc.length ∨ fe (longE h.acc) 0 h.acc.length ≠ 0)) ∨ (ogr o)) ∨ ((hval h) ≠ (0 : Int)))))) (bdF g3)) ?_
              refine R_neq (x := (oval o)) (y := (0 : Int)) (@rfl V (iV (oval o))) (@rfl V (iV (0 : Int))) ?_
              refine R_pickF (Eq.trans (@rfl V (V.bool (decide ((((40 < h.m.nx.length ∨ 40 < h.m.ot.length ∨ 20 < h.m.i) ∨ (200 < h.acc.length ∨ fe (longE h.acc) 0 h.acc.length ≠ 0)) ∨ (ogr o)) ∨ ((hval h) ≠ (0 : Int)))))) (bdF g3)) (@rfl V (V.bool (decide ((oval o) ≠ (0 : Int))))) ?_
              exact ⟨t2, t3, t4, (Eq.trans (@rfl V (V.bool (decide ((oval o) ≠ (0 : Int))))) (dec_orF g3)), h3, h4, trivial⟩
          · intro T H ⟨t2, t3, t4, t32, h3, h4, _⟩
            exact R_nil ⟨t2, t3, t4, t32, h3, h4, trivial⟩
    · intro T H ⟨t2, t3, t4, t32, h3, h4, _⟩
      refine W_seq_if (p := ((((40 < h.m.nx.length ∨ 40 < h.m.ot.length ∨ 20 < h.m.i) ∨ (200 < h.acc.length ∨ fe (longE h.acc) 0 h.acc.length ≠ 0)) ∨ (ogr o)) ∨ ((hval h) ≠ (0 : Int))) ∨ ((oval o) ≠ (0 : Int))) t32 (fun c4 => ?_) (fun c4 => ?_)
      ·
        refine W_seq_seq ?_
        refine W_seq_regc (fun T H => T 6 = (V.bool true) ∧ H 3 = (⟨1, true, false, 26, 5, [[(iV (h.m.i)), (iV (h.m.s)), (V.sl (List.map cL (h.m.nx))), (V.sl (List.map cL (h.m.ot))), (V.sl (List.map cL (h.acc)))]]⟩ : Blk) ∧ H 4 = (⟨1, true, false, 34, 2, [[(iV (o.i)), (V.sl (List.map cT (o.tr)))]]⟩ : Blk) ∧ True) ?_ ?_
        · unfold r4_2
          refine R_call evnil (aw_learnerlaw22_awake_pure) (fzv_mapcanon _ _ (by simp [-List.map_take, -List.map_drop, -List.map_append, -List.map_reverse])) (by simp [-List.map_take, -List.map_drop, -List.map_append, -List.map_reverse]) (Or.inl (by simp [-List.map_take, -List.map_drop, -List.map_append, -List.map_reverse])) ?_
          refine R_mv (@rfl V (V.bool true)) ?_
          exact R_nil ⟨rfl, h3, h4, trivial⟩
        · intro T H ⟨t6, h3, h4, _⟩
          refine W_seq_ret ?_
          refine Ret_1 t6 (fz_canon (by simp) rfl)
      ·
        simp only [not_or, Decidable.not_not] at c4
        have hv : hval h = 0 := by omega
        have ho : oval o = 0 := by omega
        refine W_seq_skip ?_
        refine W_seq_regc (fun T H => T 2 = (V.sl (List.map cI (w))) ∧ T 3 = (V.mp 3 1 0 0) ∧ T 4 = (V.mp 4 1 0 0) ∧ T 7 = (V.sl (List.map cI (stW h w))) ∧ T 8 = (iV (wchk w h.m.i)) ∧ H 3 = (⟨1, true, false, 26, 5, [[(iV (h.m.i)), (iV (h.m.s)), (V.sl (List.map cL (h.m.nx))), (V.sl (List.map cL (h.m.ot))), (V.sl (List.map cL (h.acc)))]]⟩ : Blk) ∧ H 4 = (⟨1, true, false, 34, 2, [[(iV (o.i)), (V.sl (List.map cT (o.tr)))]]⟩ : Blk) ∧ True) ?_ ?_
        · unfold r4_3
          refine R_load_mp (v := (V.agg [(iV (h.m.i)), (iV (h.m.s)), (V.sl (List.map cL (h.m.nx))), (V.sl (List.map cL (h.m.ot))), (V.sl (List.map cL (h.acc)))])) t3 h3 (by first | rfl | simp [ldB, ldV, Blk.own, V.one]) ?_
          refine R_mv t2 ?_
          refine R_call (evcons (@rfl V (V.agg [(iV (h.m.i)), (iV (h.m.s)), (V.sl (List.map cL (h.m.nx))), (V.sl (List.map cL (h.m.ot))), (V.sl (List.map cL (h.acc)))])) (evcons (@rfl V (V.sl (List.map cI (w)))) evnil)) (hstate_pure h w hv) (fzv_mapcanon _ _ (by simp [-List.map_take, -List.map_drop, -List.map_append, -List.map_reverse])) (by simp [-List.map_take, -List.map_drop, -List.map_append, -List.map_reverse]) (Or.inl (by simp [-List.map_take, -List.map_drop, -List.map_append, -List.map_reverse])) ?_
          refine R_mv (@rfl V (V.tup [(V.sl (List.map cI (stW h w))), (iV (wchk w h.m.i))])) ?_
          refine R_ext (v := (V.sl (List.map cI (stW h w)))) (@rfl V (V.tup [(V.sl (List.map cI (stW h w))), (iV (wchk w h.m.i))])) rfl ?_
          refine R_ext (v := (iV (wchk w h.m.i))) (@rfl V (V.tup [(V.sl (List.map cI (stW h w))), (iV (wchk w h.m.i))])) rfl ?_
          refine R_mv (@rfl V (V.sl (List.map cI (stW h w)))) ?_
          refine R_mv (@rfl V (iV (wchk w h.m.i))) ?_
          exact R_nil ⟨t2, t3, t4, rfl, rfl, h3, h4, trivial⟩
        · intro T H ⟨t2, t3, t4, t7, t8, h3, h4, _⟩
          refine W_seq_regc (fun T H => T 3 = (V.mp 3 1 0 0) ∧ T 4 = (V.mp 4 1 0 0) ∧ T 7 = (V.sl (List.map cI (stW h w))) ∧ T 8 = (iV (wchk w h.m.i)) ∧ T 9 = (V.sl (List.map cI (stW h w))) ∧ T 10 = (iV (wchk w h.m.i)) ∧ H 3 = (⟨1, true, false, 26, 5, [[(iV (h.m.i)), (iV (h.m.s)), (V.sl (List.map cL (h.m.nx))), (V.sl (List.map cL (h.m.ot))), (V.sl (List.map cL (h.acc)))]]⟩ : Blk) ∧ H 4 = (⟨1, true, false, 34, 2, [[(iV (o.i)), (V.sl (List.map cT (o.tr)))]]⟩ : Blk) ∧ True) ?_ ?_
          · unfold r4_4
            refine R_load_mp (v := (V.agg [(iV (h.m.i)), (iV (h.m.s)), (V.sl (List.map cL (h.m.nx))), (V.sl (List.map cL (h.m.ot))), (V.sl (List.map cL (h.acc)))])) t3 h3 (by first | rfl | simp [ldB, ldV, Blk.own, V.one]) ?_
            refine R_mv t2 ?_
            refine R_call (evcons (@rfl V (V.agg [(iV (h.m.i)), (iV (h.m.s)), (V.sl (List.map cL (h.m.nx))), (V.sl (List.map cL (h.m.ot))), (V.sl (List.map cL (h.acc)))])) (evcons (@rfl V (V.sl (List.map cI (w)))) evnil)) (rhstate_pure h w hv) (fzv_mapcanon _ _ (by simp [-List.map_take, -List.map_drop, -List.map_append, -List.map_reverse])) (by simp [-List.map_take, -List.map_drop, -List.map_append, -List.map_reverse]) (Or.inl (by simp [-List.map_take, -List.map_drop, -List.map_append, -List.map_reverse])) ?_
            refine R_mv (@rfl V (V.tup [(V.sl (List.map cI (stW h w))), (iV (wchk w h.m.i))])) ?_
            refine R_ext (v := (V.sl (List.map cI (stW h w)))) (@rfl V (V.tup [(V.sl (List.map cI (stW h w))), (iV (wchk w h.m.i))])) rfl ?_
            refine R_ext (v := (iV (wchk w h.m.i))) (@rfl V (V.tup [(V.sl (List.map cI (stW h w))), (iV (wchk w h.m.i))])) rfl ?_
            refine R_mv (@rfl V (V.sl (List.map cI (stW h w)))) ?_
            refine R_mv (@rfl V (iV (wchk w h.m.i))) ?_
            exact R_nil ⟨t3, t4, t7, t8, rfl, rfl, h3, h4, trivial⟩
          · intro T H ⟨t3, t4, t7, t8, t9, t10, h3, h4, _⟩
            refine W_seq_regc (fun T H => T 3 = (V.mp 3 1 0 0) ∧ T 4 = (V.mp 4 1 0 0) ∧ T 7 = (V.sl (List.map cI (stW h w))) ∧ T 8 = (iV (wchk w h.m.i)) ∧ T 9 = (V.sl (List.map cI (stW h w))) ∧ T 10 = (iV (wchk w h.m.i)) ∧ T 11 = (V.sl (List.map cI (if h.m.i ≠ o.i then [] else least (rfs h o.tr)))) ∧ T 12 = (V.bool (decide (h.m.i = o.i ∧ rfs h o.tr ≠ []))) ∧ T 13 = (iV (if h.m.i ≠ o.i then (15 : Int) else 0)) ∧ H 3 = (⟨1, true, false, 26, 5, [[(iV (h.m.i)), (iV (h.m.s)), (V.sl (List.map cL (h.m.nx))), (V.sl (List.map cL (h.m.ot))), (V.sl (List.map cL (h.acc)))]]⟩ : Blk) ∧ H 4 = (⟨1, true, false, 34, 2, [[(iV (o.i)), (V.sl (List.map cT (o.tr)))]]⟩ : Blk) ∧ True) ?_ ?_
            · unfold r4_5
              refine R_load_mp (v := (V.agg [(iV (h.m.i)), (iV (h.m.s)), (V.sl (List.map cL (h.m.nx))), (V.sl (List.map cL (h.m.ot))), (V.sl (List.map cL (h.acc)))])) t3 h3 (by first | rfl | simp [ldB, ldV, Blk.own, V.one]) ?_
              refine R_load_mp (v := (V.agg [(iV (o.i)), (V.sl (List.map cT (o.tr)))])) t4 h4 (by first | rfl | simp [ldB, ldV, Blk.own, V.one]) ?_
              refine R_call (evcons (@rfl V (V.agg [(iV (h.m.i)), (iV (h.m.s)), (V.sl (List.map cL (h.m.nx))), (V.sl (List.map cL (h.m.ot))), (V.sl (List.map cL (h.acc)))])) (evcons (@rfl V (V.agg [(iV (o.i)), (V.sl (List.map cT (o.tr)))])) evnil)) (hrefuted_pure h o hv ho) (fzv_mapcanon _ _ (by simp [-List.map_take, -List.map_drop, -List.map_append, -List.map_reverse])) (by simp [-List.map_take, -List.map_drop, -List.map_append, -List.map_reverse]) (Or.inl (by simp [-List.map_take, -List.map_drop, -List.map_append, -List.map_reverse])) ?_
              refine R_mv (@rfl V (V.tup [(V.sl (List.map cI (if h.m.i ≠ o.i then [] else least (rfs h o.tr)))), (V.bool (decide (h.m.i = o.i ∧ rfs h o.tr ≠ []))), (iV (if h.m.i ≠ o.i then (15 : Int) else 0))])) ?_
              refine R_ext (v := (V.sl (List.map cI (if h.m.i ≠ o.i then [] else least (rfs h o.tr))))) (@rfl V (V.tup [(V.sl (List.map cI (if h.m.i ≠ o.i then [] else least (rfs h o.tr)))), (V.bool (decide (h.m.i = o.i ∧ rfs h o.tr ≠ []))), (iV (if h.m.i ≠ o.i then (15 : Int) else 0))])) rfl ?_
              refine R_ext (v := (V.bool (decide (h.m.i = o.i ∧ rfs h o.tr ≠ [])))) (@rfl V (V.tup [(V.sl (List.map cI (if h.m.i ≠ o.i then [] else least (rfs h o.tr)))), (V.bool (decide (h.m.i = o.i ∧ rfs h o.tr ≠ []))), (iV (if h.m.i ≠ o.i then (15 : Int) else 0))])) rfl ?_
              refine R_ext (v := (iV (if h.m.i ≠ o.i then (15 : Int) else 0))) (@rfl V (V.tup [(V.sl (List.map cI (if h.m.i ≠ o.i then [] else least (rfs h o.tr)))), (V.bool (decide (h.m.i = o.i ∧ rfs h o.tr ≠ []))), (iV (if h.m.i ≠ o.i then (15 : Int) else 0))])) rfl ?_
              refine R_mv (@rfl V (V.sl (List.map cI (if h.m.i ≠ o.i then [] else least (rfs h o.tr))))) ?_
              refine R_mv (@rfl V (V.bool (decide (h.m.i = o.i ∧ rfs h o.tr ≠ [])))) ?_
              refine R_mv (@rfl V (iV (if h.m.i ≠ o.i then (15 : Int) else 0))) ?_
              exact R_nil ⟨t3, t4, t7, t8, t9, t10, rfl, rfl, rfl, h3, h4, trivial⟩
            · intro T H ⟨t3, t4, t7, t8, t9, t10, t11, t12, t13, h3, h4, _⟩
              refine W_seq_regc (fun T H => T 7 = (V.sl (List.map cI (stW h w))) ∧ T 8 = (iV (wchk w h.m.i)) ∧ T 9 = (V.sl (List.map cI (stW h w))) ∧ T 10 = (iV (wchk w h.m.i)) ∧ T 11 = (V.sl (List.map cI (if h.m.i ≠ o.i then [] else least (rfs h o.tr)))) ∧ T 12 = (V.bool (decide (h.m.i = o.i ∧ rfs h o.tr ≠ []))) ∧ T 13 = (iV (if h.m.i ≠ o.i then (15 : Int) else 0)) ∧ T 14 = (V.sl (List.map cI (if h.m.i ≠ o.i then [] else least (rfs h o.tr)))) ∧ T 15 = (V.bool (decide (h.m.i = o.i ∧ rfs h o.tr ≠ []))) ∧ T 16 = (iV (if h.m.i ≠ o.i then (15 : Int) else 0)) ∧ H 3 = (⟨1, true, false, 26, 5, [[(iV (h.m.i)), (iV (h.m.s)), (V.sl (List.map cL (h.m.nx))), (V.sl (List.map cL (h.m.ot))), (V.sl (List.map cL (h.acc)))]]⟩ : Blk) ∧ H 4 = (⟨1, true, false, 34, 2, [[(iV (o.i)), (V.sl (List.map cT (o.tr)))]]⟩ : Blk) ∧ True) ?_ ?_
              · unfold r4_6
                refine R_load_mp (v := (V.agg [(iV (h.m.i)), (iV (h.m.s)), (V.sl (List.map cL (h.m.nx))), (V.sl (List.map cL (h.m.ot))), (V.sl (List.map cL (h.acc)))])) t3 h3 (by first | rfl | simp [ldB, ldV, Blk.own, V.one]) ?_
                refine R_load_mp (v := (V.agg [(iV (o.i)), (V.sl (List.map cT (o.tr)))])) t4 h4 (by first | rfl | simp [ldB, ldV, Blk.own, V.one]) ?_
                refine R_call (evcons (@rfl V (V.agg [(iV (h.m.i)), (iV (h.m.s)), (V.sl (List.map cL (h.m.nx))), (V.sl (List.map cL (h.m.ot))), (V.sl (List.map cL (h.acc)))])) (evcons (@rfl V (V.agg [(iV (o.i)), (V.sl (List.map cT (o.tr)))])) evnil)) (rhrefuted_pure h o hv ho) (fzv_mapcanon _ _ (by simp [-List.map_take, -List.map_drop, -List.map_append, -List.map_reverse])) (by simp [-List.map_take, -List.map_drop, -List.map_append, -List.map_reverse]) (Or.inl (by simp [-List.map_take, -List.map_drop, -List.map_append, -List.map_reverse])) ?_
                refine R_mv (@rfl V (V.tup [(V.sl (List.map cI (if h.m.i ≠ o.i then [] else least (rfs h o.tr)))), (V.bool (decide (h.m.i = o.i ∧ rfs h o.tr ≠ []))), (iV (if h.m.i ≠ o.i then (15 : Int) else 0))])) ?_
                refine R_ext (v := (V.sl (List.map cI (if h.m.i ≠ o.i then [] else least (rfs h o.tr))))) (@rfl V (V.tup [(V.sl (List.map cI (if h.m.i ≠ o.i then [] else least (rfs h o.tr)))), (V.bool (decide (h.m.i = o.i ∧ rfs h o.tr ≠ []))), (iV (if h.m.i ≠ o.i then (15 : Int) else 0))])) rfl ?_
                refine R_ext (v := (V.bool (decide (h.m.i = o.i ∧ rfs h o.tr ≠ [])))) (@rfl V (V.tup [(V.sl (List.map cI (if h.m.i ≠ o.i then [] else least (rfs h o.tr)))), (V.bool (decide (h.m.i = o.i ∧ rfs h o.tr ≠ []))), (iV (if h.m.i ≠ o.i then (15 : Int) else 0))])) rfl ?_
                refine R_ext (v := (iV (if h.m.i ≠ o.i then (15 : Int) else 0))) (@rfl V (V.tup [(V.sl (List.map cI (if h.m.i ≠ o.i then [] else least (rfs h o.tr)))), (V.bool (decide (h.m.i = o.i ∧ rfs h o.tr ≠ []))), (iV (if h.m.i ≠ o.i then (15 : Int) else 0))])) rfl ?_
                refine R_mv (@rfl V (V.sl (List.map cI (if h.m.i ≠ o.i then [] else least (rfs h o.tr))))) ?_
                refine R_mv (@rfl V (V.bool (decide (h.m.i = o.i ∧ rfs h o.tr ≠ [])))) ?_
                refine R_mv (@rfl V (iV (if h.m.i ≠ o.i then (15 : Int) else 0))) ?_
                exact R_nil ⟨t7, t8, t9, t10, t11, t12, t13, rfl, rfl, rfl, h3, h4, trivial⟩
              · intro T H ⟨t7, t8, t9, t10, t11, t12, t13, t14, t15, t16, h3, h4, _⟩
                refine W_seq_regc (fun T H => T 6 = (V.bool ((((((decide ((((stW h w) = (stW h w)) ∧ ((wchk w h.m.i) = (wchk w h.m.i))) ∧ ((if h.m.i ≠ o.i then [] else least (rfs h o.tr)) = (if h.m.i ≠ o.i then [] else least (rfs h o.tr)))) && ((decide (h.m.i = o.i ∧ rfs h o.tr ≠ []) == decide (h.m.i = o.i ∧ rfs h o.tr ≠ []))))) && decide ((if h.m.i ≠ o.i then (15 : Int) else 0) = (if h.m.i ≠ o.i then (15 : Int) else 0)))) || false))) ∧ H 3 = (⟨1, true, false, 26, 5, [[(iV (h.m.i)), (iV (h.m.s)), (V.sl (List.map cL (h.m.nx))), (V.sl (List.map cL (h.m.ot))), (V.sl (List.map cL (h.acc)))]]⟩ : Blk) ∧ H 4 = (⟨1, true, false, 34, 2, [[(iV (o.i)), (V.sl (List.map cT (o.tr)))]]⟩ : Blk) ∧ True) ?_ ?_
                · unfold r4_7
                  refine R_mv t7 ?_
                  refine R_mv t9 ?_
                  refine R_call (evcons (@rfl V (V.sl (List.map cI (stW h w)))) (evcons (@rfl V (V.sl (List.map cI (stW h w)))) evnil)) (ints_pure (stW h w) (stW h w)) (fzv_mapcanon _ _ (by simp [-List.map_take, -List.map_drop, -List.map_append, -List.map_reverse])) (by simp [-List.map_take, -List.map_drop, -List.map_append, -List.map_reverse]) (Or.inl (by simp [-List.map_take, -List.map_drop, -List.map_append, -List.map_reverse])) ?_
                  refine R_mv (@rfl V (V.bool (decide ((stW h w) = (stW h w))))) ?_
                  refine Ops_seg 4 (fun T H => T 11 = (V.sl (List.map cI (if h.m.i ≠ o.i then [] else least (rfs h o.tr)))) ∧ T 12 = (V.bool (decide (h.m.i = o.i ∧ rfs h o.tr ≠ []))) ∧ T 13 = (iV (if h.m.i ≠ o.i then (15 : Int) else 0)) ∧ T 14 = (V.sl (List.map cI (if h.m.i ≠ o.i then [] else least (rfs h o.tr)))) ∧ T 15 = (V.bool (decide (h.m.i = o.i ∧ rfs h o.tr ≠ []))) ∧ T 16 = (iV (if h.m.i ≠ o.i then (15 : Int) else 0)) ∧ T 67 = (V.bool (decide (((stW h w) = (stW h w)) ∧ ((wchk w h.m.i) = (wchk w h.m.i))))) ∧ H 3 = (⟨1, true, false, 26, 5, [[(iV (h.m.i)), (iV (h.m.s)), (V.sl (List.map cL (h.m.nx))), (V.sl (List.map cL (h.m.ot))), (V.sl (List.map cL (h.acc)))]]⟩ : Blk) ∧ H 4 = (⟨1, true, false, 34, 2, [[(iV (o.i)), (V.sl (List.map cT (o.tr)))]]⟩ : Blk) ∧ True) ?_ ?_
                  · by_cases g5 : (stW h w) = (stW h w)
                    ·
                      refine G_yes (Eq.trans (@rfl V (V.bool (decide ((stW h w) = (stW h w))))) (bdT g5)) ?_
                      refine R_mv t8 ?_
                      refine G_yes (Eq.trans (@rfl V (V.bool (decide ((stW h w) = (stW h w))))) (bdT g5)) ?_
                      refine R_mv t10 ?_
                      refine G_yes (Eq.trans (@rfl V (V.bool (decide ((stW h w) = (stW h w))))) (bdT g5)) ?_
                      refine R_eql (x := (wchk w h.m.i)) (y := (wchk w h.m.i)) (@rfl V (iV (wchk w h.m.i))) (@rfl V (iV (wchk w h.m.i))) ?_
                      refine R_pickT (Eq.trans (@rfl V (V.bool (decide ((stW h w) = (stW h w))))) (bdT g5)) (@rfl V (V.bool (decide ((wchk w h.m.i) = (wchk w h.m.i))))) ?_
                      exact ⟨t11, t12, t13, t14, t15, t16, (Eq.trans (@rfl V (V.bool (decide ((wchk w h.m.i) = (wchk w h.m.i))))) (dec_andT g5)), h3, h4, trivial⟩
                    ·
                      refine G_no (Eq.trans (@rfl V (V.bool (decide ((stW h w) = (stW h w))))) (bdF g5)) (by decide) ?_
                      refine G_no (Eq.trans (@rfl V (V.bool (decide ((stW h w) = (stW h w))))) (bdF g5)) (by decide) ?_
                      refine G_no (Eq.trans (@rfl V (V.bool (decide ((stW h w) = (stW h w))))) (bdF g5)) (by decide) ?_
                      refine R_pickF (Eq.trans (@rfl V (V.bool (decide ((stW h w) = (stW h w))))) (bdF g5)) (@rfl V (V.bool false)) ?_
                      exact ⟨t11, t12, t13, t14, t15, t16, (Eq.trans (@rfl V (V.bool false)) (dec_andF g5)), h3, h4, trivial⟩
                  · intro T H ⟨t11, t12, t13, t14, t15, t16, t67, h3, h4, _⟩
                    refine R_mv t67 ?_
                    refine Ops_seg 4 (fun T H => T 12 = (V.bool (decide (h.m.i = o.i ∧ rfs h o.tr ≠ []))) ∧ T 13 = (iV (if h.m.i ≠ o.i then (15 : Int) else 0)) ∧ T 15 = (V.bool (decide (h.m.i = o.i ∧ rfs h o.tr ≠ []))) ∧ T 16 = (iV (if h.m.i ≠ o.i then (15 : Int) else 0)) ∧ T 72 = (V.bool (decide ((((stW h w) = (stW h w)) ∧ ((wchk w h.m.i) = (wchk w h.m.i))) ∧ ((if h.m.i ≠ o.i then [] else least (rfs h o.tr)) = (if h.m.i ≠ o.i then [] else least (rfs h o.tr)))))) ∧ H 3 = (⟨1, true, false, 26, 5, [[(iV (h.m.i)), (iV (h.m.s)), (V.sl (List.map cL (h.m.nx))), (V.sl (List.map cL (h.m.ot))), (V.sl (List.map cL (h.acc)))]]⟩ : Blk) ∧ H 4 = (⟨1, true, false, 34, 2, [[(iV (o.i)), (V.sl (List.map cT (o.tr)))]]⟩ : Blk) ∧ True) ?_ ?_
                    · by_cases g6 : ((stW h w) = (stW h w)) ∧ ((wchk w h.m.i) = (wchk w h.m.i))
                      ·
                        refine G_yes (Eq.trans (@rfl V (V.bool (decide (((stW h w) = (stW h w)) ∧ ((wchk w h.m.i) = (wchk w h.m.i)))))) (bdT g6)) ?_
                        refine R_mv t11 ?_
                        refine G_yes (Eq.trans (@rfl V (V.bool (decide (((stW h w) = (stW h w)) ∧ ((wchk w h.m.i) = (wchk w h.m.i)))))) (bdT g6)) ?_
                        refine R_mv t14 ?_
                        refine G_yes (Eq.trans (@rfl V (V.bool (decide (((stW h w) = (stW h w)) ∧ ((wchk w h.m.i) = (wchk w h.m.i)))))) (bdT g6)) ?_
                        refine R_call (evcons (@rfl V (V.sl (List.map cI (if h.m.i ≠ o.i then [] else least (rfs h o.tr))))) (evcons (@rfl V (V.sl (List.map cI (if h.m.i ≠ o.i then [] else least (rfs h o.tr))))) evnil)) (ints_pure (if h.m.i ≠ o.i then [] else least (rfs h o.tr)) (if h.m.i ≠ o.i then [] else least (rfs h o.tr))) (fzv_mapcanon _ _ (by simp [-List.map_take, -List.map_drop, -List.map_append, -List.map_reverse])) (by simp [-List.map_take, -List.map_drop, -List.map_append, -List.map_reverse]) (Or.inl (by simp [-List.map_take, -List.map_drop, -List.map_append, -List.map_reverse])) ?_
                        refine R_pickT (Eq.trans (@rfl V (V.bool (decide (((stW h w) = (stW h w)) ∧ ((wchk w h.m.i) = (wchk w h.m.i)))))) (bdT g6)) (@rfl V (V.bool (decide ((if h.m.i ≠ o.i then [] else least (rfs h o.tr)) = (if h.m.i ≠ o.i then [] else least (rfs h o.tr)))))) ?_
                        exact ⟨t12, t13, t15, t16, (Eq.trans (@rfl V (V.bool (decide ((if h.m.i ≠ o.i then [] else least (rfs h o.tr)) = (if h.m.i ≠ o.i then [] else least (rfs h o.tr)))))) (dec_andT g6)), h3, h4, trivial⟩
                      ·
                        refine G_no (Eq.trans (@rfl V (V.bool (decide (((stW h w) = (stW h w)) ∧ ((wchk w h.m.i) = (wchk w h.m.i)))))) (bdF g6)) (by decide) ?_
                        refine G_no (Eq.trans (@rfl V (V.bool (decide (((stW h w) = (stW h w)) ∧ ((wchk w h.m.i) = (wchk w h.m.i)))))) (bdF g6)) (by decide) ?_
                        refine G_no (Eq.trans (@rfl V (V.bool (decide (((stW h w) = (stW h w)) ∧ ((wchk w h.m.i) = (wchk w h.m.i)))))) (bdF g6)) (by decide) ?_
                        refine R_pickF (Eq.trans (@rfl V (V.bool (decide (((stW h w) = (stW h w)) ∧ ((wchk w h.m.i) = (wchk w h.m.i)))))) (bdF g6)) (@rfl V (V.bool false)) ?_
                        exact ⟨t12, t13, t15, t16, (Eq.trans (@rfl V (V.bool false)) (dec_andF g6)), h3, h4, trivial⟩
                    · intro T H ⟨t12, t13, t15, t16, t72, h3, h4, _⟩
                      refine R_mv t72 ?_
                      refine Ops_seg 4 (fun T H => T 13 = (iV (if h.m.i ≠ o.i then (15 : Int) else 0)) ∧ T 16 = (iV (if h.m.i ≠ o.i then (15 : Int) else 0)) ∧ T 77 = (V.bool ((decide ((((stW h w) = (stW h w)) ∧ ((wchk w h.m.i) = (wchk w h.m.i))) ∧ ((if h.m.i ≠ o.i then [] else least (rfs h o.tr)) = (if h.m.i ≠ o.i then [] else least (rfs h o.tr)))) && ((decide (h.m.i = o.i ∧ rfs h o.tr ≠ []) == decide (h.m.i = o.i ∧ rfs h o.tr ≠ [])))))) ∧ H 3 = (⟨1, true, false, 26, 5, [[(iV (h.m.i)), (iV (h.m.s)), (V.sl (List.map cL (h.m.nx))), (V.sl (List.map cL (h.m.ot))), (V.sl (List.map cL (h.acc)))]]⟩ : Blk) ∧ H 4 = (⟨1, true, false, 34, 2, [[(iV (o.i)), (V.sl (List.map cT (o.tr)))]]⟩ : Blk) ∧ True) ?_ ?_
                      · by_cases g7 : (((stW h w) = (stW h w)) ∧ ((wchk w h.m.i) = (wchk w h.m.i))) ∧ ((if h.m.i ≠ o.i then [] else least (rfs h o.tr)) = (if h.m.i ≠ o.i then [] else least (rfs h o.tr)))
                        ·
                          refine G_yes (Eq.trans (@rfl V (V.bool (decide ((((stW h w) = (stW h w)) ∧ ((wchk w h.m.i) = (wchk w h.m.i))) ∧ ((if h.m.i ≠ o.i then [] else least (rfs h o.tr)) = (if h.m.i ≠ o.i then [] else least (rfs h o.tr))))))) (bdT g7)) ?_
                          refine R_mv t12 ?_
                          refine G_yes (Eq.trans (@rfl V (V.bool (decide ((((stW h w) = (stW h w)) ∧ ((wchk w h.m.i) = (wchk w h.m.i))) ∧ ((if h.m.i ≠ o.i then [] else least (rfs h o.tr)) = (if h.m.i ≠ o.i then [] else least (rfs h o.tr))))))) (bdT g7)) ?_
                          refine R_mv t15 ?_
                          refine G_yes (Eq.trans (@rfl V (V.bool (decide ((((stW h w) = (stW h w)) ∧ ((wchk w h.m.i) = (wchk w h.m.i))) ∧ ((if h.m.i ≠ o.i then [] else least (rfs h o.tr)) = (if h.m.i ≠ o.i then [] else least (rfs h o.tr))))))) (bdT g7)) ?_
                          refine R_beql (x := decide (h.m.i = o.i ∧ rfs h o.tr ≠ [])) (y := decide (h.m.i = o.i ∧ rfs h o.tr ≠ [])) (@rfl V (V.bool (decide (h.m.i = o.i ∧ rfs h o.tr ≠ [])))) (@rfl V (V.bool (decide (h.m.i = o.i ∧ rfs h o.tr ≠ [])))) ?_
                          refine R_pickT (Eq.trans (@rfl V (V.bool (decide ((((stW h w) = (stW h w)) ∧ ((wchk w h.m.i) = (wchk w h.m.i))) ∧ ((if h.m.i ≠ o.i then [] else least (rfs h o.tr)) = (if h.m.i ≠ o.i then [] else least (rfs h o.tr))))))) (bdT g7)) (@rfl V (V.bool ((decide (h.m.i = o.i ∧ rfs h o.tr ≠ []) == decide (h.m.i = o.i ∧ rfs h o.tr ≠ []))))) ?_
                          exact ⟨t13, t16, (Eq.trans (@rfl V (V.bool ((decide (h.m.i = o.i ∧ rfs h o.tr ≠ []) == decide (h.m.i = o.i ∧ rfs h o.tr ≠ []))))) (dbandT g7)), h3, h4, trivial⟩
                        ·
                          refine G_no (Eq.trans (@rfl V (V.bool (decide ((((stW h w) = (stW h w)) ∧ ((wchk w h.m.i) = (wchk w h.m.i))) ∧ ((if h.m.i ≠ o.i then [] else least (rfs h o.tr)) = (if h.m.i ≠ o.i then [] else least (rfs h o.tr))))))) (bdF g7)) (by decide) ?_
                          refine G_no (Eq.trans (@rfl V (V.bool (decide ((((stW h w) = (stW h w)) ∧ ((wchk w h.m.i) = (wchk w h.m.i))) ∧ ((if h.m.i ≠ o.i then [] else least (rfs h o.tr)) = (if h.m.i ≠ o.i then [] else least (rfs h o.tr))))))) (bdF g7)) (by decide) ?_
                          refine G_no (Eq.trans (@rfl V (V.bool (decide ((((stW h w) = (stW h w)) ∧ ((wchk w h.m.i) = (wchk w h.m.i))) ∧ ((if h.m.i ≠ o.i then [] else least (rfs h o.tr)) = (if h.m.i ≠ o.i then [] else least (rfs h o.tr))))))) (bdF g7)) (by decide) ?_
                          refine R_pickF (Eq.trans (@rfl V (V.bool (decide ((((stW h w) = (stW h w)) ∧ ((wchk w h.m.i) = (wchk w h.m.i))) ∧ ((if h.m.i ≠ o.i then [] else least (rfs h o.tr)) = (if h.m.i ≠ o.i then [] else least (rfs h o.tr))))))) (bdF g7)) (@rfl V (V.bool false)) ?_
                          exact ⟨t13, t16, (Eq.trans (@rfl V (V.bool false)) (dbandF g7)), h3, h4, trivial⟩
                      · intro T H ⟨t13, t16, t77, h3, h4, _⟩
                        refine R_mv t77 ?_
                        refine Ops_seg 4 (fun T H => T 82 = (V.bool ((((decide ((((stW h w) = (stW h w)) ∧ ((wchk w h.m.i) = (wchk w h.m.i))) ∧ ((if h.m.i ≠ o.i then [] else least (rfs h o.tr)) = (if h.m.i ≠ o.i then [] else least (rfs h o.tr)))) && ((decide (h.m.i = o.i ∧ rfs h o.tr ≠ []) == decide (h.m.i = o.i ∧ rfs h o.tr ≠ []))))) && decide ((if h.m.i ≠ o.i then (15 : Int) else 0) = (if h.m.i ≠ o.i then (15 : Int) else 0))))) ∧ H 3 = (⟨1, true, false, 26, 5, [[(iV (h.m.i)), (iV (h.m.s)), (V.sl (List.map cL (h.m.nx))), (V.sl (List.map cL (h.m.ot))), (V.sl (List.map cL (h.acc)))]]⟩ : Blk) ∧ H 4 = (⟨1, true, false, 34, 2, [[(iV (o.i)), (V.sl (List.map cT (o.tr)))]]⟩ : Blk) ∧ True) ?_ ?_
                        · by_cases g8 : ((decide ((((stW h w) = (stW h w)) ∧ ((wchk w h.m.i) = (wchk w h.m.i))) ∧ ((if h.m.i ≠ o.i then [] else least (rfs h o.tr)) = (if h.m.i ≠ o.i then [] else least (rfs h o.tr)))) && ((decide (h.m.i = o.i ∧ rfs h o.tr ≠ []) == decide (h.m.i = o.i ∧ rfs h o.tr ≠ []))))) = true
                          ·
                            refine G_yes (Eq.trans (@rfl V (V.bool ((decide ((((stW h w) = (stW h w)) ∧ ((wchk w h.m.i) = (wchk w h.m.i))) ∧ ((if h.m.i ≠ o.i then [] else least (rfs h o.tr)) = (if h.m.i ≠ o.i then [] else least (rfs h o.tr)))) && ((decide (h.m.i = o.i ∧ rfs h o.tr ≠ []) == decide (h.m.i = o.i ∧ rfs h o.tr ≠ []))))))) (bbT g8)) ?_
                            refine R_mv t13 ?_
                            refine G_yes (Eq.trans (@rfl V (V.bool ((decide ((((stW h w) = (stW h w)) ∧ ((wchk w h.m.i) = (wchk w h.m.i))) ∧ ((if h.m.i ≠ o.i then [] else least (rfs h o.tr)) = (if h.m.i ≠ o.i then [] else least (rfs h o.tr)))) && ((decide (h.m.i = o.i ∧ rfs h o.tr ≠ []) == decide (h.m.i = o.i ∧ rfs h o.tr ≠ []))))))) (bbT g8)) ?_
                            refine R_mv t16 ?_
                            refine G_yes (Eq.trans (@rfl V (V.bool ((decide ((((stW h w) = (stW h w)) ∧ ((wchk w h.m.i) = (wchk w h.m.i))) ∧ ((if h.m.i ≠ o.i then [] else least (rfs h o.tr)) = (if h.m.i ≠ o.i then [] else least (rfs h o.tr)))) && ((decide (h.m.i = o.i ∧ rfs h o.tr ≠ []) == decide (h.m.i = o.i ∧ rfs h o.tr ≠ []))))))) (bbT g8)) ?_
                            refine R_eql (x := (if h.m.i ≠ o.i then (15 : Int) else 0)) (y := (if h.m.i ≠ o.i then (15 : Int) else 0)) (@rfl V (iV (if h.m.i ≠ o.i then (15 : Int) else 0))) (@rfl V (iV (if h.m.i ≠ o.i then (15 : Int) else 0))) ?_
                            refine R_pickT (Eq.trans (@rfl V (V.bool ((decide ((((stW h w) = (stW h w)) ∧ ((wchk w h.m.i) = (wchk w h.m.i))) ∧ ((if h.m.i ≠ o.i then [] else least (rfs h o.tr)) = (if h.m.i ≠ o.i then [] else least (rfs h o.tr)))) && ((decide (h.m.i = o.i ∧ rfs h o.tr ≠ []) == decide (h.m.i = o.i ∧ rfs h o.tr ≠ []))))))) (bbT g8)) (@rfl V (V.bool (decide ((if h.m.i ≠ o.i then (15 : Int) else 0) = (if h.m.i ≠ o.i then (15 : Int) else 0))))) ?_
                            exact ⟨(Eq.trans (@rfl V (V.bool (decide ((if h.m.i ≠ o.i then (15 : Int) else 0) = (if h.m.i ≠ o.i then (15 : Int) else 0))))) (bandT g8)), h3, h4, trivial⟩
                          ·
                            refine G_no (Eq.trans (@rfl V (V.bool ((decide ((((stW h w) = (stW h w)) ∧ ((wchk w h.m.i) = (wchk w h.m.i))) ∧ ((if h.m.i ≠ o.i then [] else least (rfs h o.tr)) = (if h.m.i ≠ o.i then [] else least (rfs h o.tr)))) && ((decide (h.m.i = o.i ∧ rfs h o.tr ≠ []) == decide (h.m.i = o.i ∧ rfs h o.tr ≠ []))))))) (bbF g8)) (by decide) ?_
                            refine G_no (Eq.trans (@rfl V (V.bool ((decide ((((stW h w) = (stW h w)) ∧ ((wchk w h.m.i) = (wchk w h.m.i))) ∧ ((if h.m.i ≠ o.i then [] else least (rfs h o.tr)) = (if h.m.i ≠ o.i then [] else least (rfs h o.tr)))) && ((decide (h.m.i = o.i ∧ rfs h o.tr ≠ []) == decide (h.m.i = o.i ∧ rfs h o.tr ≠ []))))))) (bbF g8)) (by decide) ?_
                            refine G_no (Eq.trans (@rfl V (V.bool ((decide ((((stW h w) = (stW h w)) ∧ ((wchk w h.m.i) = (wchk w h.m.i))) ∧ ((if h.m.i ≠ o.i then [] else least (rfs h o.tr)) = (if h.m.i ≠ o.i then [] else least (rfs h o.tr)))) && ((decide (h.m.i = o.i ∧ rfs h o.tr ≠ []) == decide (h.m.i = o.i ∧ rfs h o.tr ≠ []))))))) (bbF g8)) (by decide) ?_
                            refine R_pickF (Eq.trans (@rfl V (V.bool ((decide ((((stW h w) = (stW h w)) ∧ ((wchk w h.m.i) = (wchk w h.m.i))) ∧ ((if h.m.i ≠ o.i then [] else least (rfs h o.tr)) = (if h.m.i ≠ o.i then [] else least (rfs h o.tr)))) && ((decide (h.m.i = o.i ∧ rfs h o.tr ≠ []) == decide (h.m.i = o.i ∧ rfs h o.tr ≠ []))))))) (bbF g8)) (@rfl V (V.bool false)) ?_
                            exact ⟨(Eq.trans (@rfl V (V.bool false)) (bandF g8)), h3, h4, trivial⟩
                        · intro T H ⟨t82, h3, h4, _⟩
                          refine R_mv t82 ?_
                          refine Ops_seg 2 (fun T H => T 85 = (V.bool ((((((decide ((((stW h w) = (stW h w)) ∧ ((wchk w h.m.i) = (wchk w h.m.i))) ∧ ((if h.m.i ≠ o.i then [] else least (rfs h o.tr)) = (if h.m.i ≠ o.i then [] else least (rfs h o.tr)))) && ((decide (h.m.i = o.i ∧ rfs h o.tr ≠ []) == decide (h.m.i = o.i ∧ rfs h o.tr ≠ []))))) && decide ((if h.m.i ≠ o.i then (15 : Int) else 0) = (if h.m.i ≠ o.i then (15 : Int) else 0)))) || false))) ∧ H 3 = (⟨1, true, false, 26, 5, [[(iV (h.m.i)), (iV (h.m.s)), (V.sl (List.map cL (h.m.nx))), (V.sl (List.map cL (h.m.ot))), (V.sl (List.map cL (h.acc)))]]⟩ : Blk) ∧ H 4 = (⟨1, true, false, 34, 2, [[(iV (o.i)), (V.sl (List.map cT (o.tr)))]]⟩ : Blk) ∧ True) ?_ ?_
                          · by_cases g9 : ((((decide ((((stW h w) = (stW h w)) ∧ ((wchk w h.m.i) = (wchk w h.m.i))) ∧ ((if h.m.i ≠ o.i then [] else least (rfs h o.tr)) = (if h.m.i ≠ o.i then [] else least (rfs h o.tr)))) && ((decide (h.m.i = o.i ∧ rfs h o.tr ≠ []) == decide (h.m.i = o.i ∧ rfs h o.tr ≠ []))))) && decide ((if h.m.i ≠ o.i then (15 : Int) else 0) = (if h.m.i ≠ o.i then (15 : Int) else 0)))) = true
                            ·
                              refine G_yes (Eq.trans (@rfl V (V.bool ((((decide ((((stW h w) = (stW h w)) ∧ ((wchk w h.m.i) = (wchk w h.m.i))) ∧ ((if h.m.i ≠ o.i then [] else least (rfs h o.tr)) = (if h.m.i ≠ o.i then [] else least (rfs h o.tr)))) && ((decide (h.m.i = o.i ∧ rfs h o.tr ≠ []) == decide (h.m.i = o.i ∧ rfs h o.tr ≠ []))))) && decide ((if h.m.i ≠ o.i then (15 : Int) else 0) = (if h.m.i ≠ o.i then (15 : Int) else 0)))))) (bbT g9)) ?_
                              refine R_call evnil (aw_learnerlaw22_awake_pure) (fzv_mapcanon _ _ (by simp [-List.map_take, -List.map_drop, -List.map_append, -List.map_reverse])) (by simp [-List.map_take, -List.map_drop, -List.map_append, -List.map_reverse]) (Or.inl (by simp [-List.map_take, -List.map_drop, -List.map_append, -List.map_reverse])) ?_
                              refine R_pickT (Eq.trans (@rfl V (V.bool ((((decide ((((stW h w) = (stW h w)) ∧ ((wchk w h.m.i) = (wchk w h.m.i))) ∧ ((if h.m.i ≠ o.i then [] else least (rfs h o.tr)) = (if h.m.i ≠ o.i then [] else least (rfs h o.tr)))) && ((decide (h.m.i = o.i ∧ rfs h o.tr ≠ []) == decide (h.m.i = o.i ∧ rfs h o.tr ≠ []))))) && decide ((if h.m.i ≠ o.i then (15 : Int) else 0) = (if h.m.i ≠ o.i then (15 : Int) else 0)))))) (bbT g9)) (@rfl V (V.bool true)) ?_
                              exact ⟨(Eq.trans (@rfl V (V.bool true)) (borT g9)), h3, h4, trivial⟩
                            ·
                              refine G_no (Eq.trans (@rfl V (V.bool ((((decide ((((stW h w) = (stW h w)) ∧ ((wchk w h.m.i) = (wchk w h.m.i))) ∧ ((if h.m.i ≠ o.i then [] else least (rfs h o.tr)) = (if h.m.i ≠ o.i then [] else least (rfs h o.tr)))) && ((decide (h.m.i = o.i ∧ rfs h o.tr ≠ []) == decide (h.m.i = o.i ∧ rfs h o.tr ≠ []))))) && decide ((if h.m.i ≠ o.i then (15 : Int) else 0) = (if h.m.i ≠ o.i then (15 : Int) else 0)))))) (bbF g9)) (by decide) ?_
                              refine R_pickF (Eq.trans (@rfl V (V.bool ((((decide ((((stW h w) = (stW h w)) ∧ ((wchk w h.m.i) = (wchk w h.m.i))) ∧ ((if h.m.i ≠ o.i then [] else least (rfs h o.tr)) = (if h.m.i ≠ o.i then [] else least (rfs h o.tr)))) && ((decide (h.m.i = o.i ∧ rfs h o.tr ≠ []) == decide (h.m.i = o.i ∧ rfs h o.tr ≠ []))))) && decide ((if h.m.i ≠ o.i then (15 : Int) else 0) = (if h.m.i ≠ o.i then (15 : Int) else 0)))))) (bbF g9)) (@rfl V (V.bool false)) ?_
                              exact ⟨(Eq.trans (@rfl V (V.bool false)) (borF g9)), h3, h4, trivial⟩
                          · intro T H ⟨t85, h3, h4, _⟩
                            refine R_mv t85 ?_
                            exact R_nil ⟨rfl, h3, h4, trivial⟩
                · intro T H ⟨t6, h3, h4, _⟩
                  refine W_ret ?_
                  refine Ret_1 t6 (fz_bool ?_)
                  · simp

end Go.Proofs.Ytngkckefanbhgaa

namespace Go.Proofs.Ytngkckefanbhgaa
open Go Go.Proofs Go.Proofs.Ytngkckefanbhgaa Go.ChangeShapes Go.WideShapes Go.ChangeAt Go.RowKit

structure UT (P : Program) : Prop where
  u3 : P.underlying 3 = some (.int .i64)
  u22 : P.underlying 22 = some (.slice 35)
  u35 : P.underlying 35 = some (.slice 3)
  u24 : ∃ f0 f1 f2 f3 : Field, P.underlying 24 = some (.struct #[f0, f1, f2, f3]) ∧ f0.type = 3 ∧ f1.type = 3 ∧ f2.type = 22 ∧ f3.type = 22
  u26 : ∃ f0 f1 : Field, P.underlying 26 = some (.struct #[f0, f1]) ∧ f0.type = 24 ∧ f1.type = 22
  u32 : P.underlying 32 = some (.slice 63)
  u63 : ∃ f0 f1 : Field, P.underlying 63 = some (.struct #[f0, f1]) ∧ f0.type = 35 ∧ f1.type = 35
  u34 : ∃ f0 f1 : Field, P.underlying 34 = some (.struct #[f0, f1]) ∧ f0.type = 3 ∧ f1.type = 32
theorem sh3 {P : Program} (U : UT P) (n : Nat) (vs : List V) (h : Shp P (n + 1) 3 vs) : ∃ a : Int, vs = cI a := shp_int U.u3 h

theorem sh35 {P : Program} (U : UT P) (n : Nat) (vs : List V) (h : Shp P (n + 2) 35 vs) : ∃ a : List Int, vs = cL a := shp_slice (f := cI) U.u35 (fun vs h => sh3 U n vs h) h

theorem sh22 {P : Program} (U : UT P) (n : Nat) (vs : List V) (h : Shp P (n + 3) 22 vs) : ∃ a : List (List Int), vs = (fun l => [V.sl (List.map cL l)]) a := shp_slice (f := cL) U.u22 (fun vs h => sh35 U n vs h) h

theorem sh24 {P : Program} (U : UT P) (n : Nat) (vs : List V) (h : Shp P (n + 4) 24 vs) : ∃ a : M, vs = mC a := by
  obtain ⟨f0, f1, f2, f3, hu, k0, k1, k2, k3⟩ := U.u24
  have h0 := shp_step hu h
  obtain ⟨x0, u0, e0, h1⟩ := shpL_cons (c := cI) (fun vs h => sh3 U (n + 2) vs (by rw [k0] at h; exact h)) h0
  obtain ⟨x1, u1, e1, h2⟩ := shpL_cons (c := cI) (fun vs h => sh3 U (n + 2) vs (by rw [k1] at h; exact h)) h1
  obtain ⟨x2, u2, e2, h3⟩ := shpL_cons (c := (fun l => [V.sl (List.map cL l)])) (fun vs h => sh22 U (n + 0) vs (by rw [k2] at h; exact h)) h2
  obtain ⟨x3, u3, e3, h4⟩ := shpL_cons (c := (fun l => [V.sl (List.map cL l)])) (fun vs h => sh22 U (n + 0) vs (by rw [k3] at h; exact h)) h3
  have e4 := shpL_nil h4
  exact ⟨⟨x0, x1, x2, x3⟩, by rw [e0, e1, e2, e3, e4]; rfl⟩

theorem sh26 {P : Program} (U : UT P) (n : Nat) (vs : List V) (h : Shp P (n + 5) 26 vs) : ∃ a : Hy, vs = hC a := by
  obtain ⟨f0, f1, hu, k0, k1⟩ := U.u26
  have h0 := shp_step hu h
  obtain ⟨x0, u0, e0, h1⟩ := shpL_cons (c := mC) (fun vs h => sh24 U (n + 0) vs (by rw [k0] at h; exact h)) h0
  obtain ⟨x1, u1, e1, h2⟩ := shpL_cons (c := (fun l => [V.sl (List.map cL l)])) (fun vs h => sh22 U (n + 1) vs (by rw [k1] at h; exact h)) h1
  have e2 := shpL_nil h2
  exact ⟨⟨x0, x1⟩, by rw [e0, e1, e2]; rfl⟩

theorem sh63 {P : Program} (U : UT P) (n : Nat) (vs : List V) (h : Shp P (n + 3) 63 vs) : ∃ a : Tr, vs = cT a := by
  obtain ⟨f0, f1, hu, k0, k1⟩ := U.u63
  have h0 := shp_step hu h
  obtain ⟨x0, u0, e0, h1⟩ := shpL_cons (c := cL) (fun vs h => sh35 U (n + 0) vs (by rw [k0] at h; exact h)) h0
  obtain ⟨x1, u1, e1, h2⟩ := shpL_cons (c := cL) (fun vs h => sh35 U (n + 0) vs (by rw [k1] at h; exact h)) h1
  have e2 := shpL_nil h2
  exact ⟨⟨x0, x1⟩, by rw [e0, e1, e2]; rfl⟩

theorem sh32 {P : Program} (U : UT P) (n : Nat) (vs : List V) (h : Shp P (n + 4) 32 vs) : ∃ a : List Tr, vs = (fun l => [V.sl (List.map cT l)]) a := shp_slice (f := cT) U.u32 (fun vs h => sh63 U n vs h) h

theorem sh34 {P : Program} (U : UT P) (n : Nat) (vs : List V) (h : Shp P (n + 5) 34 vs) : ∃ a : Ob, vs = oC a := by
  obtain ⟨f0, f1, hu, k0, k1⟩ := U.u34
  have h0 := shp_step hu h
  obtain ⟨x0, u0, e0, h1⟩ := shpL_cons (c := cI) (fun vs h => sh3 U (n + 3) vs (by rw [k0] at h; exact h)) h0
  obtain ⟨x1, u1, e1, h2⟩ := shpL_cons (c := (fun l => [V.sl (List.map cT l)])) (fun vs h => sh32 U (n + 0) vs (by rw [k1] at h; exact h)) h1
  have e2 := shpL_nil h2
  exact ⟨⟨x0, x1⟩, by rw [e0, e1, e2]; rfl⟩

theorem ut : UT Try.prog := ⟨by kernel_rfl, by kernel_rfl, by kernel_rfl, ⟨_, _, _, _, Try.underlying24, rfl, rfl, rfl, rfl⟩, ⟨_, _, Try.underlying26, rfl, rfl⟩, by kernel_rfl, ⟨_, _, Try.underlying63, rfl, rfl⟩, ⟨_, _, Try.underlying34, rfl, rfl⟩⟩
theorem args4 {P : Program} (U : UT P) {us : List V} (h : ShpA P 6 [26, 34, 35] us) : ∃ (d0 : Hy) (d1 : Ob) (d2 : List Int), us = [V.agg (hC d0), V.agg (oC d1), V.sl (List.map cI d2)] := by
  obtain ⟨a0, b0, e0, h0, h⟩ := shpA_cons h
  obtain ⟨d0, g0⟩ := sh26 U 1 a0 h0
  have q0 : packV P 26 a0 = V.agg (hC d0) := by obtain ⟨_, _, hu, _⟩ := U.u26; rw [g0]; exact pack_struct hu _
  obtain ⟨a1, b1, e1, h1, h⟩ := shpA_cons h
  obtain ⟨d1, g1⟩ := sh34 U 1 a1 h1
  have q1 : packV P 34 a1 = V.agg (oC d1) := by obtain ⟨_, _, hu, _⟩ := U.u34; rw [g1]; exact pack_struct hu _
  obtain ⟨a2, b2, e2, h2, h⟩ := shpA_cons h
  obtain ⟨d2, g2⟩ := sh35 U 4 a2 h2
  have q2 : packV P 35 a2 = V.sl (List.map cI d2) := by rw [g2]; exact pack_other (fun fs h => by rw [U.u35] at h; cases h)
  have e3 := shpA_nil h
  exact ⟨d0, d1, d2, by rw [e0, q0, e1, q1, e2, q2, e3]⟩
theorem own4 : ownKnob Try.prog.godebug = none := by kernel_rfl

set_option maxRecDepth 100000 in
theorem lifted4 (os : Os) (started : os.Started) (H : Type) (enc : TypeId × Value → H) :
    ReturnsInHanded {} Try.checked os 4 .any (Rows.hypothesisRefutedSpec.pre6 enc Try.prog Try.f4 Rows.hypothesisRefutedRow.domain false) (Rows.hypothesisRefutedSpec.post enc Try.prog Try.f4 false true false false) := by
  refine returnsInHanded_of_change (C := Try.checked) own4 started (by kernel_rfl) Try.func4
    (ChangeSpec.witness6 (enc := enc) (C := Try.checked) false ⟨#[], #[.agg #[.int .i64 0, .int .i64 0, .slice none 0 0, .slice none 0 0, .slice none 0 0], .agg #[.int .i64 0, .slice none 0 0], .slice none 0 0], []⟩ 8 (by kernel_rfl) (by kernel_rfl) (by kernel_rfl) (by kernel_rfl)) ?_
  intro W base args ds gs before hval0 hW hcnd _
  refine law_post (n := 6) (tb := 4) (by kernel_rfl) (by kernel_rfl) (by kernel_rfl) (fun t ht => ?_) rfl ?_ (fun us hu => ?_) hval0 hW
  · have h : t ∈ [26, 34, 35] := ht
    simp only [List.mem_cons, List.not_mem_nil, or_false] at h
    rcases h with rfl | rfl | rfl
    · exact ⟨by kernel_rfl, by kernel_rfl, of_decide_eq_true (by kernel_rfl)⟩
    · exact ⟨by kernel_rfl, by kernel_rfl, of_decide_eq_true (by kernel_rfl)⟩
    · exact ⟨by kernel_rfl, by kernel_rfl, of_decide_eq_true (by kernel_rfl)⟩
  · obtain ⟨p, q, hA, hV, rfl, hfz, hnd⟩ := hW
    obtain ⟨rfl, rfl⟩ := trodVars_none hV
    change DataW.TrodAll enc Try.prog W 0 (fun _ => true) true [26, 34, 35] args.toList ds p at hA
    obtain ⟨v0, vs0, y0, ds0, pa0, pb0, hv0, rfl, rfl, _, hA⟩ := trodAll_cons hA
    obtain ⟨v1, vs1, y1, ds1, pa1, pb1, hv1, rfl, rfl, _, hA⟩ := trodAll_cons hA
    obtain ⟨v2, vs2, y2, ds2, pa2, pb2, hv2, rfl, rfl, _, hA⟩ := trodAll_cons hA
    obtain ⟨_, rfl, rfl⟩ := trodAll_nil hA
    rfl
  · obtain ⟨d0, d1, d2, rfl⟩ := args4 ut hu
    exact law4_pure d0 d1 d2

theorem proved4 : Rows.HypothesisRefutedSaid :=
  OpenClaim.holds_of_wide 4 Try.f4 rfl rfl rfl rfl rfl rfl rfl ⟨rfl, rfl, rfl, rfl, rfl⟩ rfl rfl rfl rfl rfl (by kernel_rfl) Try.func4 (by kernel_rfl)
    (of_decide_eq_true (by kernel_rfl)) (by unfold Func.isWrapper; first | (rw [if_pos (by decide +kernel)]; kernel_rfl) | (rw [if_neg (by decide +kernel)]; exact ⟨rfl, rfl⟩))
    (fun os started H enc _ => lifted4 os started H enc)
end Go.Proofs.Ytngkckefanbhgaa

