/- Contracts of the functions that the law DK reaches, and the law itself, for every input; no condition. -/
import Derived.KernelRfl
import Derived.Test.YtmnjchcoigbngaaProg
import Derived.Test.YtmnjchcoigbngaaRows
import Derived.Test.YtmnjchcoigbngaaDK2
set_option linter.unusedSimpArgs false
set_option linter.unusedVariables false
namespace Go.Proofs.Ytmnjchcoigbngaa
open Go Go.Proofs
theorem dsplit_pure (t : Dt) (n : Int) (sf outs w other : List Int) (hb : Bd t) (hsf : sf.length ≤ 1048576) (ho : outs.length ≤ 1048576) (hw : w.length ≤ 1048576) (hot : other.length ≤ 1048576) : PureC Try.prog 8 [(V.agg [(V.sl (List.map cN (t.nd)))]), (iV (n)), (ints sf), (ints outs), (ints w), (ints other)] (V.tup [(V.agg [(V.sl (List.map cN ((spT t n sf outs w other).nd)))]), (iV (spE t n sf outs w other))]) := by
 refine pW Try.func8 s8_ok fun hB => ?_
 unfold s8
 dsimp only
 have hbn := hb.n
 refine W_r (R_box (i := 6) (n := 0) (m := 1) (cs := [(V.sl (List.map cN (t.nd)))]) rfl (congrArg Blk.ver rfl) rfl rfl rfl (R_alloc (i := 12) (n := 0) (m := 1) rfl (congrArg Blk.ver rfl) rfl (R_mv (@rfl V (iV (0 : Int))) (R_e (W_seq_seq (W_r (R_load_mp (v := (V.agg [(V.sl (List.map cN (t.nd)))])) rfl rfl (lB oB rfl rfl) ?_)))))))
 refine R_callc (evcons rfl evnil) (dvalid_pure t hb) (R_mv (@rfl V (iV (dvE t))) (R_e (W_seq_seq (W_r (R_mv (@rfl V (iV (dvE t))) (R_neq rfl rfl (R_e ?_)))))))
 refine W_seq_if rfl (fun c1 => ?_) fun c1 => ?_
 ·
  refine W_seq_seq (W_r (R_load_mp (v := (V.agg [(V.sl (List.map cN (t.nd)))])) rfl rfl (lB oB rfl rfl) (R_mv (@rfl V (iV (dvE t))) (R_store (vs := [(V.sl (List.map cN (t.nd)))]) (B' := (bk 1 24 1 [[(V.sl (List.map cN (t.nd)))]])) rfl rfl rfl rfl (sB oB rfl rfl rfl rfl rfl) (R_mv (@rfl V (iV (dvE t))) (R_e (W_seq_ret ?_)))))))
  refine RetC_2 (resV_c (u := (V.agg [(V.sl (List.map cN (t.nd)))])) rfl (@rfl Blk (bk 1 24 1 [[(V.sl (List.map cN (t.nd)))]])) (lB oB rfl rfl)) (resV_t (@rfl V (iV (dvE t)))) (fz_agg1 (fz_sl ?_ (fun _ => by simp))) (fz_int ?_)
  · rw [spT_no (by unfold spE; rw [if_pos (by omega)]; omega)]
  · unfold spE; rw [if_pos (by omega)]
 refine W_seq_skip (W_seq_seq (W_r (R_load_mp (v := (V.agg [(V.sl (List.map cN (t.nd)))])) rfl rfl (lB oB rfl rfl) (R_mv (@rfl V (iV (n))) (R_mv (@rfl V (ints sf)) (R_mv (@rfl V (ints outs)) (R_mv (@rfl V (ints w)) ?_)))))))
 refine R_mv (@rfl V (ints other)) (R_callc (evcons rfl (evcons rfl (evcons rfl (evcons rfl (evcons rfl (evcons rfl evnil)))))) (dsplits_pure t ((n)) sf outs w other hb) (R_mv (@rfl V (iV (spsE t ((n)) sf outs w other))) (R_e (W_seq_seq (W_r (R_mv (@rfl V (iV (spsE t ((n)) sf outs w other))) (R_neq rfl rfl ?_)))))))
 refine R_e ?_
 refine W_seq_if rfl (fun c2 => ?_) fun c2 => ?_
 ·
  refine W_seq_seq (W_r (R_load_mp (v := (V.agg [(V.sl (List.map cN (t.nd)))])) rfl rfl (lB oB rfl rfl) (R_mv (@rfl V (iV (spsE t ((n)) sf outs w other))) (R_store (vs := [(V.sl (List.map cN (t.nd)))]) (B' := (bk 1 24 1 [[(V.sl (List.map cN (t.nd)))]])) rfl rfl rfl rfl (sB oB rfl rfl rfl rfl rfl) (R_mv (@rfl V (iV (spsE t ((n)) sf outs w other))) (R_e (W_seq_ret ?_)))))))
  refine RetC_2 (resV_c (u := (V.agg [(V.sl (List.map cN (t.nd)))])) rfl (@rfl Blk (bk 1 24 1 [[(V.sl (List.map cN (t.nd)))]])) (lB oB rfl rfl)) (resV_t (@rfl V (iV (spsE t ((n)) sf outs w other)))) (fz_agg1 (fz_sl ?_ (fun _ => by simp))) (fz_int ?_)
  · rw [spT_no (by unfold spE; rw [if_neg (by omega)]; omega)]
  · unfold spE; rw [if_neg (by omega)]
 have hE : spE t n sf outs w other = 0 := by unfold spE; rw [if_neg (by omega)]; omega
 obtain ⟨y1, y2, y3, y4, y5, y6, y7, y8, y9⟩ := sp_ok hE
 obtain ⟨n0, n1, n2⟩ := no_ok y2
 have nb : n.toNat < t.nd.length := by omega
 refine W_seq_skip (W_r (R_load_mp (v := (V.agg [(V.sl (List.map cN (t.nd)))])) rfl rfl (lB oB rfl rfl) (R_callE (evcons rfl evnil) (copied_E t 0 0 0 0 0 0 _ hb (congrArg Blk.ver rfl) (congrArg Blk.ver rfl) (congrArg Blk.ver rfl) (congrArg Blk.ver rfl) (congrArg Blk.ver rfl) ⟨congrArg Blk.ver rfl, congrArg Blk.live rfl⟩) (R_alloc (i := 16) (n := 0) (m := 1) rfl (congrArg Blk.ver rfl) rfl (R_store (vs := [(V.ms 212 1 0 (t.nd.length))]) (B' := (bk 1 24 1 [[(V.ms 212 1 0 (t.nd.length))]])) rfl rfl rfl rfl (sB oB rfl rfl rfl rfl rfl) (R_e (W_r ?_)))))))
 refine R_fld_mp (o' := 0) rfl rfl oB rfl (R_load_mp (v := (V.ms 212 1 0 (t.nd.length))) rfl rfl (lB oB rfl rfl) (R_mv (@rfl V (iV (n))) (R_idxI_ms0 (i := (n)) (@rfl V (V.ms 212 1 0 (t.nd.length))) (@rfl V (iV (n))) (@rfl Blk (bk 1 41 5 (List.map cN (t.nd)))) oB rfl (by first | omega | (simp; omega)) (by first | omega | (simp; omega)) (R_load_mp (v := (V.agg (cN (((nth (t.nd) (((n)).toNat))))))) rfl (@rfl Blk (bk 1 41 5 (List.map cN (t.nd)))) (ldB_map (by first | omega | (simp; omega)) (by first | rfl | simp [ldV, V.one])) (R_alloc (i := 17) (n := 0) (m := 5) rfl (congrArg Blk.ver rfl) rfl (R_store (vs := [(V.bool (((nth (t.nd) (((n)).toNat))).lf)), (ints (((nth (t.nd) (((n)).toNat))).ac)), (ints (((nth (t.nd) (((n)).toNat))).sf)), (intss (((nth (t.nd) (((n)).toNat))).ou)), (ints (((nth (t.nd) (((n)).toNat))).kd))]) (B' := (bk 1 41 5 [(cN (((nth (t.nd) (((n)).toNat)))))])) rfl rfl rfl rfl (sB oB rfl rfl rfl rfl rfl) (R_e ?_)))))))
 refine W_seq_dregc (fun T H => T 1 = (iV (n)) ∧ T 3 = (ints outs) ∧ T 4 = (ints w) ∧ T 5 = (ints other) ∧ T 12 = (V.mp 12 1 0 0) ∧ T 16 = (V.mp 16 1 0 0) ∧ T 17 = (V.mp 17 1 0 0) ∧ T 18 = (V.mp 18 1 0 0) ∧ H 6 = (bk 1 24 1 [[(V.sl (List.map cN (t.nd)))]]) ∧ H 12 = (bk 1 24 1 [[V.nilsl]]) ∧ H 16 = (bk 1 24 1 [[(V.ms 212 1 0 (t.nd.length))]]) ∧ H 17 = (bk 1 41 5 [(cN (((nth (t.nd) (((n)).toNat)))))]) ∧ H 18 = (bk 1 41 5 [[(V.bool false), V.nilsl, (ints (cat ([sf]))), (V.ms 52 1 0 (2)), (V.ms 60 1 0 (2))]]) ∧ H 52 = (bk 1 25 1 [[(ints (cat ([outs])))], [(ints (cat ([other])))]]) ∧ H 60 = (bk 1 3 1 [[(iV ((t.nd.length : Nat) : Int))], [(iV ((t.nd.length + 1 : Nat) : Int))]]) ∧ H 201 = (⟨1, false, false, 0, 0, []⟩ : Blk) ∧ H 202 = (⟨1, false, false, 0, 0, []⟩ : Blk) ∧ H 205 = (⟨0 + t.nd.length, false, false, 0, 0, []⟩ : Blk) ∧ H 212 = (bk 1 41 5 (List.map cN (t.nd))) ∧ H 228 = (⟨0 + t.nd.length * 1048578, false, false, 0, 0, []⟩ : Blk) ∧ H 258 = (⟨0 + 3 * t.nd.length, false, false, 0, 0, []⟩ : Blk) ∧ True) (by exact (lateC rfl (lateC rfl (lateC rfl lateN)))) ?_ ?_
 ·
  refine R_mv (@rfl V (ints sf)) (R_bslice (qs := [(0, (ints sf))]) (rows := [[(ints sf)]]) (mcons (congrArg (fun v => (0, v)) rfl) rfl) rfl (R_callc (evcons rfl evnil) (pjoin_pure ([sf]) (by simp only [cat, List.append_nil]; omega)) (R_mv (@rfl V (ints outs)) (R_bslice (qs := [(0, (ints outs))]) (rows := [[(ints outs)]]) (mcons (congrArg (fun v => (0, v)) rfl) rfl) rfl (R_callc (evcons rfl evnil) (pjoin_pure ([outs]) (by simp only [cat, List.append_nil]; omega)) (R_mv (@rfl V (ints other)) (R_bslice (qs := [(0, (ints other))]) (rows := [[(ints other)]]) (mcons (congrArg (fun v => (0, v)) rfl) rfl) rfl ?_)))))))
  refine R_callc (evcons rfl evnil) (pjoin_pure ([other]) (by simp only [cat, List.append_nil]; omega)) (R_fld_mp (o' := 0) rfl rfl oB rfl (R_load_mp (v := (V.sl (List.map cN (t.nd)))) rfl rfl (lB oB rfl rfl) (R_len rfl (R_fld_mp (o' := 0) rfl rfl oB rfl (R_load_mp (v := (V.sl (List.map cN (t.nd)))) rfl rfl (lB oB rfl rfl) (R_len rfl (R_addN rfl (@rfl V (iV ((1 : Nat) : Int))) (by first | omega | (simp; omega)) ?_)))))))
  refine R_bslice_own (i := 52) (n := 0) (qs := [(0, (ints (cat ([outs])))), (1, (ints (cat ([other]))))]) (rows := [[(ints (cat ([outs])))], [(ints (cat ([other])))]]) rfl (congrArg Blk.ver rfl) (mcons (congrArg (fun v => (0, v)) rfl) (mcons (congrArg (fun v => (1, v)) rfl) rfl)) rfl (R_bslice_own (i := 60) (n := 0) (qs := [(0, (iV ((t.nd.length : Nat) : Int))), (1, (iV ((t.nd.length + 1 : Nat) : Int)))]) (rows := [[(iV ((t.nd.length : Nat) : Int))], [(iV ((t.nd.length + 1 : Nat) : Int))]]) rfl (congrArg Blk.ver rfl) (mcons (congrArg (fun v => (0, v)) rfl) (mcons (congrArg (fun v => (1, v)) rfl) rfl)) rfl (R_build (qs := [(2, 1, (ints (cat ([sf])))), (3, 1, (V.ms 52 1 0 (2))), (4, 1, (V.ms 60 1 0 (2)))]) (cs := [(V.bool false), V.nilsl, (ints (cat ([sf]))), (V.ms 52 1 0 (2)), (V.ms 60 1 0 (2))]) (mcons (congrArg (fun v => (2, 1, v)) rfl) (mcons (congrArg (fun v => (3, 1, v)) rfl) (mcons (congrArg (fun v => (4, 1, v)) rfl) rfl))) rfl (R_alloc (i := 18) (n := 0) (m := 5) rfl (congrArg Blk.ver rfl) rfl (R_store (vs := [(V.bool false), V.nilsl, (ints (cat ([sf]))), (V.ms 52 1 0 (2)), (V.ms 60 1 0 (2))]) (B' := (bk 1 41 5 [[(V.bool false), V.nilsl, (ints (cat ([sf]))), (V.ms 52 1 0 (2)), (V.ms 60 1 0 (2))]])) rfl rfl rfl rfl (sB oB rfl rfl rfl rfl rfl) ?_))))
  exact R_nil ⟨rfl, rfl, rfl, rfl, rfl, rfl, rfl, rfl, rfl, rfl, rfl, rfl, rfl, rfl, rfl, rfl, rfl, rfl, rfl, rfl, rfl, trivial⟩
 intro T H ⟨t1, t3, t4, t5, t12, t16, t17, t18, h6, h12, h16, h17, h18, h52, h60, h201, h202, h205, h212, h228, h258, _⟩
 refine W_seq_seq (W_r (R_mv t3 (R_mv t5 (R_callc (evcons rfl (evcons rfl evnil)) (lex_pure outs other) (R_gtr rfl rfl (R_e ?_))))))
 refine W_seq_if rfl (fun c3 => ?_) fun c3 => ?_
 ·
  have d7 := c3
  refine W_seq_seq (W_r (R_fld_mp (o' := 3) t18 h18 oB rfl (R_load_mp (v := (V.ms 52 1 0 (2))) rfl h18 (lB oB rfl rfl) (R_callE (evcons rfl evnil) (revcL52_E ([cat ([outs]), cat ([other])]) 1 false _ (show _ = (bk 1 25 1 (List.map cL ([cat ([outs]), cat ([other])]))) from h52) (by first | omega | (simp; omega) | simp)) (R_e (W_r (R_fld_mp (o' := 4) t18 h18 oB rfl ?_)))))))
  refine R_load_mp (v := (V.ms 60 1 0 (2))) rfl h18 (lB oB rfl rfl) (R_callE (evcons rfl evnil) (revcI60_E ([((t.nd.length : Nat) : Int), ((t.nd.length + 1 : Nat) : Int)]) 1 false _ (show _ = (bk 1 3 1 (List.map cI ([((t.nd.length : Nat) : Int), ((t.nd.length + 1 : Nat) : Int)]))) from h60) (by first | omega | (simp; omega) | simp)) (R_e ?_))
  refine W_seq_g (fun T H => T 4 = (ints w) ∧ T 12 = (V.mp 12 1 0 0) ∧ T 16 = (V.mp 16 1 0 0) ∧ T 17 = (V.mp 17 1 0 0) ∧ H 6 = (bk 1 24 1 [[(V.sl (List.map cN (t.nd)))]]) ∧ H 12 = (bk 1 24 1 [[V.nilsl]]) ∧ H 16 = (bk 1 24 1 [[(V.ms 212 1 0 (t.nd.length))]]) ∧ H 17 = (bk 1 41 5 [(cN (((nth (t.nd) (((n)).toNat)))))]) ∧ H 18 = (bk 1 41 5 [[(V.bool false), V.nilsl, (ints (cat ([sf]))), (V.ms 52 1 0 (2)), (V.ms 60 1 0 (2))]]) ∧ H 52 = (bk 1 25 1 (List.map cL (([cat ([outs]), cat ([other])]).reverse))) ∧ H 60 = (bk 1 3 1 (List.map cI (([((t.nd.length : Nat) : Int), ((t.nd.length + 1 : Nat) : Int)]).reverse))) ∧ H 201 = (⟨1, false, false, 0, 0, []⟩ : Blk) ∧ H 202 = (⟨1, false, false, 0, 0, []⟩ : Blk) ∧ H 205 = (⟨0 + t.nd.length, false, false, 0, 0, []⟩ : Blk) ∧ H 212 = (bk 1 41 5 ((List.map cN (t.nd)).set (((n)).toNat) [(V.bool false), V.nilsl, (ints (cat ([sf]))), (V.ms 52 1 0 (2)), (V.ms 60 1 0 (2))])) ∧ H 228 = (⟨0 + t.nd.length * 1048578, false, false, 0, 0, []⟩ : Blk) ∧ H 258 = (⟨0 + 3 * t.nd.length, false, false, 0, 0, []⟩ : Blk) ∧ True) ?_ ?_
  ·
   refine R_fld_mp (o' := 0) t16 h16 oB rfl (R_load_mp (v := (V.ms 212 1 0 (t.nd.length))) rfl h16 (lB oB rfl rfl) (R_mv t1 (R_load_mp (v := (V.agg [(V.bool false), V.nilsl, (ints (cat ([sf]))), (V.ms 52 1 0 (2)), (V.ms 60 1 0 (2))])) t18 h18 (lB oB rfl rfl) (R_idxI_ms0 (i := (n)) (@rfl V (V.ms 212 1 0 (t.nd.length))) (@rfl V (iV (n))) h212 oB rfl (by first | omega | (simp; omega)) (by first | omega | (simp; omega)) (R_store (vs := [(V.bool false), V.nilsl, (ints (cat ([sf]))), (V.ms 52 1 0 (2)), (V.ms 60 1 0 (2))]) (B' := (bk 1 41 5 ((List.map cN (t.nd)).set (((n)).toNat) [(V.bool false), V.nilsl, (ints (cat ([sf]))), (V.ms 52 1 0 (2)), (V.ms 60 1 0 (2))]))) rfl rfl rfl h212 (stB_setc (i := (((n)).toNat)) (by first | omega | (simp; omega)) rfl rfl rfl) ?_)))))
   exact R_nil ⟨t4, t12, t16, t17, h6, h12, h16, h17, h18, rfl, rfl, h201, h202, h205, rfl, h228, h258, trivial⟩
  intro T H ⟨t4, t12, t16, t17, h6, h12, h16, h17, h18, h52, h60, h201, h202, h205, h212, h228, h258, _⟩
  refine nzs_map (rows := List.map cN (t.nd)) (i := (((n)).toNat)) (r' := [(V.bool false), (ints ([])), (ints (cat ([sf]))), (V.ms 52 1 0 (2)), (V.ms 60 1 0 (2))]) h212 (by first | omega | (simp; omega)) rfl (fork_ (R := fun T H => T 4 = (ints w) ∧ T 12 = (V.mp 12 1 0 0) ∧ T 16 = (V.mp 16 1 0 0) ∧ T 17 = (V.mp 17 1 0 0) ∧ H 6 = (bk 1 24 1 [[(V.sl (List.map cN (t.nd)))]]) ∧ H 12 = (bk 1 24 1 [[V.nilsl]]) ∧ H 16 = (bk 1 24 1 [[(V.ms 212 1 0 (t.nd.length))]]) ∧ H 17 = (bk 1 41 5 [(cN (((nth (t.nd) (((n)).toNat)))))]) ∧ H 18 = (bk 1 41 5 [[(V.bool false), V.nilsl, (ints (cat ([sf]))), (V.ms 52 1 0 (2)), (V.ms 60 1 0 (2))]]) ∧ H 52 = (bk 1 25 1 (List.map cL (([cat ([outs]), cat ([other])]).reverse))) ∧ H 60 = (bk 1 3 1 (List.map cI (([((t.nd.length : Nat) : Int), ((t.nd.length + 1 : Nat) : Int)]).reverse))) ∧ H 201 = (⟨1, false, false, 0, 0, []⟩ : Blk) ∧ H 202 = (⟨1, false, false, 0, 0, []⟩ : Blk) ∧ H 205 = (⟨0 + t.nd.length, false, false, 0, 0, []⟩ : Blk) ∧ H 212 = (bk 1 41 5 ((List.map cN (t.nd)).set (((n)).toNat) [(V.bool false), (ints ([])), (ints (cat ([sf]))), (V.ms 52 1 0 (2)), (V.ms 60 1 0 (2))])) ∧ H 228 = (⟨0 + t.nd.length * 1048578, false, false, 0, 0, []⟩ : Blk) ∧ H 258 = (⟨0 + 3 * t.nd.length, false, false, 0, 0, []⟩ : Blk) ∧ True) ⟨t4, t12, t16, t17, ((upd_ne _ _ (by decide)).trans h6), ((upd_ne _ _ (by decide)).trans h12), ((upd_ne _ _ (by decide)).trans h16), ((upd_ne _ _ (by decide)).trans h17), ((upd_ne _ _ (by decide)).trans h18), ((upd_ne _ _ (by decide)).trans h52), ((upd_ne _ _ (by decide)).trans h60), ((upd_ne _ _ (by decide)).trans h201), ((upd_ne _ _ (by decide)).trans h202), ((upd_ne _ _ (by decide)).trans h205), (upd_same _ _ _), ((upd_ne _ _ (by decide)).trans h228), ((upd_ne _ _ (by decide)).trans h258), trivial⟩ ?_)
  intro T H ⟨t4, t12, t16, t17, h6, h12, h16, h17, h18, h52, h60, h201, h202, h205, h212, h228, h258, _⟩
  refine frz_cellg (id := 52) (id2 := 212) (rows := (List.map cN (t.nd))) (i := (((n)).toNat)) (off := 3) (r := [(V.bool false), (ints ([])), (ints (cat ([sf]))), (V.ms 52 1 0 (2)), (V.ms 60 1 0 (2))]) (m := (([cat ([outs]), cat ([other])]).reverse)) (g := cL) (by decide) h52 h212 (by first | omega | (simp; omega)) (by first | rfl | simp | omega) rfl (fork_ (R := fun T H => T 4 = (ints w) ∧ T 12 = (V.mp 12 1 0 0) ∧ T 16 = (V.mp 16 1 0 0) ∧ T 17 = (V.mp 17 1 0 0) ∧ H 6 = (bk 1 24 1 [[(V.sl (List.map cN (t.nd)))]]) ∧ H 12 = (bk 1 24 1 [[V.nilsl]]) ∧ H 16 = (bk 1 24 1 [[(V.ms 212 1 0 (t.nd.length))]]) ∧ H 17 = (bk 1 41 5 [(cN (((nth (t.nd) (((n)).toNat)))))]) ∧ H 18 = (bk 1 41 5 [[(V.bool false), V.nilsl, (ints (cat ([sf]))), (V.ms 52 1 0 (2)), (V.ms 60 1 0 (2))]]) ∧ ((H 52).ver = 1 ∧ (H 52).live = false) ∧ H 60 = (bk 1 3 1 (List.map cI (([((t.nd.length : Nat) : Int), ((t.nd.length + 1 : Nat) : Int)]).reverse))) ∧ H 201 = (⟨1, false, false, 0, 0, []⟩ : Blk) ∧ H 202 = (⟨1, false, false, 0, 0, []⟩ : Blk) ∧ H 205 = (⟨0 + t.nd.length, false, false, 0, 0, []⟩ : Blk) ∧ H 212 = (bk 1 41 5 ((List.map cN (t.nd)).set (((n)).toNat) [(V.bool false), (ints ([])), (ints (cat ([sf]))), (intss (([cat ([outs]), cat ([other])]).reverse)), (V.ms 60 1 0 (2))])) ∧ H 228 = (⟨0 + t.nd.length * 1048578, false, false, 0, 0, []⟩ : Blk) ∧ H 258 = (⟨0 + 3 * t.nd.length, false, false, 0, 0, []⟩ : Blk) ∧ True) ⟨(fzT_q t4 rfl), (fzT_q t12 rfl), (fzT_q t16 rfl), (fzT_q t17 rfl), ((upd_ne _ _ (by decide)).trans (kill_ne h6 (by decide))), ((upd_ne _ _ (by decide)).trans (kill_ne h12 (by decide))), ((upd_ne _ _ (by decide)).trans (kill_ne h16 (by decide))), ((upd_ne _ _ (by decide)).trans (kill_ne h17 (by decide))), ((upd_ne _ _ (by decide)).trans (kill_ne h18 (by decide))), ⟨(congrArg Blk.ver (upd_ne _ _ (by decide))).trans (kill_self (congrArg Blk.ver h52)).1, (congrArg Blk.live (upd_ne _ _ (by decide))).trans (kill_self (congrArg Blk.ver h52)).2⟩, ((upd_ne _ _ (by decide)).trans (kill_ne h60 (by decide))), ((upd_ne _ _ (by decide)).trans (kill_ne h201 (by decide))), ((upd_ne _ _ (by decide)).trans (kill_ne h202 (by decide))), ((upd_ne _ _ (by decide)).trans (kill_ne h205 (by decide))), (upd_same _ _ _), ((upd_ne _ _ (by decide)).trans (kill_ne h228 (by decide))), ((upd_ne _ _ (by decide)).trans (kill_ne h258 (by decide))), trivial⟩ ?_)
  intro T H ⟨t4, t12, t16, t17, h6, h12, h16, h17, h18, h52, h60, h201, h202, h205, h212, h228, h258, _⟩
  refine frz_cellg (id := 60) (id2 := 212) (rows := (List.map cN (t.nd))) (i := (((n)).toNat)) (off := 4) (r := [(V.bool false), (ints ([])), (ints (cat ([sf]))), (intss (([cat ([outs]), cat ([other])]).reverse)), (V.ms 60 1 0 (2))]) (m := (([((t.nd.length : Nat) : Int), ((t.nd.length + 1 : Nat) : Int)]).reverse)) (g := cI) (by decide) h60 h212 (by first | omega | (simp; omega)) (by first | rfl | simp | omega) rfl (.done ?_)
  refine fork_ (R := fun T H => T 4 = (ints w) ∧ T 12 = (V.mp 12 1 0 0) ∧ T 16 = (V.mp 16 1 0 0) ∧ T 17 = (V.mp 17 1 0 0) ∧ H 6 = (bk 1 24 1 [[(V.sl (List.map cN (t.nd)))]]) ∧ H 12 = (bk 1 24 1 [[V.nilsl]]) ∧ H 16 = (bk 1 24 1 [[(V.ms 212 1 0 (t.nd.length))]]) ∧ H 17 = (bk 1 41 5 [(cN (((nth (t.nd) (((n)).toNat)))))]) ∧ H 18 = (bk 1 41 5 [[(V.bool false), V.nilsl, (ints (cat ([sf]))), (V.ms 52 1 0 (2)), (V.ms 60 1 0 (2))]]) ∧ ((H 52).ver = 1 ∧ (H 52).live = false) ∧ ((H 60).ver = 1 ∧ (H 60).live = false) ∧ H 201 = (⟨1, false, false, 0, 0, []⟩ : Blk) ∧ H 202 = (⟨1, false, false, 0, 0, []⟩ : Blk) ∧ H 205 = (⟨0 + t.nd.length, false, false, 0, 0, []⟩ : Blk) ∧ H 212 = (bk 1 41 5 (List.map cN ((t.nd).set (((n)).toNat) ((⟨false, [], cat ([sf]), ([cat ([outs]), cat ([other])]).reverse, ([((t.nd.length : Nat) : Int), ((t.nd.length + 1 : Nat) : Int)]).reverse⟩ : Nd))))) ∧ H 228 = (⟨0 + t.nd.length * 1048578, false, false, 0, 0, []⟩ : Blk) ∧ H 258 = (⟨0 + 3 * t.nd.length, false, false, 0, 0, []⟩ : Blk) ∧ True) ⟨(fzT_q t4 rfl), (fzT_q t12 rfl), (fzT_q t16 rfl), (fzT_q t17 rfl), ((upd_ne _ _ (by decide)).trans (kill_ne h6 (by decide))), ((upd_ne _ _ (by decide)).trans (kill_ne h12 (by decide))), ((upd_ne _ _ (by decide)).trans (kill_ne h16 (by decide))), ((upd_ne _ _ (by decide)).trans (kill_ne h17 (by decide))), ((upd_ne _ _ (by decide)).trans (kill_ne h18 (by decide))), ⟨(congrArg Blk.ver (upd_ne _ _ (by decide))).trans (kill_dead h52).1, (congrArg Blk.live (upd_ne _ _ (by decide))).trans (kill_dead h52).2⟩, ⟨(congrArg Blk.ver (upd_ne _ _ (by decide))).trans (kill_self (congrArg Blk.ver h60)).1, (congrArg Blk.live (upd_ne _ _ (by decide))).trans (kill_self (congrArg Blk.ver h60)).2⟩, ((upd_ne _ _ (by decide)).trans (kill_ne h201 (by decide))), ((upd_ne _ _ (by decide)).trans (kill_ne h202 (by decide))), ((upd_ne _ _ (by decide)).trans (kill_ne h205 (by decide))), (Eq.trans (upd_same _ _ _) (by first | (rw [List.map_set]; done) | (rw [List.map_set]; rfl))), ((upd_ne _ _ (by decide)).trans (kill_ne h228 (by decide))), ((upd_ne _ _ (by decide)).trans (kill_ne h258 (by decide))), trivial⟩ ?_
  intro T H ⟨t4, t12, t16, t17, h6, h12, h16, h17, h18, h52, h60, h201, h202, h205, h212, h228, h258, _⟩
  refine W_seq_g (fun T H => T 12 = (V.mp 12 1 0 0) ∧ T 16 = (V.mp 16 1 0 0) ∧ H 6 = (bk 1 24 1 [[(V.sl (List.map cN (t.nd)))]]) ∧ H 12 = (bk 1 24 1 [[V.nilsl]]) ∧ H 16 = (bk 1 24 1 [[(V.ms 212 2 0 (t.nd.length + 2))]]) ∧ H 17 = (bk 1 41 5 [(cN (((nth (t.nd) (((n)).toNat)))))]) ∧ H 18 = (bk 1 41 5 [[(V.bool false), V.nilsl, (ints (cat ([sf]))), (V.ms 52 1 0 (2)), (V.ms 60 1 0 (2))]]) ∧ ((H 52).ver = 1 ∧ (H 52).live = false) ∧ ((H 60).ver = 1 ∧ (H 60).live = false) ∧ H 201 = (⟨1, false, false, 0, 0, []⟩ : Blk) ∧ H 202 = (⟨1, false, false, 0, 0, []⟩ : Blk) ∧ H 205 = (⟨0 + t.nd.length, false, false, 0, 0, []⟩ : Blk) ∧ H 212 = (bk 2 41 5 (List.map cN ((t.nd).set (((n)).toNat) ((⟨false, [], cat ([sf]), ([cat ([outs]), cat ([other])]).reverse, ([((t.nd.length : Nat) : Int), ((t.nd.length + 1 : Nat) : Int)]).reverse⟩ : Nd))) ++ [(cN (((nth (t.nd) (((n)).toNat))))), [(V.bool true), (ints (cat ([w]))), V.nilsl, V.nilsl, V.nilsl]])) ∧ H 228 = (⟨0 + t.nd.length * 1048578, false, false, 0, 0, []⟩ : Blk) ∧ H 258 = (⟨0 + 3 * t.nd.length, false, false, 0, 0, []⟩ : Blk) ∧ True) ?_ ?_
  ·
   refine R_fld_mp (o' := 0) t16 h16 oB rfl (R_load_mp (v := (V.ms 212 1 0 (t.nd.length))) rfl h16 (lB oB rfl rfl) (R_load_mp (v := (V.agg (cN (((nth (t.nd) (((n)).toNat))))))) t17 h17 (lB oB rfl rfl) (R_mv t4 (R_bslice (qs := [(0, (ints w))]) (rows := [[(ints w)]]) (mcons (congrArg (fun v => (0, v)) rfl) rfl) rfl (R_callc (evcons rfl evnil) (pjoin_pure ([w]) (by simp only [cat, List.append_nil]; omega)) (R_build (qs := [(0, 1, (V.bool true)), (1, 1, (ints (cat ([w]))))]) (cs := [(V.bool true), (ints (cat ([w]))), V.nilsl, V.nilsl, V.nilsl]) (mcons (congrArg (fun v => (0, 1, v)) rfl) (mcons (congrArg (fun v => (1, 1, v)) rfl) rfl)) rfl (R_bslice (qs := [(0, (V.agg (cN (((nth (t.nd) (((n)).toNat))))))), (1, (V.agg [(V.bool true), (ints (cat ([w]))), V.nilsl, V.nilsl, V.nilsl]))]) (rows := [(cN (((nth (t.nd) (((n)).toNat))))), [(V.bool true), (ints (cat ([w]))), V.nilsl, V.nilsl, V.nilsl]]) (mcons (congrArg (fun v => (0, v)) rfl) (mcons (congrArg (fun v => (1, v)) rfl) rfl)) rfl ?_)))))))
   refine R_appendN (l := ((t.nd).set (((n)).toNat) ((⟨false, [], cat ([sf]), ([cat ([outs]), cat ([other])]).reverse, ([((t.nd.length : Nat) : Int), ((t.nd.length + 1 : Nat) : Int)]).reverse⟩ : Nd)))) (f := cN) (@rfl V (V.ms 212 1 0 (t.nd.length))) h212 (by first | rfl | simp | omega) (@rfl V (V.sl [(cN (((nth (t.nd) (((n)).toNat))))), [(V.bool true), (ints (cat ([w]))), V.nilsl, V.nilsl, V.nilsl]])) (by simp [fitRows, V.one]) (by first | omega | (simp; omega)) (by first | omega | (simp; omega)) (R_fld_mp (o' := 0) t16 h16 oB rfl (R_store (vs := [(V.ms 212 2 0 (t.nd.length + 2))]) (B' := (bk 1 24 1 [[(V.ms 212 2 0 (t.nd.length + 2))]])) rfl rfl rfl h16 (sB oB rfl rfl rfl rfl rfl) ?_))
   exact R_nil ⟨t12, t16, h6, h12, rfl, h17, h18, h52, h60, h201, h202, h205, rfl, h228, h258, trivial⟩
  intro T H ⟨t12, t16, h6, h12, h16, h17, h18, h52, h60, h201, h202, h205, h212, h228, h258, _⟩
  refine nza_map (l := ((t.nd).set (((n)).toNat) ((⟨false, [], cat ([sf]), ([cat ([outs]), cat ([other])]).reverse, ([((t.nd.length : Nat) : Int), ((t.nd.length + 1 : Nat) : Int)]).reverse⟩ : Nd)))) (m := ([((nth (t.nd) (((n)).toNat))), (⟨true, cat ([w]), [], [], []⟩ : Nd)])) (f := cN) h212 rfl (.done ?_)
  refine fork_ (R := fun T H => T 12 = (V.mp 12 1 0 0) ∧ T 16 = (V.mp 16 1 0 0) ∧ H 6 = (bk 1 24 1 [[(V.sl (List.map cN (t.nd)))]]) ∧ H 12 = (bk 1 24 1 [[V.nilsl]]) ∧ H 16 = (bk 1 24 1 [[(V.ms 212 2 0 (t.nd.length + 2))]]) ∧ H 17 = (bk 1 41 5 [(cN (((nth (t.nd) (((n)).toNat)))))]) ∧ H 18 = (bk 1 41 5 [[(V.bool false), V.nilsl, (ints (cat ([sf]))), (V.ms 52 1 0 (2)), (V.ms 60 1 0 (2))]]) ∧ ((H 52).ver = 1 ∧ (H 52).live = false) ∧ ((H 60).ver = 1 ∧ (H 60).live = false) ∧ H 201 = (⟨1, false, false, 0, 0, []⟩ : Blk) ∧ H 202 = (⟨1, false, false, 0, 0, []⟩ : Blk) ∧ H 205 = (⟨0 + t.nd.length, false, false, 0, 0, []⟩ : Blk) ∧ H 212 = (bk 2 41 5 (List.map cN ((t.nd).set (((n)).toNat) ((⟨false, [], cat ([sf]), ([cat ([outs]), cat ([other])]).reverse, ([((t.nd.length : Nat) : Int), ((t.nd.length + 1 : Nat) : Int)]).reverse⟩ : Nd)) ++ [((nth (t.nd) (((n)).toNat))), (⟨true, cat ([w]), [], [], []⟩ : Nd)]))) ∧ H 228 = (⟨0 + t.nd.length * 1048578, false, false, 0, 0, []⟩ : Blk) ∧ H 258 = (⟨0 + 3 * t.nd.length, false, false, 0, 0, []⟩ : Blk) ∧ True) ⟨t12, t16, ((upd_ne _ _ (by decide)).trans h6), ((upd_ne _ _ (by decide)).trans h12), ((upd_ne _ _ (by decide)).trans h16), ((upd_ne _ _ (by decide)).trans h17), ((upd_ne _ _ (by decide)).trans h18), ⟨(congrArg Blk.ver (upd_ne _ _ (by decide))).trans (h52).1, (congrArg Blk.live (upd_ne _ _ (by decide))).trans (h52).2⟩, ⟨(congrArg Blk.ver (upd_ne _ _ (by decide))).trans (h60).1, (congrArg Blk.live (upd_ne _ _ (by decide))).trans (h60).2⟩, ((upd_ne _ _ (by decide)).trans h201), ((upd_ne _ _ (by decide)).trans h202), ((upd_ne _ _ (by decide)).trans h205), (upd_same _ _ _), ((upd_ne _ _ (by decide)).trans h228), ((upd_ne _ _ (by decide)).trans h258), trivial⟩ ?_
  intro T H ⟨t12, t16, h6, h12, h16, h17, h18, h52, h60, h201, h202, h205, h212, h228, h258, _⟩
  refine W_r (R_load_mp (v := (V.agg [(V.ms 212 2 0 (t.nd.length + 2))])) t16 h16 (lB oB rfl rfl) (R_store (vs := [(V.ms 212 2 0 (t.nd.length + 2))]) (B' := (bk 1 24 1 [[(V.ms 212 2 0 (t.nd.length + 2))]])) t12 rfl rfl h12 (sB oB rfl rfl rfl rfl rfl) (R_mv (@rfl V (iV (0 : Int))) (R_e (W_ret ?_)))))
  refine RetC_2 (resV_c (u := (V.agg [(V.ms 212 2 0 (t.nd.length + 2))])) t12 (@rfl Blk (bk 1 24 1 [[(V.ms 212 2 0 (t.nd.length + 2))]])) (lB oB rfl rfl)) (resV_t (@rfl V (iV (0 : Int)))) (fz_agg1 (fz_ms h212 (by first | rfl | simp) (l := ((t.nd).set (((n)).toNat) ((⟨false, [], cat ([sf]), ([cat ([outs]), cat ([other])]).reverse, ([((t.nd.length : Nat) : Int), ((t.nd.length + 1 : Nat) : Int)]).reverse⟩ : Nd)) ++ [((nth (t.nd) (((n)).toNat))), (⟨true, cat ([w]), [], [], []⟩ : Nd)])) rfl (by first | rfl | simp | omega) (fun _ => by simp) ?_)) (fz_int ?_)
  · rw [spT_yes hE]; unfold spN spO spK; rw [if_pos d7, if_pos d7]; simp [cat1, lfN]
  · exact hE.symm
 have d7 := c3
 refine W_seq_skip ?_
 refine W_seq_g (fun T H => T 4 = (ints w) ∧ T 12 = (V.mp 12 1 0 0) ∧ T 16 = (V.mp 16 1 0 0) ∧ T 17 = (V.mp 17 1 0 0) ∧ H 6 = (bk 1 24 1 [[(V.sl (List.map cN (t.nd)))]]) ∧ H 12 = (bk 1 24 1 [[V.nilsl]]) ∧ H 16 = (bk 1 24 1 [[(V.ms 212 1 0 (t.nd.length))]]) ∧ H 17 = (bk 1 41 5 [(cN (((nth (t.nd) (((n)).toNat)))))]) ∧ H 18 = (bk 1 41 5 [[(V.bool false), V.nilsl, (ints (cat ([sf]))), (V.ms 52 1 0 (2)), (V.ms 60 1 0 (2))]]) ∧ H 52 = (bk 1 25 1 [[(ints (cat ([outs])))], [(ints (cat ([other])))]]) ∧ H 60 = (bk 1 3 1 [[(iV ((t.nd.length : Nat) : Int))], [(iV ((t.nd.length + 1 : Nat) : Int))]]) ∧ H 201 = (⟨1, false, false, 0, 0, []⟩ : Blk) ∧ H 202 = (⟨1, false, false, 0, 0, []⟩ : Blk) ∧ H 205 = (⟨0 + t.nd.length, false, false, 0, 0, []⟩ : Blk) ∧ H 212 = (bk 1 41 5 ((List.map cN (t.nd)).set (((n)).toNat) [(V.bool false), V.nilsl, (ints (cat ([sf]))), (V.ms 52 1 0 (2)), (V.ms 60 1 0 (2))])) ∧ H 228 = (⟨0 + t.nd.length * 1048578, false, false, 0, 0, []⟩ : Blk) ∧ H 258 = (⟨0 + 3 * t.nd.length, false, false, 0, 0, []⟩ : Blk) ∧ True) ?_ ?_
 ·
  refine R_fld_mp (o' := 0) t16 h16 oB rfl (R_load_mp (v := (V.ms 212 1 0 (t.nd.length))) rfl h16 (lB oB rfl rfl) (R_mv t1 (R_load_mp (v := (V.agg [(V.bool false), V.nilsl, (ints (cat ([sf]))), (V.ms 52 1 0 (2)), (V.ms 60 1 0 (2))])) t18 h18 (lB oB rfl rfl) (R_idxI_ms0 (i := (n)) (@rfl V (V.ms 212 1 0 (t.nd.length))) (@rfl V (iV (n))) h212 oB rfl (by first | omega | (simp; omega)) (by first | omega | (simp; omega)) (R_store (vs := [(V.bool false), V.nilsl, (ints (cat ([sf]))), (V.ms 52 1 0 (2)), (V.ms 60 1 0 (2))]) (B' := (bk 1 41 5 ((List.map cN (t.nd)).set (((n)).toNat) [(V.bool false), V.nilsl, (ints (cat ([sf]))), (V.ms 52 1 0 (2)), (V.ms 60 1 0 (2))]))) rfl rfl rfl h212 (stB_setc (i := (((n)).toNat)) (by first | omega | (simp; omega)) rfl rfl rfl) ?_)))))
  exact R_nil ⟨t4, t12, t16, t17, h6, h12, h16, h17, h18, h52, h60, h201, h202, h205, rfl, h228, h258, trivial⟩
 intro T H ⟨t4, t12, t16, t17, h6, h12, h16, h17, h18, h52, h60, h201, h202, h205, h212, h228, h258, _⟩
 refine nzs_map (rows := List.map cN (t.nd)) (i := (((n)).toNat)) (r' := [(V.bool false), (ints ([])), (ints (cat ([sf]))), (V.ms 52 1 0 (2)), (V.ms 60 1 0 (2))]) h212 (by first | omega | (simp; omega)) rfl (fork_ (R := fun T H => T 4 = (ints w) ∧ T 12 = (V.mp 12 1 0 0) ∧ T 16 = (V.mp 16 1 0 0) ∧ T 17 = (V.mp 17 1 0 0) ∧ H 6 = (bk 1 24 1 [[(V.sl (List.map cN (t.nd)))]]) ∧ H 12 = (bk 1 24 1 [[V.nilsl]]) ∧ H 16 = (bk 1 24 1 [[(V.ms 212 1 0 (t.nd.length))]]) ∧ H 17 = (bk 1 41 5 [(cN (((nth (t.nd) (((n)).toNat)))))]) ∧ H 18 = (bk 1 41 5 [[(V.bool false), V.nilsl, (ints (cat ([sf]))), (V.ms 52 1 0 (2)), (V.ms 60 1 0 (2))]]) ∧ H 52 = (bk 1 25 1 [[(ints (cat ([outs])))], [(ints (cat ([other])))]]) ∧ H 60 = (bk 1 3 1 [[(iV ((t.nd.length : Nat) : Int))], [(iV ((t.nd.length + 1 : Nat) : Int))]]) ∧ H 201 = (⟨1, false, false, 0, 0, []⟩ : Blk) ∧ H 202 = (⟨1, false, false, 0, 0, []⟩ : Blk) ∧ H 205 = (⟨0 + t.nd.length, false, false, 0, 0, []⟩ : Blk) ∧ H 212 = (bk 1 41 5 ((List.map cN (t.nd)).set (((n)).toNat) [(V.bool false), (ints ([])), (ints (cat ([sf]))), (V.ms 52 1 0 (2)), (V.ms 60 1 0 (2))])) ∧ H 228 = (⟨0 + t.nd.length * 1048578, false, false, 0, 0, []⟩ : Blk) ∧ H 258 = (⟨0 + 3 * t.nd.length, false, false, 0, 0, []⟩ : Blk) ∧ True) ⟨t4, t12, t16, t17, ((upd_ne _ _ (by decide)).trans h6), ((upd_ne _ _ (by decide)).trans h12), ((upd_ne _ _ (by decide)).trans h16), ((upd_ne _ _ (by decide)).trans h17), ((upd_ne _ _ (by decide)).trans h18), ((upd_ne _ _ (by decide)).trans h52), ((upd_ne _ _ (by decide)).trans h60), ((upd_ne _ _ (by decide)).trans h201), ((upd_ne _ _ (by decide)).trans h202), ((upd_ne _ _ (by decide)).trans h205), (upd_same _ _ _), ((upd_ne _ _ (by decide)).trans h228), ((upd_ne _ _ (by decide)).trans h258), trivial⟩ ?_)
 intro T H ⟨t4, t12, t16, t17, h6, h12, h16, h17, h18, h52, h60, h201, h202, h205, h212, h228, h258, _⟩
 refine frz_cellg (id := 52) (id2 := 212) (rows := (List.map cN (t.nd))) (i := (((n)).toNat)) (off := 3) (r := [(V.bool false), (ints ([])), (ints (cat ([sf]))), (V.ms 52 1 0 (2)), (V.ms 60 1 0 (2))]) (m := ([cat ([outs]), cat ([other])])) (g := cL) (by decide) (show _ = (bk 1 25 1 (List.map cL ([cat ([outs]), cat ([other])]))) from h52) h212 (by first | omega | (simp; omega)) (by first | rfl | simp | omega) rfl (fork_ (R := fun T H => T 4 = (ints w) ∧ T 12 = (V.mp 12 1 0 0) ∧ T 16 = (V.mp 16 1 0 0) ∧ T 17 = (V.mp 17 1 0 0) ∧ H 6 = (bk 1 24 1 [[(V.sl (List.map cN (t.nd)))]]) ∧ H 12 = (bk 1 24 1 [[V.nilsl]]) ∧ H 16 = (bk 1 24 1 [[(V.ms 212 1 0 (t.nd.length))]]) ∧ H 17 = (bk 1 41 5 [(cN (((nth (t.nd) (((n)).toNat)))))]) ∧ H 18 = (bk 1 41 5 [[(V.bool false), V.nilsl, (ints (cat ([sf]))), (V.ms 52 1 0 (2)), (V.ms 60 1 0 (2))]]) ∧ ((H 52).ver = 1 ∧ (H 52).live = false) ∧ H 60 = (bk 1 3 1 [[(iV ((t.nd.length : Nat) : Int))], [(iV ((t.nd.length + 1 : Nat) : Int))]]) ∧ H 201 = (⟨1, false, false, 0, 0, []⟩ : Blk) ∧ H 202 = (⟨1, false, false, 0, 0, []⟩ : Blk) ∧ H 205 = (⟨0 + t.nd.length, false, false, 0, 0, []⟩ : Blk) ∧ H 212 = (bk 1 41 5 ((List.map cN (t.nd)).set (((n)).toNat) [(V.bool false), (ints ([])), (ints (cat ([sf]))), (intss ([cat ([outs]), cat ([other])])), (V.ms 60 1 0 (2))])) ∧ H 228 = (⟨0 + t.nd.length * 1048578, false, false, 0, 0, []⟩ : Blk) ∧ H 258 = (⟨0 + 3 * t.nd.length, false, false, 0, 0, []⟩ : Blk) ∧ True) ⟨(fzT_q t4 rfl), (fzT_q t12 rfl), (fzT_q t16 rfl), (fzT_q t17 rfl), ((upd_ne _ _ (by decide)).trans (kill_ne h6 (by decide))), ((upd_ne _ _ (by decide)).trans (kill_ne h12 (by decide))), ((upd_ne _ _ (by decide)).trans (kill_ne h16 (by decide))), ((upd_ne _ _ (by decide)).trans (kill_ne h17 (by decide))), ((upd_ne _ _ (by decide)).trans (kill_ne h18 (by decide))), ⟨(congrArg Blk.ver (upd_ne _ _ (by decide))).trans (kill_self (congrArg Blk.ver h52)).1, (congrArg Blk.live (upd_ne _ _ (by decide))).trans (kill_self (congrArg Blk.ver h52)).2⟩, ((upd_ne _ _ (by decide)).trans (kill_ne h60 (by decide))), ((upd_ne _ _ (by decide)).trans (kill_ne h201 (by decide))), ((upd_ne _ _ (by decide)).trans (kill_ne h202 (by decide))), ((upd_ne _ _ (by decide)).trans (kill_ne h205 (by decide))), (upd_same _ _ _), ((upd_ne _ _ (by decide)).trans (kill_ne h228 (by decide))), ((upd_ne _ _ (by decide)).trans (kill_ne h258 (by decide))), trivial⟩ ?_)
 intro T H ⟨t4, t12, t16, t17, h6, h12, h16, h17, h18, h52, h60, h201, h202, h205, h212, h228, h258, _⟩
 refine frz_cellg (id := 60) (id2 := 212) (rows := (List.map cN (t.nd))) (i := (((n)).toNat)) (off := 4) (r := [(V.bool false), (ints ([])), (ints (cat ([sf]))), (intss ([cat ([outs]), cat ([other])])), (V.ms 60 1 0 (2))]) (m := ([((t.nd.length : Nat) : Int), ((t.nd.length + 1 : Nat) : Int)])) (g := cI) (by decide) (show _ = (bk 1 3 1 (List.map cI ([((t.nd.length : Nat) : Int), ((t.nd.length + 1 : Nat) : Int)]))) from h60) h212 (by first | omega | (simp; omega)) (by first | rfl | simp | omega) rfl (.done ?_)
 refine fork_ (R := fun T H => T 4 = (ints w) ∧ T 12 = (V.mp 12 1 0 0) ∧ T 16 = (V.mp 16 1 0 0) ∧ T 17 = (V.mp 17 1 0 0) ∧ H 6 = (bk 1 24 1 [[(V.sl (List.map cN (t.nd)))]]) ∧ H 12 = (bk 1 24 1 [[V.nilsl]]) ∧ H 16 = (bk 1 24 1 [[(V.ms 212 1 0 (t.nd.length))]]) ∧ H 17 = (bk 1 41 5 [(cN (((nth (t.nd) (((n)).toNat)))))]) ∧ H 18 = (bk 1 41 5 [[(V.bool false), V.nilsl, (ints (cat ([sf]))), (V.ms 52 1 0 (2)), (V.ms 60 1 0 (2))]]) ∧ ((H 52).ver = 1 ∧ (H 52).live = false) ∧ ((H 60).ver = 1 ∧ (H 60).live = false) ∧ H 201 = (⟨1, false, false, 0, 0, []⟩ : Blk) ∧ H 202 = (⟨1, false, false, 0, 0, []⟩ : Blk) ∧ H 205 = (⟨0 + t.nd.length, false, false, 0, 0, []⟩ : Blk) ∧ H 212 = (bk 1 41 5 (List.map cN ((t.nd).set (((n)).toNat) ((⟨false, [], cat ([sf]), [cat ([outs]), cat ([other])], [((t.nd.length : Nat) : Int), ((t.nd.length + 1 : Nat) : Int)]⟩ : Nd))))) ∧ H 228 = (⟨0 + t.nd.length * 1048578, false, false, 0, 0, []⟩ : Blk) ∧ H 258 = (⟨0 + 3 * t.nd.length, false, false, 0, 0, []⟩ : Blk) ∧ True) ⟨(fzT_q t4 rfl), (fzT_q t12 rfl), (fzT_q t16 rfl), (fzT_q t17 rfl), ((upd_ne _ _ (by decide)).trans (kill_ne h6 (by decide))), ((upd_ne _ _ (by decide)).trans (kill_ne h12 (by decide))), ((upd_ne _ _ (by decide)).trans (kill_ne h16 (by decide))), ((upd_ne _ _ (by decide)).trans (kill_ne h17 (by decide))), ((upd_ne _ _ (by decide)).trans (kill_ne h18 (by decide))), ⟨(congrArg Blk.ver (upd_ne _ _ (by decide))).trans (kill_dead h52).1, (congrArg Blk.live (upd_ne _ _ (by decide))).trans (kill_dead h52).2⟩, ⟨(congrArg Blk.ver (upd_ne _ _ (by decide))).trans (kill_self (congrArg Blk.ver h60)).1, (congrArg Blk.live (upd_ne _ _ (by decide))).trans (kill_self (congrArg Blk.ver h60)).2⟩, ((upd_ne _ _ (by decide)).trans (kill_ne h201 (by decide))), ((upd_ne _ _ (by decide)).trans (kill_ne h202 (by decide))), ((upd_ne _ _ (by decide)).trans (kill_ne h205 (by decide))), (Eq.trans (upd_same _ _ _) (by first | (rw [List.map_set]; done) | (rw [List.map_set]; rfl))), ((upd_ne _ _ (by decide)).trans (kill_ne h228 (by decide))), ((upd_ne _ _ (by decide)).trans (kill_ne h258 (by decide))), trivial⟩ ?_
 intro T H ⟨t4, t12, t16, t17, h6, h12, h16, h17, h18, h52, h60, h201, h202, h205, h212, h228, h258, _⟩
 refine W_seq_g (fun T H => T 12 = (V.mp 12 1 0 0) ∧ T 16 = (V.mp 16 1 0 0) ∧ H 6 = (bk 1 24 1 [[(V.sl (List.map cN (t.nd)))]]) ∧ H 12 = (bk 1 24 1 [[V.nilsl]]) ∧ H 16 = (bk 1 24 1 [[(V.ms 212 2 0 (t.nd.length + 2))]]) ∧ H 17 = (bk 1 41 5 [(cN (((nth (t.nd) (((n)).toNat)))))]) ∧ H 18 = (bk 1 41 5 [[(V.bool false), V.nilsl, (ints (cat ([sf]))), (V.ms 52 1 0 (2)), (V.ms 60 1 0 (2))]]) ∧ ((H 52).ver = 1 ∧ (H 52).live = false) ∧ ((H 60).ver = 1 ∧ (H 60).live = false) ∧ H 201 = (⟨1, false, false, 0, 0, []⟩ : Blk) ∧ H 202 = (⟨1, false, false, 0, 0, []⟩ : Blk) ∧ H 205 = (⟨0 + t.nd.length, false, false, 0, 0, []⟩ : Blk) ∧ H 212 = (bk 2 41 5 (List.map cN ((t.nd).set (((n)).toNat) ((⟨false, [], cat ([sf]), [cat ([outs]), cat ([other])], [((t.nd.length : Nat) : Int), ((t.nd.length + 1 : Nat) : Int)]⟩ : Nd))) ++ [(cN (((nth (t.nd) (((n)).toNat))))), [(V.bool true), (ints (cat ([w]))), V.nilsl, V.nilsl, V.nilsl]])) ∧ H 228 = (⟨0 + t.nd.length * 1048578, false, false, 0, 0, []⟩ : Blk) ∧ H 258 = (⟨0 + 3 * t.nd.length, false, false, 0, 0, []⟩ : Blk) ∧ True) ?_ ?_
 ·
  refine R_fld_mp (o' := 0) t16 h16 oB rfl (R_load_mp (v := (V.ms 212 1 0 (t.nd.length))) rfl h16 (lB oB rfl rfl) (R_load_mp (v := (V.agg (cN (((nth (t.nd) (((n)).toNat))))))) t17 h17 (lB oB rfl rfl) (R_mv t4 (R_bslice (qs := [(0, (ints w))]) (rows := [[(ints w)]]) (mcons (congrArg (fun v => (0, v)) rfl) rfl) rfl (R_callc (evcons rfl evnil) (pjoin_pure ([w]) (by simp only [cat, List.append_nil]; omega)) (R_build (qs := [(0, 1, (V.bool true)), (1, 1, (ints (cat ([w]))))]) (cs := [(V.bool true), (ints (cat ([w]))), V.nilsl, V.nilsl, V.nilsl]) (mcons (congrArg (fun v => (0, 1, v)) rfl) (mcons (congrArg (fun v => (1, 1, v)) rfl) rfl)) rfl (R_bslice (qs := [(0, (V.agg (cN (((nth (t.nd) (((n)).toNat))))))), (1, (V.agg [(V.bool true), (ints (cat ([w]))), V.nilsl, V.nilsl, V.nilsl]))]) (rows := [(cN (((nth (t.nd) (((n)).toNat))))), [(V.bool true), (ints (cat ([w]))), V.nilsl, V.nilsl, V.nilsl]]) (mcons (congrArg (fun v => (0, v)) rfl) (mcons (congrArg (fun v => (1, v)) rfl) rfl)) rfl ?_)))))))
  refine R_appendN (l := ((t.nd).set (((n)).toNat) ((⟨false, [], cat ([sf]), [cat ([outs]), cat ([other])], [((t.nd.length : Nat) : Int), ((t.nd.length + 1 : Nat) : Int)]⟩ : Nd)))) (f := cN) (@rfl V (V.ms 212 1 0 (t.nd.length))) h212 (by first | rfl | simp | omega) (@rfl V (V.sl [(cN (((nth (t.nd) (((n)).toNat))))), [(V.bool true), (ints (cat ([w]))), V.nilsl, V.nilsl, V.nilsl]])) (by simp [fitRows, V.one]) (by first | omega | (simp; omega)) (by first | omega | (simp; omega)) (R_fld_mp (o' := 0) t16 h16 oB rfl (R_store (vs := [(V.ms 212 2 0 (t.nd.length + 2))]) (B' := (bk 1 24 1 [[(V.ms 212 2 0 (t.nd.length + 2))]])) rfl rfl rfl h16 (sB oB rfl rfl rfl rfl rfl) ?_))
  exact R_nil ⟨t12, t16, h6, h12, rfl, h17, h18, h52, h60, h201, h202, h205, rfl, h228, h258, trivial⟩
 intro T H ⟨t12, t16, h6, h12, h16, h17, h18, h52, h60, h201, h202, h205, h212, h228, h258, _⟩
 refine nza_map (l := ((t.nd).set (((n)).toNat) ((⟨false, [], cat ([sf]), [cat ([outs]), cat ([other])], [((t.nd.length : Nat) : Int), ((t.nd.length + 1 : Nat) : Int)]⟩ : Nd)))) (m := ([((nth (t.nd) (((n)).toNat))), (⟨true, cat ([w]), [], [], []⟩ : Nd)])) (f := cN) h212 rfl (.done ?_)
 refine fork_ (R := fun T H => T 12 = (V.mp 12 1 0 0) ∧ T 16 = (V.mp 16 1 0 0) ∧ H 6 = (bk 1 24 1 [[(V.sl (List.map cN (t.nd)))]]) ∧ H 12 = (bk 1 24 1 [[V.nilsl]]) ∧ H 16 = (bk 1 24 1 [[(V.ms 212 2 0 (t.nd.length + 2))]]) ∧ H 17 = (bk 1 41 5 [(cN (((nth (t.nd) (((n)).toNat)))))]) ∧ H 18 = (bk 1 41 5 [[(V.bool false), V.nilsl, (ints (cat ([sf]))), (V.ms 52 1 0 (2)), (V.ms 60 1 0 (2))]]) ∧ ((H 52).ver = 1 ∧ (H 52).live = false) ∧ ((H 60).ver = 1 ∧ (H 60).live = false) ∧ H 201 = (⟨1, false, false, 0, 0, []⟩ : Blk) ∧ H 202 = (⟨1, false, false, 0, 0, []⟩ : Blk) ∧ H 205 = (⟨0 + t.nd.length, false, false, 0, 0, []⟩ : Blk) ∧ H 212 = (bk 2 41 5 (List.map cN ((t.nd).set (((n)).toNat) ((⟨false, [], cat ([sf]), [cat ([outs]), cat ([other])], [((t.nd.length : Nat) : Int), ((t.nd.length + 1 : Nat) : Int)]⟩ : Nd)) ++ [((nth (t.nd) (((n)).toNat))), (⟨true, cat ([w]), [], [], []⟩ : Nd)]))) ∧ H 228 = (⟨0 + t.nd.length * 1048578, false, false, 0, 0, []⟩ : Blk) ∧ H 258 = (⟨0 + 3 * t.nd.length, false, false, 0, 0, []⟩ : Blk) ∧ True) ⟨t12, t16, ((upd_ne _ _ (by decide)).trans h6), ((upd_ne _ _ (by decide)).trans h12), ((upd_ne _ _ (by decide)).trans h16), ((upd_ne _ _ (by decide)).trans h17), ((upd_ne _ _ (by decide)).trans h18), ⟨(congrArg Blk.ver (upd_ne _ _ (by decide))).trans (h52).1, (congrArg Blk.live (upd_ne _ _ (by decide))).trans (h52).2⟩, ⟨(congrArg Blk.ver (upd_ne _ _ (by decide))).trans (h60).1, (congrArg Blk.live (upd_ne _ _ (by decide))).trans (h60).2⟩, ((upd_ne _ _ (by decide)).trans h201), ((upd_ne _ _ (by decide)).trans h202), ((upd_ne _ _ (by decide)).trans h205), (upd_same _ _ _), ((upd_ne _ _ (by decide)).trans h228), ((upd_ne _ _ (by decide)).trans h258), trivial⟩ ?_
 intro T H ⟨t12, t16, h6, h12, h16, h17, h18, h52, h60, h201, h202, h205, h212, h228, h258, _⟩
 refine W_r (R_load_mp (v := (V.agg [(V.ms 212 2 0 (t.nd.length + 2))])) t16 h16 (lB oB rfl rfl) (R_store (vs := [(V.ms 212 2 0 (t.nd.length + 2))]) (B' := (bk 1 24 1 [[(V.ms 212 2 0 (t.nd.length + 2))]])) t12 rfl rfl h12 (sB oB rfl rfl rfl rfl rfl) (R_mv (@rfl V (iV (0 : Int))) (R_e (W_ret ?_)))))
 refine RetC_2 (resV_c (u := (V.agg [(V.ms 212 2 0 (t.nd.length + 2))])) t12 (@rfl Blk (bk 1 24 1 [[(V.ms 212 2 0 (t.nd.length + 2))]])) (lB oB rfl rfl)) (resV_t (@rfl V (iV (0 : Int)))) (fz_agg1 (fz_ms h212 (by first | rfl | simp) (l := ((t.nd).set (((n)).toNat) ((⟨false, [], cat ([sf]), [cat ([outs]), cat ([other])], [((t.nd.length : Nat) : Int), ((t.nd.length + 1 : Nat) : Int)]⟩ : Nd)) ++ [((nth (t.nd) (((n)).toNat))), (⟨true, cat ([w]), [], [], []⟩ : Nd)])) rfl (by first | rfl | simp | omega) (fun _ => by simp) ?_)) (fz_int ?_)
 · rw [spT_yes hE]; unfold spN spO spK; rw [if_neg d7, if_neg d7]; simp [cat1, lfN]
 · exact hE.symm
theorem bsw_pure (l : List (List Int)) (t : List Int) (hs : SrtL l) (hl : l.length ≤ 1048576) : PureC Try.prog 51 [(intss l), (ints t), (V.fn 24 [] [])] (V.tup [(iV ((lxN l t : Nat) : Int)), (V.bool (decide (lxH l t)))]) := by
 refine pW Try.func51 s51_ok fun hB => ?_
 unfold s51
 dsimp only
 have q0 := lx_le (w := t) l
 refine W_r (R_mv (@rfl V (iV (0 : Int))) (R_mv (@rfl V (V.bool false)) (R_e (W_r (R_mv (@rfl V (intss l)) (R_len rfl (R_mv (@rfl V (iV ((l.length : Nat) : Int))) ?_)))))))
 refine R_e (W_r (R_mv (@rfl V (iV ((l.length : Nat) : Int))) (R_mv (@rfl V (iV (0 : Int))) (R_mv (@rfl V (iV ((l.length : Nat) : Int))) (R_e (W_seq_blockg fun Q1 n1 x1 y1 z1 => ?_))))))
 refine W_loop (fun mm T H => ∃ (i : Nat) (j : Nat), mm = j - i ∧ T 0 = (intss l) ∧ T 1 = (ints t) ∧ T 2 = (V.fn 24 [] []) ∧ T 8 = (iV ((l.length : Nat) : Int)) ∧ T 9 = (iV ((i : Nat) : Int)) ∧ T 10 = (iV ((j : Nat) : Int)) ∧ (i ≤ lxN l t) ∧ (lxN l t ≤ j) ∧ (j ≤ l.length)) ?_ ?_
 ·
  refine ⟨_, 0, l.length, rfl, rfl, rfl, rfl, rfl, (Eq.trans (@rfl V (iV (0 : Int))) rfl), rfl, ?_, ?_, ?_⟩
  · omega
  · omega
  · omega
 intro mm T H ⟨i, j, hmm, t0, t1, t2, t8, t9, t10, h1, h2, h3⟩ Q2 p12 p22 p32
 unfold b51_0
 refine W_seq_seq (W_r (R_mv t9 (R_mv t10 (R_lss rfl rfl (R_e ?_)))))
 refine W_seq_if rfl (fun c3 => ?_) fun c3 => ?_
 ·
  refine W_seq_skip (W_block fun Q4 n4 x4 y4 z4 => (W_r (R_mv t9 (R_mv t10 (R_addN rfl rfl (by omega) (R_convU (n := (i + j)) (@rfl V (iV ((i + j : Nat) : Int))) (by omega) (R_shr1 (n := (i + j)) rfl rfl ?_)))))))
  refine R_convI (n := ((i + j) / 2)) (@rfl V (V.int .u64 ((((i + j) / 2 : Nat) : Int)))) (by omega) (R_mv (@rfl V (iV (((i + j) / 2 : Nat) : Int))) (R_e (W_r (R_mv t2 (R_mv t0 (R_mv (@rfl V (iV (((i + j) / 2 : Nat) : Int))) (R_idx (i := ((i + j) / 2)) (@rfl V (intss l)) (@rfl V (iV (((i + j) / 2 : Nat) : Int))) (by omega) rfl ?_)))))))
  refine R_load_pp (v := (ints ((nth (l) ((i + j) / 2))))) rfl (by first | rfl | simp [ldV]) (R_mv t1 (R_callv (@rfl V (V.fn 24 [] [])) (evcons (@rfl V (ints ((nth (l) ((i + j) / 2))))) (evcons (@rfl V (ints t)) evnil)) (lex_pure ((nth (l) ((i + j) / 2))) t) (fzv_mapcanon _ _ (by simp [-List.map_take, -List.map_drop, -List.map_append, -List.map_reverse])) (by simp [-List.map_take, -List.map_drop, -List.map_append, -List.map_reverse]) (Or.inl (by simp [-List.map_take, -List.map_drop, -List.map_append, -List.map_reverse])) (R_lss rfl rfl (R_e ?_))))
  refine W_if rfl (fun c5 => ?_) fun c5 => ?_
  ·
   have d1 := (lx_iff hs (by omega)).1 c5
   refine W_t (R_mv (@rfl V (iV (((i + j) / 2 : Nat) : Int))) (R_addN rfl (@rfl V (iV ((1 : Nat) : Int))) (by omega) (R_mv (@rfl V (iV ((((i + j) / 2) + 1 : Nat) : Int))) (R_e (n4 _ _ ?_)))))
   refine p12 _ _ _ ?_ ⟨(((i + j) / 2) + 1), j, rfl, t0, t1, t2, t8, (Eq.trans (@rfl V (iV ((((i + j) / 2) + 1 : Nat) : Int))) (by first | rfl | simp)), t10, ?_, ?_, ?_⟩
   · omega
   · omega
   · omega
   · omega
  have d1 : ¬((i + j) / 2 < lxN l t) := fun e => c5 ((lx_iff hs (by omega)).2 e)
  refine W_t (R_mv (@rfl V (iV (((i + j) / 2 : Nat) : Int))) (R_mv (@rfl V (iV (((i + j) / 2 : Nat) : Int))) (R_e (n4 _ _ ?_))))
  refine p12 _ _ _ ?_ ⟨i, ((i + j) / 2), rfl, t0, t1, t2, t8, t9, (Eq.trans (@rfl V (iV (((i + j) / 2 : Nat) : Int))) (by first | rfl | simp)), ?_, ?_, ?_⟩
  · omega
  · omega
  · omega
  · omega
 refine W_seq_exit (p32 _ _ _ (x1 _ _ (.done (W_r (R_mv t9 (R_mv t9 (R_mv t8 ?_)))))))
 refine R_lss rfl rfl (R_mv (@rfl V (V.bool (decide (((i : Nat) : Int) < ((l.length : Nat) : Int))))) ?_)
 refine Ops_seg 9 (fun T H => T 35 = (iV ((i : Nat) : Int)) ∧ T 48 = (V.bool (decide ((((i : Nat) : Int) < ((l.length : Nat) : Int)) ∧ ((lexI ((nth (l) (i))) t) = (0 : Int))))) ∧ True) ?_ ?_
 ·
  by_cases g6 : ((i : Nat) : Int) < ((l.length : Nat) : Int)
  ·
   refine G_yes (edT g6 rfl) (R_mv t2 (G_yes (edT g6 rfl) (R_mv t0 (G_yes (edT g6 rfl) (R_mv t9 (G_yes (edT g6 rfl) (R_idx (i := i) (@rfl V (intss l)) (@rfl V (iV ((i : Nat) : Int))) (by omega) rfl ?_)))))))
   refine G_yes (edT g6 rfl) (R_load_pp (v := (ints ((nth (l) (i))))) rfl (by first | rfl | simp [ldV]) (G_yes (edT g6 rfl) (R_mv t1 (G_yes (edT g6 rfl) (R_callv (@rfl V (V.fn 24 [] [])) (evcons (@rfl V (ints ((nth (l) (i))))) (evcons (@rfl V (ints t)) evnil)) (lex_pure ((nth (l) (i))) t) (fzv_mapcanon _ _ (by simp [-List.map_take, -List.map_drop, -List.map_append, -List.map_reverse])) (by simp [-List.map_take, -List.map_drop, -List.map_append, -List.map_reverse]) (Or.inl (by simp [-List.map_take, -List.map_drop, -List.map_append, -List.map_reverse])) (G_yes (edT g6 rfl) (R_eql rfl rfl ?_)))))))
   refine R_pickT (edT g6 rfl) rfl ?_
   exact ⟨rfl, (dec_andT g6), trivial⟩
  ·
   refine G_n (edF g6 rfl) (G_n (edF g6 rfl) (G_n (edF g6 rfl) (G_n (edF g6 rfl) (G_n (edF g6 rfl) (G_n (edF g6 rfl) (G_n (edF g6 rfl) (G_n (edF g6 rfl) ?_)))))))
   refine R_pickF (edF g6 rfl) rfl ?_
   exact ⟨rfl, (dec_andF g6), trivial⟩
 intro T H ⟨t35, t48, _⟩
 refine R_mv t35 (R_mv t48 (R_e (W_ret ?_)))
 refine Ret_2 (@rfl V (iV ((i : Nat) : Int))) (@rfl V (V.bool (decide ((((i : Nat) : Int) < ((l.length : Nat) : Int)) ∧ ((lexI ((nth (l) (i))) t) = (0 : Int)))))) (fz_int ?_) (fz_bool ?_)
 · have e : i = lxN l t := by omega
   rw [e]
 · have e : i = lxN l t := by omega
   rw [e]; exact decide_eq_decide.2 (by unfold lxH; omega)
theorem dchild_pure (x : Nd) (outs : List Int) (hs : SrtL x.ou) (hl : x.ou.length ≤ 1048576) : PureC Try.prog 29 [(V.agg (cN x)), (ints outs)] (V.tup [(iV ((lxN x.ou outs : Nat) : Int)), (V.bool (decide (lxH x.ou outs)))]) := by
 refine pW Try.func29 s29_ok fun hB => ?_
 unfold s29
 dsimp only
 refine W_r (R_box (i := 2) (n := 0) (m := 5) (cs := [(V.bool x.lf), (ints x.ac), (ints x.sf), (intss x.ou), (ints x.kd)]) rfl (congrArg Blk.ver rfl) rfl rfl rfl (R_mv (@rfl V (iV (0 : Int))) (R_mv (@rfl V (V.bool false)) (R_e (W_r (R_fld_mp (o' := 3) rfl rfl oB rfl (R_load_mp (v := (intss x.ou)) rfl rfl (lB oB rfl rfl) ?_)))))))
 refine R_mv (@rfl V (ints outs)) (R_callc (evcons rfl (evcons rfl (evcons rfl evnil))) (bsw_pure x.ou outs hs hl) (R_ext (v := (iV ((lxN x.ou outs : Nat) : Int))) rfl rfl (R_ext (v := (V.bool (decide (lxH x.ou outs)))) rfl rfl (R_mv (@rfl V (iV ((lxN x.ou outs : Nat) : Int))) (R_mv (@rfl V (V.bool (decide (lxH x.ou outs)))) (R_e (W_ret ?_)))))))
 refine Ret_2 (@rfl V (iV ((lxN x.ou outs : Nat) : Int))) (@rfl V (V.bool (decide (lxH x.ou outs)))) (fz_canon (by simp) rfl) (fz_canon (by simp) rfl)
theorem insertcL {H : Heap} {id id2 ver ver2 i n : Nat} {lz : Bool} {l : List (List Int)} {w : (List Int)} (hn : n = l.length) (hH : H id = ⟨ver, true, lz, 25, 1, List.map cL l⟩) (hH2 : H id2 = ⟨ver2, true, false, 25, 1, [cL w]⟩) (hne : id ≠ id2) (hi : i ≤ n) (hb : n ≤ 1048576) :
    CallOK Try.prog 31 [.ms id ver 0 n, iV i, .ms id2 ver2 0 1] H (.ms id (ver + 2) 0 (n + 1)) (upd H id ⟨ver + 2, true, lz, 25, 1, List.map cL (inW i w l)⟩) := by
  have hf : ∀ l : List (List Int), fitRows 1 (List.map cL l) = true := fun l => by
    simp only [fitRows, List.all_eq_true]
    intro r hr
    obtain ⟨x, _, rfl⟩ := List.mem_map.1 hr
    rfl
  have h := CallOK_insertL insLay31 insCall31 (zz := [.nilsl]) (by kernel_rfl) rfl (by rw [List.length_map]; exact hn) hH hH2 hne hi (hf l) (hf [w]) (by omega) (by omega)
  unfold inW
  rw [List.map_append, List.map_cons, List.map_take, List.map_drop]
  exact h
theorem insertcI {H : Heap} {id id2 ver ver2 i n : Nat} {lz : Bool} {l : List Int} {w : Int} (hn : n = l.length) (hH : H id = ⟨ver, true, lz, 3, 1, List.map cI l⟩) (hH2 : H id2 = ⟨ver2, true, false, 3, 1, [cI w]⟩) (hne : id ≠ id2) (hi : i ≤ n) (hb : n ≤ 1048576) :
    CallOK Try.prog 32 [.ms id ver 0 n, iV i, .ms id2 ver2 0 1] H (.ms id (ver + 2) 0 (n + 1)) (upd H id ⟨ver + 2, true, lz, 3, 1, List.map cI (inW i w l)⟩) := by
  have hf : ∀ l : List Int, fitRows 1 (List.map cI l) = true := fun l => by
    simp only [fitRows, List.all_eq_true]
    intro r hr
    obtain ⟨x, _, rfl⟩ := List.mem_map.1 hr
    rfl
  have h := CallOK_insertL insLay32 insCall32 (zz := [.int .i64 0]) (by kernel_rfl) rfl (by rw [List.length_map]; exact hn) hH hH2 hne hi (hf l) (hf [w]) (by omega) (by omega)
  unfold inW
  rw [List.map_append, List.map_cons, List.map_take, List.map_drop]
  exact h
theorem dgrow_pure (t : Dt) (n : Int) (outs w : List Int) (hb : Bd t) (ho : outs.length ≤ 1048576) (hw : w.length ≤ 1048576) : PureC Try.prog 9 [(V.agg [(V.sl (List.map cN (t.nd)))]), (iV (n)), (ints outs), (ints w)] (V.tup [(V.agg [(V.sl (List.map cN ((grT t n outs w).nd)))]), (iV (grE t n outs w))]) := by
 refine pW Try.func9 s9_ok fun hB => ?_
 unfold s9
 dsimp only
 have hbn := hb.n
 refine W_r (R_box (i := 4) (n := 0) (m := 1) (cs := [(V.sl (List.map cN (t.nd)))]) rfl (congrArg Blk.ver rfl) rfl rfl rfl (R_alloc (i := 8) (n := 0) (m := 1) rfl (congrArg Blk.ver rfl) rfl (R_mv (@rfl V (iV (0 : Int))) (R_e (W_seq_seq (W_r (R_load_mp (v := (V.agg [(V.sl (List.map cN (t.nd)))])) rfl rfl (lB oB rfl rfl) ?_)))))))
 refine R_callc (evcons rfl evnil) (dvalid_pure t hb) (R_mv (@rfl V (iV (dvE t))) (R_e (W_seq_seq (W_r (R_mv (@rfl V (iV (dvE t))) (R_neq rfl rfl (R_e ?_)))))))
 refine W_seq_if rfl (fun c1 => ?_) fun c1 => ?_
 ·
  refine W_seq_seq (W_r (R_load_mp (v := (V.agg [(V.sl (List.map cN (t.nd)))])) rfl rfl (lB oB rfl rfl) (R_mv (@rfl V (iV (dvE t))) (R_store (vs := [(V.sl (List.map cN (t.nd)))]) (B' := (bk 1 24 1 [[(V.sl (List.map cN (t.nd)))]])) rfl rfl rfl rfl (sB oB rfl rfl rfl rfl rfl) (R_mv (@rfl V (iV (dvE t))) (R_e (W_seq_ret ?_)))))))
  refine RetC_2 (resV_c (u := (V.agg [(V.sl (List.map cN (t.nd)))])) rfl (@rfl Blk (bk 1 24 1 [[(V.sl (List.map cN (t.nd)))]])) (lB oB rfl rfl)) (resV_t (@rfl V (iV (dvE t)))) (fz_agg1 (fz_sl ?_ (fun _ => by simp))) (fz_int ?_)
  · have z9 : grE t n outs w = dvE t := by
      unfold grE; rw [if_pos (by omega)]
    rw [grT_no (by rw [z9]; first | exact (by decide) | omega)]
  · have z9 : grE t n outs w = dvE t := by
      unfold grE; rw [if_pos (by omega)]
    exact z9.symm
 have hv : dvE t = 0 := by omega
 refine W_seq_skip (W_seq_seq (W_r (R_load_mp (v := (V.agg [(V.sl (List.map cN (t.nd)))])) rfl rfl (lB oB rfl rfl) (R_mv (@rfl V (iV (n))) (R_callc (evcons rfl (evcons rfl (evcons rfl evnil))) (dnode_pure t ((n)) false) (R_mv (@rfl V (iV (noE t ((n)) false))) (R_e ?_)))))))
 refine W_seq_seq (W_r (R_mv (@rfl V (iV (noE t ((n)) false))) (R_neq rfl rfl (R_e ?_))))
 refine W_seq_if rfl (fun c2 => ?_) fun c2 => ?_
 ·
  refine W_seq_seq (W_r (R_load_mp (v := (V.agg [(V.sl (List.map cN (t.nd)))])) rfl rfl (lB oB rfl rfl) (R_mv (@rfl V (iV (noE t ((n)) false))) (R_store (vs := [(V.sl (List.map cN (t.nd)))]) (B' := (bk 1 24 1 [[(V.sl (List.map cN (t.nd)))]])) rfl rfl rfl rfl (sB oB rfl rfl rfl rfl rfl) (R_mv (@rfl V (iV (noE t ((n)) false))) (R_e (W_seq_ret ?_)))))))
  refine RetC_2 (resV_c (u := (V.agg [(V.sl (List.map cN (t.nd)))])) rfl (@rfl Blk (bk 1 24 1 [[(V.sl (List.map cN (t.nd)))]])) (lB oB rfl rfl)) (resV_t (@rfl V (iV (noE t ((n)) false)))) (fz_agg1 (fz_sl ?_ (fun _ => by simp))) (fz_int ?_)
  · have z9 : grE t n outs w = noE t n false := by
      unfold grE; rw [if_neg (by omega), if_pos (by omega)]
    rw [grT_no (by rw [z9]; first | exact (by decide) | omega)]
  · have z9 : grE t n outs w = noE t n false := by
      unfold grE; rw [if_neg (by omega), if_pos (by omega)]
    exact z9.symm
 obtain ⟨n0, n1, n2⟩ := no_ok (t := t) (n := n) (b := false) (by omega)
 have nb : n.toNat < t.nd.length := by omega
 have hin := nd_in hv nb n2
 have hkd := hb.kd _ nb
 have hou := hb.ou _ nb
 refine W_seq_skip (W_seq_seq (W_r (R_mv (@rfl V (ints outs)) (R_fld_mp (o' := 0) rfl rfl oB rfl (R_load_mp (v := (V.sl (List.map cN (t.nd)))) rfl rfl (lB oB rfl rfl) (R_mv (@rfl V (iV (n))) (R_idxI (i := (n)) (@rfl V (V.sl (List.map cN (t.nd)))) (@rfl V (iV (n))) (by first | omega | (simp; omega)) (by first | omega | (simp; omega)) rfl ?_)))))))
 refine R_fld_pp (cs' := (List.drop 2 (cN (((nth (t.nd) (n).toNat)))))) rfl rfl (R_load_pp (v := (ints (((nth (t.nd) (n).toNat)).sf))) rfl (by first | rfl | simp [ldV]) (R_callc (evcons rfl (evcons rfl evnil)) (values_pure outs (((nth (t.nd) (n).toNat)).sf)) (R_mv (@rfl V (iV (vlE outs (((nth (t.nd) (n).toNat)).sf)))) (R_e (W_seq_seq (W_r (R_mv (@rfl V (iV (vlE outs (((nth (t.nd) (n).toNat)).sf)))) ?_)))))))
 refine R_neq rfl rfl (R_e ?_)
 refine W_seq_if rfl (fun c3 => ?_) fun c3 => ?_
 ·
  refine W_seq_seq (W_r (R_load_mp (v := (V.agg [(V.sl (List.map cN (t.nd)))])) rfl rfl (lB oB rfl rfl) (R_mv (@rfl V (iV (vlE outs (((nth (t.nd) (n).toNat)).sf)))) (R_store (vs := [(V.sl (List.map cN (t.nd)))]) (B' := (bk 1 24 1 [[(V.sl (List.map cN (t.nd)))]])) rfl rfl rfl rfl (sB oB rfl rfl rfl rfl rfl) (R_mv (@rfl V (iV (vlE outs (((nth (t.nd) (n).toNat)).sf)))) (R_e (W_seq_ret ?_)))))))
  refine RetC_2 (resV_c (u := (V.agg [(V.sl (List.map cN (t.nd)))])) rfl (@rfl Blk (bk 1 24 1 [[(V.sl (List.map cN (t.nd)))]])) (lB oB rfl rfl)) (resV_t (@rfl V (iV (vlE outs (((nth (t.nd) (n).toNat)).sf))))) (fz_agg1 (fz_sl ?_ (fun _ => by simp))) (fz_int ?_)
  · have z9 : grE t n outs w = vlE outs (nth t.nd n.toNat).sf := by
      unfold grE; rw [if_neg (by omega), if_neg (by omega), if_pos (by omega)]
    rw [grT_no (by rw [z9]; first | exact (by decide) | omega)]
  · have z9 : grE t n outs w = vlE outs (nth t.nd n.toNat).sf := by
      unfold grE; rw [if_neg (by omega), if_neg (by omega), if_pos (by omega)]
    exact z9.symm
 refine W_seq_skip (W_r (R_fld_mp (o' := 0) rfl rfl oB rfl (R_load_mp (v := (V.sl (List.map cN (t.nd)))) rfl rfl (lB oB rfl rfl) (R_mv (@rfl V (iV (n))) (R_idxI (i := (n)) (@rfl V (V.sl (List.map cN (t.nd)))) (@rfl V (iV (n))) (by first | omega | (simp; omega)) (by first | omega | (simp; omega)) rfl (R_load_pp (v := (V.agg (cN (((nth (t.nd) (n).toNat)))))) rfl (by first | rfl | simp [ldV]) (R_mv (@rfl V (ints outs)) ?_)))))))
 refine R_callc (evcons rfl (evcons rfl evnil)) (dchild_pure (((nth (t.nd) (n).toNat))) outs hin.srt hou) (R_mv (@rfl V (V.tup [(iV ((lxN (((nth (t.nd) (n).toNat))).ou outs : Nat) : Int)), (V.bool (decide (lxH (((nth (t.nd) (n).toNat))).ou outs)))])) (R_ext (v := (iV ((lxN (((nth (t.nd) (n).toNat))).ou outs : Nat) : Int))) rfl rfl (R_ext (v := (V.bool (decide (lxH (((nth (t.nd) (n).toNat))).ou outs)))) rfl rfl (R_mv (@rfl V (iV ((lxN (((nth (t.nd) (n).toNat))).ou outs : Nat) : Int))) (R_mv (@rfl V (V.bool (decide (lxH (((nth (t.nd) (n).toNat))).ou outs)))) (R_e (W_seq_seq ?_)))))))
 refine W_r (R_mv (@rfl V (V.bool (decide (lxH (((nth (t.nd) (n).toNat))).ou outs)))) (R_e ?_))
 refine W_seq_if rfl (fun c4 => ?_) fun c4 => ?_
 ·
  have d5 : lxH (nth t.nd n.toNat).ou outs := c4
  refine W_seq_seq ?_
  refine W_seq_regc (fun T H => T 8 = (V.mp 8 1 0 0) ∧ T 9 = (iV (7 : Int)) ∧ H 4 = (bk 1 24 1 [[(V.sl (List.map cN (t.nd)))]]) ∧ H 8 = (bk 1 24 1 [[(V.sl (List.map cN (t.nd)))]]) ∧ H 16 = (⟨0, false, false, 0, 0, []⟩ : Blk) ∧ H 82 = (⟨0, false, false, 0, 0, []⟩ : Blk) ∧ H 95 = (⟨0, false, false, 0, 0, []⟩ : Blk) ∧ H 201 = (⟨0, false, false, 0, 0, []⟩ : Blk) ∧ H 202 = (⟨0, false, false, 0, 0, []⟩ : Blk) ∧ H 205 = (⟨0, false, false, 0, 0, []⟩ : Blk) ∧ H 212 = (⟨0, false, false, 0, 0, []⟩ : Blk) ∧ H 228 = (⟨0, false, false, 0, 0, []⟩ : Blk) ∧ H 258 = (⟨0, false, false, 0, 0, []⟩ : Blk) ∧ H 7028 = (⟨0, false, false, 0, 0, []⟩ : Blk) ∧ H 7058 = (⟨0, false, false, 0, 0, []⟩ : Blk) ∧ True) ?_ ?_
  ·
   refine R_load_mp (v := (V.agg [(V.sl (List.map cN (t.nd)))])) rfl rfl (lB oB rfl rfl) (R_store (vs := [(V.sl (List.map cN (t.nd)))]) (B' := (bk 1 24 1 [[(V.sl (List.map cN (t.nd)))]])) rfl rfl rfl rfl (sB oB rfl rfl rfl rfl rfl) (R_mv (@rfl V (iV (7 : Int))) ?_))
   exact R_nil ⟨rfl, rfl, rfl, rfl, rfl, rfl, rfl, rfl, rfl, rfl, rfl, rfl, rfl, rfl, rfl, trivial⟩
  intro T H ⟨t8, t9, h4, h8, h16, h82, h95, h201, h202, h205, h212, h228, h258, h7028, h7058, _⟩
  refine W_seq_ret ?_
  refine RetC_2 (resV_c (u := (V.agg [(V.sl (List.map cN (t.nd)))])) t8 h8 (lB oB rfl rfl)) (resV_t t9) (fz_agg1 (fz_sl ?_ (fun _ => by simp))) (fz_int ?_)
  · have z9 : grE t n outs w = 7 := by
      unfold grE; rw [if_neg (by omega), if_neg (by omega), if_neg (by omega), if_pos d5]
    rw [grT_no (by rw [z9]; first | exact (by decide) | omega)]
  · have z9 : grE t n outs w = 7 := by
      unfold grE; rw [if_neg (by omega), if_neg (by omega), if_neg (by omega), if_pos d5]
    exact z9.symm
 have d5 : ¬lxH (nth t.nd n.toNat).ou outs := c4
 have d6 := lx_le (w := outs) (nth t.nd n.toNat).ou
 refine W_seq_skip (W_seq_seq ?_)
 refine W_seq_regc (fun T H => T 1 = (iV (n)) ∧ T 2 = (ints outs) ∧ T 3 = (ints w) ∧ T 4 = (V.mp 4 1 0 0) ∧ T 8 = (V.mp 8 1 0 0) ∧ T 13 = (iV ((lxN (((nth (t.nd) (n).toNat))).ou outs : Nat) : Int)) ∧ T 15 = (iV (fsE t w)) ∧ H 4 = (bk 1 24 1 [[(V.sl (List.map cN (t.nd)))]]) ∧ H 8 = (bk 1 24 1 [[V.nilsl]]) ∧ H 16 = (⟨0, false, false, 0, 0, []⟩ : Blk) ∧ H 82 = (⟨0, false, false, 0, 0, []⟩ : Blk) ∧ H 95 = (⟨0, false, false, 0, 0, []⟩ : Blk) ∧ H 201 = (⟨0, false, false, 0, 0, []⟩ : Blk) ∧ H 202 = (⟨0, false, false, 0, 0, []⟩ : Blk) ∧ H 205 = (⟨0, false, false, 0, 0, []⟩ : Blk) ∧ H 212 = (⟨0, false, false, 0, 0, []⟩ : Blk) ∧ H 228 = (⟨0, false, false, 0, 0, []⟩ : Blk) ∧ H 258 = (⟨0, false, false, 0, 0, []⟩ : Blk) ∧ H 7028 = (⟨0, false, false, 0, 0, []⟩ : Blk) ∧ H 7058 = (⟨0, false, false, 0, 0, []⟩ : Blk) ∧ True) ?_ ?_
 ·
  refine R_load_mp (v := (V.agg [(V.sl (List.map cN (t.nd)))])) rfl rfl (lB oB rfl rfl) (R_mv (@rfl V (ints w)) (R_callc (evcons rfl (evcons rfl evnil)) (dfresh_pure t w hb) (R_mv (@rfl V (iV (fsE t w))) ?_)))
  exact R_nil ⟨rfl, rfl, rfl, rfl, rfl, rfl, rfl, rfl, rfl, rfl, rfl, rfl, rfl, rfl, rfl, rfl, rfl, rfl, rfl, rfl, trivial⟩
 intro T H ⟨t1, t2, t3, t4, t8, t13, t15, h4, h8, h16, h82, h95, h201, h202, h205, h212, h228, h258, h7028, h7058, _⟩
 refine W_seq_seq (W_r (R_mv t15 (R_neq rfl rfl (R_e ?_))))
 refine W_seq_if rfl (fun c5 => ?_) fun c5 => ?_
 ·
  refine W_seq_seq (W_r (R_load_mp (v := (V.agg [(V.sl (List.map cN (t.nd)))])) t4 h4 (lB oB rfl rfl) (R_mv t15 (R_store (vs := [(V.sl (List.map cN (t.nd)))]) (B' := (bk 1 24 1 [[(V.sl (List.map cN (t.nd)))]])) t8 rfl rfl h8 (sB oB rfl rfl rfl rfl rfl) (R_mv (@rfl V (iV (fsE t w))) (R_e (W_seq_ret ?_)))))))
  refine RetC_2 (resV_c (u := (V.agg [(V.sl (List.map cN (t.nd)))])) t8 (@rfl Blk (bk 1 24 1 [[(V.sl (List.map cN (t.nd)))]])) (lB oB rfl rfl)) (resV_t (@rfl V (iV (fsE t w)))) (fz_agg1 (fz_sl ?_ (fun _ => by simp))) (fz_int ?_)
  · have z9 : grE t n outs w = fsE t w := by
      unfold grE; rw [if_neg (by omega), if_neg (by omega), if_neg (by omega), if_neg d5, if_pos (by omega)]
    rw [grT_no (by rw [z9]; first | exact (by decide) | omega)]
  · have z9 : grE t n outs w = fsE t w := by
      unfold grE; rw [if_neg (by omega), if_neg (by omega), if_neg (by omega), if_neg d5, if_pos (by omega)]
    exact z9.symm
 refine W_seq_skip (W_seq_seq (W_r (R_fld_mp (o' := 0) t4 h4 oB rfl (R_load_mp (v := (V.sl (List.map cN (t.nd)))) rfl h4 (lB oB rfl rfl) (R_len rfl (R_geq rfl rfl (R_e ?_)))))))
 refine W_seq_if rfl (fun c6 => ?_) fun c6 => ?_
 ·
  refine W_seq_seq (W_r (R_load_mp (v := (V.agg [(V.sl (List.map cN (t.nd)))])) t4 h4 (lB oB rfl rfl) (R_store (vs := [(V.sl (List.map cN (t.nd)))]) (B' := (bk 1 24 1 [[(V.sl (List.map cN (t.nd)))]])) t8 rfl rfl h8 (sB oB rfl rfl rfl rfl rfl) (R_mv (@rfl V (iV (11 : Int))) (R_e (W_seq_ret ?_))))))
  refine RetC_2 (resV_c (u := (V.agg [(V.sl (List.map cN (t.nd)))])) t8 (@rfl Blk (bk 1 24 1 [[(V.sl (List.map cN (t.nd)))]])) (lB oB rfl rfl)) (resV_t (@rfl V (iV (11 : Int)))) (fz_agg1 (fz_sl ?_ (fun _ => by simp))) (fz_int ?_)
  · have z9 : grE t n outs w = 11 := by
      unfold grE; rw [if_neg (by omega), if_neg (by omega), if_neg (by omega), if_neg d5, if_neg (by omega), if_pos (by omega)]
    rw [grT_no (by rw [z9]; first | exact (by decide) | omega)]
  · have z9 : grE t n outs w = 11 := by
      unfold grE; rw [if_neg (by omega), if_neg (by omega), if_neg (by omega), if_neg d5, if_neg (by omega), if_pos (by omega)]
    exact z9.symm
 refine W_seq_skip (W_r (R_load_mp (v := (V.agg [(V.sl (List.map cN (t.nd)))])) t4 h4 (lB oB rfl rfl) (R_callE (evcons rfl evnil) (copiedX_E t n.toNat 0 0 0 0 0 0 0 0 _ nb hb (congrArg Blk.ver h201) (congrArg Blk.ver h202) (congrArg Blk.ver h205) (congrArg Blk.ver h212) (congrArg Blk.ver h228) ⟨congrArg Blk.ver h258, congrArg Blk.live h258⟩ (congrArg Blk.ver h7028) ⟨congrArg Blk.ver h7058, congrArg Blk.live h7058⟩) (R_alloc (i := 16) (n := 0) (m := 1) rfl (congrArg Blk.ver h16) rfl (R_store (vs := [(V.ms 212 1 0 (t.nd.length))]) (B' := (bk 1 24 1 [[(V.ms 212 1 0 (t.nd.length))]])) rfl rfl rfl rfl (sB oB rfl rfl rfl rfl rfl) (R_e (W_r ?_)))))))
 refine R_fld_mp (o' := 0) rfl rfl oB rfl (R_load_mp (v := (V.ms 212 1 0 (t.nd.length))) rfl rfl (lB oB rfl rfl) (R_mv t1 (R_idxI_ms0 (i := (n)) (@rfl V (V.ms 212 1 0 (t.nd.length))) (@rfl V (iV (n))) (@rfl Blk (bk 1 41 5 ((List.map cN (t.nd)).set n.toNat [(V.bool ((nth t.nd n.toNat).lf)), (ints (cat [(nth t.nd n.toNat).ac])), (ints (cat [(nth t.nd n.toNat).sf])), (V.ms 7028 (0 + 1 + (nth t.nd n.toNat).ou.length) 0 ((nth t.nd n.toNat).ou.length)), (V.ms 7058 3 0 ((nth t.nd n.toNat).kd.length))]))) oB rfl (by first | omega | (simp; omega)) (by first | omega | (simp; omega)) (R_mv (@rfl V (V.mp 212 1 (((n)).toNat) 0)) (R_e (W_d (by exact (lateC (congrArg Blk.live h82) lateN)) (R_mv (@rfl V (V.mp 212 1 (((n)).toNat) 0)) ?_)))))))
 refine R_mv (@rfl V (V.mp 212 1 (((n)).toNat) 0)) (R_nilck_mp rfl (@rfl Blk (bk 1 41 5 ((List.map cN (t.nd)).set n.toNat [(V.bool ((nth t.nd n.toNat).lf)), (ints (cat [(nth t.nd n.toNat).ac])), (ints (cat [(nth t.nd n.toNat).sf])), (V.ms 7028 (0 + 1 + (nth t.nd n.toNat).ou.length) 0 ((nth t.nd n.toNat).ou.length)), (V.ms 7058 3 0 ((nth t.nd n.toNat).kd.length))]))) oB (R_fld_mp (o' := 3) rfl (@rfl Blk (bk 1 41 5 ((List.map cN (t.nd)).set n.toNat [(V.bool ((nth t.nd n.toNat).lf)), (ints (cat [(nth t.nd n.toNat).ac])), (ints (cat [(nth t.nd n.toNat).sf])), (V.ms 7028 (0 + 1 + (nth t.nd n.toNat).ou.length) 0 ((nth t.nd n.toNat).ou.length)), (V.ms 7058 3 0 ((nth t.nd n.toNat).kd.length))]))) oB rfl (R_load_mp (v := (V.ms 7028 (0 + 1 + (nth t.nd n.toNat).ou.length) 0 ((nth t.nd n.toNat).ou.length))) rfl (@rfl Blk (bk 1 41 5 ((List.map cN (t.nd)).set n.toNat [(V.bool ((nth t.nd n.toNat).lf)), (ints (cat [(nth t.nd n.toNat).ac])), (ints (cat [(nth t.nd n.toNat).sf])), (V.ms 7028 (0 + 1 + (nth t.nd n.toNat).ou.length) 0 ((nth t.nd n.toNat).ou.length)), (V.ms 7058 3 0 ((nth t.nd n.toNat).kd.length))]))) (ldB_setr (by first | omega | (simp; omega)) (by first | rfl | simp [ldV, V.one])) (R_mv t13 (R_mv t2 (R_bslice (qs := [(0, (ints outs))]) (rows := [[(ints outs)]]) (mcons (congrArg (fun v => (0, v)) rfl) rfl) rfl (R_callc (evcons rfl evnil) (pjoin_pure ([outs]) (by simp only [cat, List.append_nil]; omega)) ?_)))))))
 refine R_bslice_own (i := 82) (n := 0) (qs := [(0, (ints (cat ([outs]))))]) (rows := [[(ints (cat ([outs])))]]) rfl (congrArg Blk.ver h82) (mcons (congrArg (fun v => (0, v)) rfl) rfl) rfl (R_callE (evcons rfl (evcons rfl (evcons rfl evnil))) (insertcL (l := ((nth t.nd n.toNat).ou)) (w := (cat ([outs]))) (by first | omega | (simp; omega)) (@rfl Blk (bk (0 + 1 + (nth t.nd n.toNat).ou.length) 25 1 (List.map cL ((nth t.nd n.toNat).ou)))) (show _ = (bk 1 25 1 (List.map cL ([cat ([outs])]))) from rfl) (by decide) d6 hou) (R_nilck_mp rfl (@rfl Blk (bk 1 41 5 ((List.map cN (t.nd)).set n.toNat [(V.bool ((nth t.nd n.toNat).lf)), (ints (cat [(nth t.nd n.toNat).ac])), (ints (cat [(nth t.nd n.toNat).sf])), (V.ms 7028 (0 + 1 + (nth t.nd n.toNat).ou.length) 0 ((nth t.nd n.toNat).ou.length)), (V.ms 7058 3 0 ((nth t.nd n.toNat).kd.length))]))) oB (R_fld_mp (o' := 3) rfl (@rfl Blk (bk 1 41 5 ((List.map cN (t.nd)).set n.toNat [(V.bool ((nth t.nd n.toNat).lf)), (ints (cat [(nth t.nd n.toNat).ac])), (ints (cat [(nth t.nd n.toNat).sf])), (V.ms 7028 (0 + 1 + (nth t.nd n.toNat).ou.length) 0 ((nth t.nd n.toNat).ou.length)), (V.ms 7058 3 0 ((nth t.nd n.toNat).kd.length))]))) oB rfl (R_store (vs := [(V.ms 7028 ((0 + 1 + (nth t.nd n.toNat).ou.length) + 2) 0 (((nth t.nd n.toNat).ou.length) + 1))]) (B' := (bk 1 41 5 ((List.map cN (t.nd)).set n.toNat [(V.bool ((nth t.nd n.toNat).lf)), (ints (cat [(nth t.nd n.toNat).ac])), (ints (cat [(nth t.nd n.toNat).sf])), (V.ms 7028 ((0 + 1 + (nth t.nd n.toNat).ou.length) + 2) 0 (((nth t.nd n.toNat).ou.length) + 1)), (V.ms 7058 3 0 ((nth t.nd n.toNat).kd.length))]))) rfl rfl rfl (@rfl Blk (bk 1 41 5 ((List.map cN (t.nd)).set n.toNat [(V.bool ((nth t.nd n.toNat).lf)), (ints (cat [(nth t.nd n.toNat).ac])), (ints (cat [(nth t.nd n.toNat).sf])), (V.ms 7028 (0 + 1 + (nth t.nd n.toNat).ou.length) 0 ((nth t.nd n.toNat).ou.length)), (V.ms 7058 3 0 ((nth t.nd n.toNat).kd.length))]))) (stB_setr (by first | omega | (simp; omega)) rfl rfl (by simp)) (R_e ?_)))))
 refine W_seq_dg (fun T H => T 3 = (ints w) ∧ T 8 = (V.mp 8 1 0 0) ∧ T 16 = (V.mp 16 1 0 0) ∧ H 4 = (bk 1 24 1 [[(V.sl (List.map cN (t.nd)))]]) ∧ H 8 = (bk 1 24 1 [[V.nilsl]]) ∧ H 16 = (bk 1 24 1 [[(V.ms 212 1 0 (t.nd.length))]]) ∧ H 82 = (bk 1 25 1 [[(ints (cat ([outs])))]]) ∧ H 95 = (bk 1 3 1 [[(iV ((t.nd.length : Nat) : Int))]]) ∧ H 201 = (⟨1, false, false, 0, 0, []⟩ : Blk) ∧ H 202 = (⟨1, false, false, 0, 0, []⟩ : Blk) ∧ H 205 = (⟨0 + t.nd.length, false, false, 0, 0, []⟩ : Blk) ∧ H 212 = (bk 1 41 5 ((List.map cN (t.nd)).set n.toNat [(V.bool ((nth t.nd n.toNat).lf)), (ints (cat [(nth t.nd n.toNat).ac])), (ints (cat [(nth t.nd n.toNat).sf])), (V.ms 7028 ((0 + 1 + (nth t.nd n.toNat).ou.length) + 2) 0 (((nth t.nd n.toNat).ou.length) + 1)), (V.ms 7058 5 0 (((nth t.nd n.toNat).kd.length) + 1))])) ∧ H 228 = (⟨0 + t.nd.length * 1048578, false, false, 0, 0, []⟩ : Blk) ∧ H 258 = (⟨0 + 3 * t.nd.length, false, false, 0, 0, []⟩ : Blk) ∧ H 7028 = (bk ((0 + 1 + (nth t.nd n.toNat).ou.length) + 2) 25 1 (List.map cL (inW (lxN (((nth (t.nd) (n).toNat))).ou outs) (cat ([outs])) ((nth t.nd n.toNat).ou)))) ∧ H 7058 = (bz 5 3 1 (List.map cI (inW (lxN (((nth (t.nd) (n).toNat))).ou outs) (((t.nd.length : Nat) : Int)) ((nth t.nd n.toNat).kd)))) ∧ True) (by exact (lateC (congrArg Blk.live h95) lateN)) ?_ ?_
 ·
  refine R_mv (@rfl V (V.mp 212 1 (((n)).toNat) 0)) (R_mv (@rfl V (V.mp 212 1 (((n)).toNat) 0)) (R_nilck_mp rfl (@rfl Blk (bk 1 41 5 ((List.map cN (t.nd)).set n.toNat [(V.bool ((nth t.nd n.toNat).lf)), (ints (cat [(nth t.nd n.toNat).ac])), (ints (cat [(nth t.nd n.toNat).sf])), (V.ms 7028 ((0 + 1 + (nth t.nd n.toNat).ou.length) + 2) 0 (((nth t.nd n.toNat).ou.length) + 1)), (V.ms 7058 3 0 ((nth t.nd n.toNat).kd.length))]))) oB (R_fld_mp (o' := 4) rfl (@rfl Blk (bk 1 41 5 ((List.map cN (t.nd)).set n.toNat [(V.bool ((nth t.nd n.toNat).lf)), (ints (cat [(nth t.nd n.toNat).ac])), (ints (cat [(nth t.nd n.toNat).sf])), (V.ms 7028 ((0 + 1 + (nth t.nd n.toNat).ou.length) + 2) 0 (((nth t.nd n.toNat).ou.length) + 1)), (V.ms 7058 3 0 ((nth t.nd n.toNat).kd.length))]))) oB rfl (R_load_mp (v := (V.ms 7058 3 0 ((nth t.nd n.toNat).kd.length))) rfl (@rfl Blk (bk 1 41 5 ((List.map cN (t.nd)).set n.toNat [(V.bool ((nth t.nd n.toNat).lf)), (ints (cat [(nth t.nd n.toNat).ac])), (ints (cat [(nth t.nd n.toNat).sf])), (V.ms 7028 ((0 + 1 + (nth t.nd n.toNat).ou.length) + 2) 0 (((nth t.nd n.toNat).ou.length) + 1)), (V.ms 7058 3 0 ((nth t.nd n.toNat).kd.length))]))) (ldB_setr (by first | omega | (simp; omega)) (by first | rfl | simp [ldV, V.one])) (R_mv t13 (R_fld_mp (o' := 0) t4 h4 oB rfl (R_load_mp (v := (V.sl (List.map cN (t.nd)))) rfl h4 (lB oB rfl rfl) ?_)))))))
  refine R_len rfl (R_bslice_own (i := 95) (n := 0) (qs := [(0, (iV ((t.nd.length : Nat) : Int)))]) (rows := [[(iV ((t.nd.length : Nat) : Int))]]) rfl (congrArg Blk.ver h95) (mcons (congrArg (fun v => (0, v)) rfl) rfl) rfl (R_callE (evcons rfl (evcons rfl (evcons rfl evnil))) (insertcI (l := ((nth t.nd n.toNat).kd)) (w := (((t.nd.length : Nat) : Int))) (by first | omega | (simp; omega)) (@rfl Blk (bz 3 3 1 (List.map cI ((nth t.nd n.toNat).kd)))) (show _ = (bk 1 3 1 (List.map cI ([((t.nd.length : Nat) : Int)]))) from rfl) (by decide) (by have := hin.len; omega) hkd) (R_nilck_mp rfl (@rfl Blk (bk 1 41 5 ((List.map cN (t.nd)).set n.toNat [(V.bool ((nth t.nd n.toNat).lf)), (ints (cat [(nth t.nd n.toNat).ac])), (ints (cat [(nth t.nd n.toNat).sf])), (V.ms 7028 ((0 + 1 + (nth t.nd n.toNat).ou.length) + 2) 0 (((nth t.nd n.toNat).ou.length) + 1)), (V.ms 7058 3 0 ((nth t.nd n.toNat).kd.length))]))) oB (R_fld_mp (o' := 4) rfl (@rfl Blk (bk 1 41 5 ((List.map cN (t.nd)).set n.toNat [(V.bool ((nth t.nd n.toNat).lf)), (ints (cat [(nth t.nd n.toNat).ac])), (ints (cat [(nth t.nd n.toNat).sf])), (V.ms 7028 ((0 + 1 + (nth t.nd n.toNat).ou.length) + 2) 0 (((nth t.nd n.toNat).ou.length) + 1)), (V.ms 7058 3 0 ((nth t.nd n.toNat).kd.length))]))) oB rfl (R_store (vs := [(V.ms 7058 5 0 (((nth t.nd n.toNat).kd.length) + 1))]) (B' := (bk 1 41 5 ((List.map cN (t.nd)).set n.toNat [(V.bool ((nth t.nd n.toNat).lf)), (ints (cat [(nth t.nd n.toNat).ac])), (ints (cat [(nth t.nd n.toNat).sf])), (V.ms 7028 ((0 + 1 + (nth t.nd n.toNat).ou.length) + 2) 0 (((nth t.nd n.toNat).ou.length) + 1)), (V.ms 7058 5 0 (((nth t.nd n.toNat).kd.length) + 1))]))) rfl rfl rfl (@rfl Blk (bk 1 41 5 ((List.map cN (t.nd)).set n.toNat [(V.bool ((nth t.nd n.toNat).lf)), (ints (cat [(nth t.nd n.toNat).ac])), (ints (cat [(nth t.nd n.toNat).sf])), (V.ms 7028 ((0 + 1 + (nth t.nd n.toNat).ou.length) + 2) 0 (((nth t.nd n.toNat).ou.length) + 1)), (V.ms 7058 3 0 ((nth t.nd n.toNat).kd.length))]))) (stB_setr (by first | omega | (simp; omega)) rfl rfl (by simp)) ?_)))))
  exact R_nil ⟨t3, t8, rfl, h4, h8, rfl, rfl, rfl, rfl, rfl, rfl, rfl, rfl, rfl, rfl, rfl, trivial⟩
 intro T H ⟨t3, t8, t16, h4, h8, h16, h82, h95, h201, h202, h205, h212, h228, h258, h7028, h7058, _⟩
 refine frz_cellg (id := 7028) (id2 := 212) (rows := (List.map cN (t.nd))) (i := n.toNat) (off := 3) (r := [(V.bool ((nth t.nd n.toNat).lf)), (ints (cat [(nth t.nd n.toNat).ac])), (ints (cat [(nth t.nd n.toNat).sf])), (V.ms 7028 ((0 + 1 + (nth t.nd n.toNat).ou.length) + 2) 0 (((nth t.nd n.toNat).ou.length) + 1)), (V.ms 7058 5 0 (((nth t.nd n.toNat).kd.length) + 1))]) (m := (inW (lxN (((nth (t.nd) (n).toNat))).ou outs) (cat ([outs])) ((nth t.nd n.toNat).ou))) (g := cL) (by decide) h7028 h212 (by first | omega | (simp; omega)) (by first | rfl | exact (inW_len _ _ _).symm | simp | omega) rfl (fork_ (R := fun T H => T 3 = (ints w) ∧ T 8 = (V.mp 8 1 0 0) ∧ T 16 = (V.mp 16 1 0 0) ∧ H 4 = (bk 1 24 1 [[(V.sl (List.map cN (t.nd)))]]) ∧ H 8 = (bk 1 24 1 [[V.nilsl]]) ∧ H 16 = (bk 1 24 1 [[(V.ms 212 1 0 (t.nd.length))]]) ∧ H 82 = (bk 1 25 1 [[(ints (cat ([outs])))]]) ∧ H 95 = (bk 1 3 1 [[(iV ((t.nd.length : Nat) : Int))]]) ∧ H 201 = (⟨1, false, false, 0, 0, []⟩ : Blk) ∧ H 202 = (⟨1, false, false, 0, 0, []⟩ : Blk) ∧ H 205 = (⟨0 + t.nd.length, false, false, 0, 0, []⟩ : Blk) ∧ H 212 = (bk 1 41 5 ((List.map cN (t.nd)).set n.toNat [(V.bool ((nth t.nd n.toNat).lf)), (ints (cat [(nth t.nd n.toNat).ac])), (ints (cat [(nth t.nd n.toNat).sf])), (intss (inW (lxN (((nth (t.nd) (n).toNat))).ou outs) (cat ([outs])) ((nth t.nd n.toNat).ou))), (V.ms 7058 5 0 (((nth t.nd n.toNat).kd.length) + 1))])) ∧ H 228 = (⟨0 + t.nd.length * 1048578, false, false, 0, 0, []⟩ : Blk) ∧ H 258 = (⟨0 + 3 * t.nd.length, false, false, 0, 0, []⟩ : Blk) ∧ ((H 7028).ver = (0 + 1 + (nth t.nd n.toNat).ou.length) + 2 ∧ (H 7028).live = false) ∧ H 7058 = (bz 5 3 1 (List.map cI (inW (lxN (((nth (t.nd) (n).toNat))).ou outs) (((t.nd.length : Nat) : Int)) ((nth t.nd n.toNat).kd)))) ∧ True) ⟨(fzT_q t3 rfl), (fzT_q t8 rfl), (fzT_q t16 rfl), ((upd_ne _ _ (by decide)).trans (kill_ne h4 (by decide))), ((upd_ne _ _ (by decide)).trans (kill_ne h8 (by decide))), ((upd_ne _ _ (by decide)).trans (kill_ne h16 (by decide))), ((upd_ne _ _ (by decide)).trans (kill_ne h82 (by decide))), ((upd_ne _ _ (by decide)).trans (kill_ne h95 (by decide))), ((upd_ne _ _ (by decide)).trans (kill_ne h201 (by decide))), ((upd_ne _ _ (by decide)).trans (kill_ne h202 (by decide))), ((upd_ne _ _ (by decide)).trans (kill_ne h205 (by decide))), (upd_same _ _ _), ((upd_ne _ _ (by decide)).trans (kill_ne h228 (by decide))), ((upd_ne _ _ (by decide)).trans (kill_ne h258 (by decide))), ⟨(congrArg Blk.ver (upd_ne _ _ (by decide))).trans (kill_self (congrArg Blk.ver h7028)).1, (congrArg Blk.live (upd_ne _ _ (by decide))).trans (kill_self (congrArg Blk.ver h7028)).2⟩, ((upd_ne _ _ (by decide)).trans (kill_ne h7058 (by decide))), trivial⟩ ?_)
 intro T H ⟨t3, t8, t16, h4, h8, h16, h82, h95, h201, h202, h205, h212, h228, h258, h7028, h7058, _⟩
 refine frz_cellg (id := 7058) (id2 := 212) (rows := (List.map cN (t.nd))) (i := n.toNat) (off := 4) (r := [(V.bool ((nth t.nd n.toNat).lf)), (ints (cat [(nth t.nd n.toNat).ac])), (ints (cat [(nth t.nd n.toNat).sf])), (intss (inW (lxN (((nth (t.nd) (n).toNat))).ou outs) (cat ([outs])) ((nth t.nd n.toNat).ou))), (V.ms 7058 5 0 (((nth t.nd n.toNat).kd.length) + 1))]) (m := (inW (lxN (((nth (t.nd) (n).toNat))).ou outs) (((t.nd.length : Nat) : Int)) ((nth t.nd n.toNat).kd))) (g := cI) (by decide) h7058 h212 (by first | omega | (simp; omega)) (by first | rfl | exact (inW_len _ _ _).symm | simp | omega) rfl (.done ?_)
 refine fork_ (R := fun T H => T 3 = (ints w) ∧ T 8 = (V.mp 8 1 0 0) ∧ T 16 = (V.mp 16 1 0 0) ∧ H 4 = (bk 1 24 1 [[(V.sl (List.map cN (t.nd)))]]) ∧ H 8 = (bk 1 24 1 [[V.nilsl]]) ∧ H 16 = (bk 1 24 1 [[(V.ms 212 1 0 (t.nd.length))]]) ∧ H 82 = (bk 1 25 1 [[(ints (cat ([outs])))]]) ∧ H 95 = (bk 1 3 1 [[(iV ((t.nd.length : Nat) : Int))]]) ∧ H 201 = (⟨1, false, false, 0, 0, []⟩ : Blk) ∧ H 202 = (⟨1, false, false, 0, 0, []⟩ : Blk) ∧ H 205 = (⟨0 + t.nd.length, false, false, 0, 0, []⟩ : Blk) ∧ H 212 = (bk 1 41 5 (List.map cN ((t.nd).set n.toNat ((⟨(nth t.nd n.toNat).lf, cat [(nth t.nd n.toNat).ac], cat [(nth t.nd n.toNat).sf], inW (lxN (((nth (t.nd) (n).toNat))).ou outs) (cat ([outs])) ((nth t.nd n.toNat).ou), inW (lxN (((nth (t.nd) (n).toNat))).ou outs) (((t.nd.length : Nat) : Int)) ((nth t.nd n.toNat).kd)⟩ : Nd))))) ∧ H 228 = (⟨0 + t.nd.length * 1048578, false, false, 0, 0, []⟩ : Blk) ∧ H 258 = (⟨0 + 3 * t.nd.length, false, false, 0, 0, []⟩ : Blk) ∧ ((H 7028).ver = (0 + 1 + (nth t.nd n.toNat).ou.length) + 2 ∧ (H 7028).live = false) ∧ ((H 7058).ver = 5 ∧ (H 7058).live = false) ∧ True) ⟨(fzT_q t3 rfl), (fzT_q t8 rfl), (fzT_q t16 rfl), ((upd_ne _ _ (by decide)).trans (kill_ne h4 (by decide))), ((upd_ne _ _ (by decide)).trans (kill_ne h8 (by decide))), ((upd_ne _ _ (by decide)).trans (kill_ne h16 (by decide))), ((upd_ne _ _ (by decide)).trans (kill_ne h82 (by decide))), ((upd_ne _ _ (by decide)).trans (kill_ne h95 (by decide))), ((upd_ne _ _ (by decide)).trans (kill_ne h201 (by decide))), ((upd_ne _ _ (by decide)).trans (kill_ne h202 (by decide))), ((upd_ne _ _ (by decide)).trans (kill_ne h205 (by decide))), (Eq.trans (upd_same _ _ _) (by first | (rw [List.map_set]; done) | (rw [List.map_set]; rfl))), ((upd_ne _ _ (by decide)).trans (kill_ne h228 (by decide))), ((upd_ne _ _ (by decide)).trans (kill_ne h258 (by decide))), ⟨(congrArg Blk.ver (upd_ne _ _ (by decide))).trans (kill_dead h7028).1, (congrArg Blk.live (upd_ne _ _ (by decide))).trans (kill_dead h7028).2⟩, ⟨(congrArg Blk.ver (upd_ne _ _ (by decide))).trans (kill_self (congrArg Blk.ver h7058)).1, (congrArg Blk.live (upd_ne _ _ (by decide))).trans (kill_self (congrArg Blk.ver h7058)).2⟩, trivial⟩ ?_
 intro T H ⟨t3, t8, t16, h4, h8, h16, h82, h95, h201, h202, h205, h212, h228, h258, h7028, h7058, _⟩
 refine W_seq_g (fun T H => T 8 = (V.mp 8 1 0 0) ∧ T 16 = (V.mp 16 1 0 0) ∧ H 4 = (bk 1 24 1 [[(V.sl (List.map cN (t.nd)))]]) ∧ H 8 = (bk 1 24 1 [[V.nilsl]]) ∧ H 16 = (bk 1 24 1 [[(V.ms 212 2 0 (t.nd.length + 1))]]) ∧ H 82 = (bk 1 25 1 [[(ints (cat ([outs])))]]) ∧ H 95 = (bk 1 3 1 [[(iV ((t.nd.length : Nat) : Int))]]) ∧ H 201 = (⟨1, false, false, 0, 0, []⟩ : Blk) ∧ H 202 = (⟨1, false, false, 0, 0, []⟩ : Blk) ∧ H 205 = (⟨0 + t.nd.length, false, false, 0, 0, []⟩ : Blk) ∧ H 212 = (bk 2 41 5 (List.map cN ((t.nd).set n.toNat ((⟨(nth t.nd n.toNat).lf, cat [(nth t.nd n.toNat).ac], cat [(nth t.nd n.toNat).sf], inW (lxN (((nth (t.nd) (n).toNat))).ou outs) (cat ([outs])) ((nth t.nd n.toNat).ou), inW (lxN (((nth (t.nd) (n).toNat))).ou outs) (((t.nd.length : Nat) : Int)) ((nth t.nd n.toNat).kd)⟩ : Nd))) ++ [[(V.bool true), (ints (cat ([w]))), V.nilsl, V.nilsl, V.nilsl]])) ∧ H 228 = (⟨0 + t.nd.length * 1048578, false, false, 0, 0, []⟩ : Blk) ∧ H 258 = (⟨0 + 3 * t.nd.length, false, false, 0, 0, []⟩ : Blk) ∧ ((H 7028).ver = (0 + 1 + (nth t.nd n.toNat).ou.length) + 2 ∧ (H 7028).live = false) ∧ ((H 7058).ver = 5 ∧ (H 7058).live = false) ∧ True) ?_ ?_
 ·
  refine R_fld_mp (o' := 0) t16 h16 oB rfl (R_load_mp (v := (V.ms 212 1 0 (t.nd.length))) rfl h16 (lB oB rfl rfl) (R_mv t3 (R_bslice (qs := [(0, (ints w))]) (rows := [[(ints w)]]) (mcons (congrArg (fun v => (0, v)) rfl) rfl) rfl (R_callc (evcons rfl evnil) (pjoin_pure ([w]) (by simp only [cat, List.append_nil]; omega)) (R_build (qs := [(0, 1, (V.bool true)), (1, 1, (ints (cat ([w]))))]) (cs := [(V.bool true), (ints (cat ([w]))), V.nilsl, V.nilsl, V.nilsl]) (mcons (congrArg (fun v => (0, 1, v)) rfl) (mcons (congrArg (fun v => (1, 1, v)) rfl) rfl)) rfl (R_bslice (qs := [(0, (V.agg [(V.bool true), (ints (cat ([w]))), V.nilsl, V.nilsl, V.nilsl]))]) (rows := [[(V.bool true), (ints (cat ([w]))), V.nilsl, V.nilsl, V.nilsl]]) (mcons (congrArg (fun v => (0, v)) rfl) rfl) rfl (R_appendN (l := ((t.nd).set n.toNat ((⟨(nth t.nd n.toNat).lf, cat [(nth t.nd n.toNat).ac], cat [(nth t.nd n.toNat).sf], inW (lxN (((nth (t.nd) (n).toNat))).ou outs) (cat ([outs])) ((nth t.nd n.toNat).ou), inW (lxN (((nth (t.nd) (n).toNat))).ou outs) (((t.nd.length : Nat) : Int)) ((nth t.nd n.toNat).kd)⟩ : Nd)))) (f := cN) (@rfl V (V.ms 212 1 0 (t.nd.length))) h212 (by first | rfl | exact (inW_len _ _ _).symm | simp | omega) (@rfl V (V.sl [[(V.bool true), (ints (cat ([w]))), V.nilsl, V.nilsl, V.nilsl]])) (by simp [fitRows, V.one]) (by first | omega | (simp; omega)) (by first | omega | (simp; omega)) ?_)))))))
  refine R_fld_mp (o' := 0) t16 h16 oB rfl (R_store (vs := [(V.ms 212 2 0 (t.nd.length + 1))]) (B' := (bk 1 24 1 [[(V.ms 212 2 0 (t.nd.length + 1))]])) rfl rfl rfl h16 (sB oB rfl rfl rfl rfl rfl) ?_)
  exact R_nil ⟨t8, t16, h4, h8, rfl, h82, h95, h201, h202, h205, rfl, h228, h258, h7028, h7058, trivial⟩
 intro T H ⟨t8, t16, h4, h8, h16, h82, h95, h201, h202, h205, h212, h228, h258, h7028, h7058, _⟩
 refine nza_map (l := ((t.nd).set n.toNat ((⟨(nth t.nd n.toNat).lf, cat [(nth t.nd n.toNat).ac], cat [(nth t.nd n.toNat).sf], inW (lxN (((nth (t.nd) (n).toNat))).ou outs) (cat ([outs])) ((nth t.nd n.toNat).ou), inW (lxN (((nth (t.nd) (n).toNat))).ou outs) (((t.nd.length : Nat) : Int)) ((nth t.nd n.toNat).kd)⟩ : Nd)))) (m := ([(⟨true, cat ([w]), [], [], []⟩ : Nd)])) (f := cN) h212 rfl (.done ?_)
 refine fork_ (R := fun T H => T 8 = (V.mp 8 1 0 0) ∧ T 16 = (V.mp 16 1 0 0) ∧ H 4 = (bk 1 24 1 [[(V.sl (List.map cN (t.nd)))]]) ∧ H 8 = (bk 1 24 1 [[V.nilsl]]) ∧ H 16 = (bk 1 24 1 [[(V.ms 212 2 0 (t.nd.length + 1))]]) ∧ H 82 = (bk 1 25 1 [[(ints (cat ([outs])))]]) ∧ H 95 = (bk 1 3 1 [[(iV ((t.nd.length : Nat) : Int))]]) ∧ H 201 = (⟨1, false, false, 0, 0, []⟩ : Blk) ∧ H 202 = (⟨1, false, false, 0, 0, []⟩ : Blk) ∧ H 205 = (⟨0 + t.nd.length, false, false, 0, 0, []⟩ : Blk) ∧ H 212 = (bk 2 41 5 (List.map cN ((t.nd).set n.toNat ((⟨(nth t.nd n.toNat).lf, cat [(nth t.nd n.toNat).ac], cat [(nth t.nd n.toNat).sf], inW (lxN (((nth (t.nd) (n).toNat))).ou outs) (cat ([outs])) ((nth t.nd n.toNat).ou), inW (lxN (((nth (t.nd) (n).toNat))).ou outs) (((t.nd.length : Nat) : Int)) ((nth t.nd n.toNat).kd)⟩ : Nd)) ++ [(⟨true, cat ([w]), [], [], []⟩ : Nd)]))) ∧ H 228 = (⟨0 + t.nd.length * 1048578, false, false, 0, 0, []⟩ : Blk) ∧ H 258 = (⟨0 + 3 * t.nd.length, false, false, 0, 0, []⟩ : Blk) ∧ ((H 7028).ver = (0 + 1 + (nth t.nd n.toNat).ou.length) + 2 ∧ (H 7028).live = false) ∧ ((H 7058).ver = 5 ∧ (H 7058).live = false) ∧ True) ⟨t8, t16, ((upd_ne _ _ (by decide)).trans h4), ((upd_ne _ _ (by decide)).trans h8), ((upd_ne _ _ (by decide)).trans h16), ((upd_ne _ _ (by decide)).trans h82), ((upd_ne _ _ (by decide)).trans h95), ((upd_ne _ _ (by decide)).trans h201), ((upd_ne _ _ (by decide)).trans h202), ((upd_ne _ _ (by decide)).trans h205), (upd_same _ _ _), ((upd_ne _ _ (by decide)).trans h228), ((upd_ne _ _ (by decide)).trans h258), ⟨(congrArg Blk.ver (upd_ne _ _ (by decide))).trans (h7028).1, (congrArg Blk.live (upd_ne _ _ (by decide))).trans (h7028).2⟩, ⟨(congrArg Blk.ver (upd_ne _ _ (by decide))).trans (h7058).1, (congrArg Blk.live (upd_ne _ _ (by decide))).trans (h7058).2⟩, trivial⟩ ?_
 intro T H ⟨t8, t16, h4, h8, h16, h82, h95, h201, h202, h205, h212, h228, h258, h7028, h7058, _⟩
 refine W_r (R_load_mp (v := (V.agg [(V.ms 212 2 0 (t.nd.length + 1))])) t16 h16 (lB oB rfl rfl) (R_store (vs := [(V.ms 212 2 0 (t.nd.length + 1))]) (B' := (bk 1 24 1 [[(V.ms 212 2 0 (t.nd.length + 1))]])) t8 rfl rfl h8 (sB oB rfl rfl rfl rfl rfl) (R_mv (@rfl V (iV (0 : Int))) (R_e (W_ret ?_)))))
 refine RetC_2 (resV_c (u := (V.agg [(V.ms 212 2 0 (t.nd.length + 1))])) t8 (@rfl Blk (bk 1 24 1 [[(V.ms 212 2 0 (t.nd.length + 1))]])) (lB oB rfl rfl)) (resV_t (@rfl V (iV (0 : Int)))) (fz_agg1 (fz_ms h212 (by first | rfl | simp) (l := ((t.nd).set n.toNat ((⟨(nth t.nd n.toNat).lf, cat [(nth t.nd n.toNat).ac], cat [(nth t.nd n.toNat).sf], inW (lxN (((nth (t.nd) (n).toNat))).ou outs) (cat ([outs])) ((nth t.nd n.toNat).ou), inW (lxN (((nth (t.nd) (n).toNat))).ou outs) (((t.nd.length : Nat) : Int)) ((nth t.nd n.toNat).kd)⟩ : Nd)) ++ [(⟨true, cat ([w]), [], [], []⟩ : Nd)])) rfl (by first | rfl | exact (inW_len _ _ _).symm | simp | omega) (fun _ => by simp) ?_)) (fz_int ?_)
 · have z9 : grE t n outs w = 0 := by
     unfold grE; rw [if_neg (by omega), if_neg (by omega), if_neg (by omega), if_neg d5, if_neg (by omega), if_neg (by omega)]
   rw [grT_yes z9]; simp [cat1, lfN, gNd]
 · have z9 : grE t n outs w = 0 := by
     unfold grE; rw [if_neg (by omega), if_neg (by omega), if_neg (by omega), if_neg d5, if_neg (by omega), if_neg (by omega)]
   exact z9.symm
def r11_1 : List SO := [
 sO 7 (.mv (.t 1)),
 sO 8 (.len (.t 7)),
 sO 9 (.mv (.t 0)),
 sO 10 (.len (.t 9)),
 sO 11 (.bin .add (.t 10) (.c (.int .i64 1))),
 sO 12 (.bin .eql (.t 8) (.t 11)),
 sO 13 (.mv (.t 12)),
 ⟨some (13, true), some 14, .mv (.t 1)⟩,
 ⟨some (13, true), some 15, .mv (.t 0)⟩,
 ⟨some (13, true), some 16, .mv (.t 2)⟩,
 ⟨some (13, true), some 17, .bslice 25 1 false [.nilsl] 1 [(0, .t 16)]⟩,
 ⟨some (13, true), some 18, .bslice 31 1 false [.nilsl] 2 [(0, .t 15), (1, .t 17)]⟩,
 ⟨some (13, true), some 19, .call false 36 [.t 18]⟩,
 ⟨some (13, true), some 20, .call false 18 [.t 14, .t 19]⟩,
 sO 21 (.pick (.t 13) (.t 20) (.c (.bool false))),
 sO 6 (.mv (.t 21))]
def s11 : SF := ⟨22, [.tmp 6], .seq (.reg [sO 6 (.mv (.c (.bool false)))]) (.seq (.reg r11_1) (.ret))⟩
theorem s11_ok : slimF Try.prog ⟨[22, 25, 26, 31, 32, 67, 68, 69, 73, 79, 81, 86], []⟩ Try.f11 = some s11 := by kernel_rfl
theorem rcommon_pure (a b : List Int) : PureC Try.prog 66 [(ints a), (ints b)] (iV ((cmn a b : Nat) : Int)) := by
 refine pW Try.func66 s66_ok fun hB => ?_
 unfold s66
 dsimp only
 refine W_r (R_mv (@rfl V (iV (0 : Int))) (R_e (W_r (R_mv (@rfl V (iV (0 : Int))) (R_e (W_seq_blockg fun Q1 n1 x1 y1 z1 => ?_))))))
 refine W_loop (fun mm T H => ∃ (k : Nat), mm = a.length - k ∧ T 0 = (ints a) ∧ T 1 = (ints b) ∧ T 5 = (iV ((k : Nat) : Int)) ∧ (k ≤ a.length) ∧ (k ≤ cmn a b)) ?_ ?_
 ·
  refine ⟨_, 0, rfl, rfl, rfl, (Eq.trans (@rfl V (iV (0 : Int))) rfl), ?_, ?_⟩
  · omega
  · exact Nat.zero_le _
 intro mm T H ⟨k, hmm, t0, t1, t5, hk, hc⟩ Q2 p12 p22 p32
 unfold b66_0
 refine W_seq_seq (W_r (R_mv t5 (R_mv t0 (R_len rfl (R_lss rfl rfl (R_mv (@rfl V (V.bool (decide (((k : Nat) : Int) < ((a.length : Nat) : Int))))) ?_))))))
 refine Ops_seg 5 (fun T H => T 0 = (ints a) ∧ T 1 = (ints b) ∧ T 5 = (iV ((k : Nat) : Int)) ∧ T 15 = (V.bool (decide ((((k : Nat) : Int) < ((a.length : Nat) : Int)) ∧ (((k : Nat) : Int) < ((b.length : Nat) : Int))))) ∧ True) ?_ ?_
 ·
  by_cases g3 : ((k : Nat) : Int) < ((a.length : Nat) : Int)
  ·
   refine G_yes (edT g3 rfl) (R_mv t5 (G_yes (edT g3 rfl) (R_mv t1 (G_yes (edT g3 rfl) (R_len rfl (G_yes (edT g3 rfl) (R_lss rfl rfl ?_)))))))
   refine R_pickT (edT g3 rfl) rfl ?_
   exact ⟨t0, t1, t5, (dec_andT g3), trivial⟩
  ·
   refine G_n (edF g3 rfl) (G_n (edF g3 rfl) (G_n (edF g3 rfl) (G_n (edF g3 rfl) (R_pickF (edF g3 rfl) rfl ?_))))
   exact ⟨t0, t1, t5, (dec_andF g3), trivial⟩
 intro T H ⟨t0, t1, t5, t15, _⟩
 refine R_mv t15 ?_
 refine Ops_seg 10 (fun T H => T 0 = (ints a) ∧ T 1 = (ints b) ∧ T 5 = (iV ((k : Nat) : Int)) ∧ T 26 = (V.bool (decide (((((k : Nat) : Int) < ((a.length : Nat) : Int)) ∧ (((k : Nat) : Int) < ((b.length : Nat) : Int))) ∧ (((nth (a) (k))) = ((nth (b) (k))))))) ∧ True) ?_ ?_
 ·
  by_cases g4 : (((k : Nat) : Int) < ((a.length : Nat) : Int)) ∧ (((k : Nat) : Int) < ((b.length : Nat) : Int))
  ·
   refine G_yes (edT g4 rfl) (R_mv t0 (G_yes (edT g4 rfl) (R_mv t5 (G_yes (edT g4 rfl) (R_idx (i := k) (@rfl V (ints a)) (@rfl V (iV ((k : Nat) : Int))) (by omega) rfl (G_yes (edT g4 rfl) (R_load_pp (v := (iV ((nth (a) (k))))) rfl (by first | rfl | simp [ldV]) ?_)))))))
   refine G_yes (edT g4 rfl) (R_mv t1 (G_yes (edT g4 rfl) (R_mv t5 (G_yes (edT g4 rfl) (R_idx (i := k) (@rfl V (ints b)) (@rfl V (iV ((k : Nat) : Int))) (by omega) rfl (G_yes (edT g4 rfl) (R_load_pp (v := (iV ((nth (b) (k))))) rfl (by first | rfl | simp [ldV]) ?_)))))))
   refine G_yes (edT g4 rfl) (R_eql rfl rfl (R_pickT (edT g4 rfl) rfl ?_))
   exact ⟨t0, t1, t5, (dec_andT g4), trivial⟩
  ·
   refine G_n (edF g4 rfl) (G_n (edF g4 rfl) (G_n (edF g4 rfl) (G_n (edF g4 rfl) (G_n (edF g4 rfl) (G_n (edF g4 rfl) (G_n (edF g4 rfl) (G_n (edF g4 rfl) ?_)))))))
   refine G_n (edF g4 rfl) (R_pickF (edF g4 rfl) rfl ?_)
   exact ⟨t0, t1, t5, (dec_andF g4), trivial⟩
 intro T H ⟨t0, t1, t5, t26, _⟩
 refine R_e ?_
 refine W_seq_if t26 (fun c5 => ?_) fun c5 => ?_
 ·
  refine W_seq_skip (W_block fun Q6 n6 x6 y6 z6 => (W_t (R_mv t5 (R_addN rfl (@rfl V (iV ((1 : Nat) : Int))) (by omega) (R_mv (@rfl V (iV ((k + 1 : Nat) : Int))) (R_e (n6 _ _ ?_)))))))
  refine p12 _ _ _ ?_ ⟨(k + 1), rfl, t0, t1, (Eq.trans (@rfl V (iV ((k + 1 : Nat) : Int))) (by first | rfl | simp)), ?_, ?_⟩
  · omega
  · omega
  · exact cmn_next hc (by omega) (by omega) (by omega)
 refine W_seq_exit (p32 _ _ _ (x1 _ _ (.done (W_r (R_mv t5 (R_mv (@rfl V (iV ((k : Nat) : Int))) (R_e ?_)))))))
 refine W_ret ?_
 refine Ret_1 (@rfl V (iV ((k : Nat) : Int))) (fz_int ?_)
 · rw [cmn_at hc (by omega)]
theorem rsame1_pure (a b : List Int) : PureC Try.prog 42 [(ints a), (ints b)] (V.bool (decide (a = b))) := by
 refine pW Try.func42 s42_ok fun hB => ?_
 unfold s42
 dsimp only
 refine W_r (R_mv (@rfl V (V.bool false)) (R_e (W_r (R_mv (@rfl V (ints a)) (R_len rfl (R_mv (@rfl V (ints b)) (R_len rfl ?_)))))))
 refine R_eql rfl rfl (R_mv (@rfl V (V.bool (decide (((a.length : Nat) : Int) = ((b.length : Nat) : Int))))) ?_)
 refine Ops_seg 7 (fun T H => T 17 = (V.bool (decide ((((a.length : Nat) : Int) = ((b.length : Nat) : Int)) ∧ (((cmn a b : Nat) : Int) = ((a.length : Nat) : Int))))) ∧ True) ?_ ?_
 ·
  by_cases g1 : ((a.length : Nat) : Int) = ((b.length : Nat) : Int)
  ·
   refine G_yes (edT g1 rfl) (R_mv (@rfl V (ints a)) (G_yes (edT g1 rfl) (R_mv (@rfl V (ints b)) (G_yes (edT g1 rfl) ?_))))
   have q2 := cmn_l a b
   have q3 := cmn_r a b
   refine R_callc (evcons rfl (evcons rfl evnil)) (rcommon_pure a b) (G_yes (edT g1 rfl) (R_mv (@rfl V (ints a)) (G_yes (edT g1 rfl) (R_len rfl (G_yes (edT g1 rfl) (R_eql rfl rfl (R_pickT (edT g1 rfl) rfl ?_)))))))
   exact ⟨(dec_andT g1), trivial⟩
  ·
   refine G_n (edF g1 rfl) (G_n (edF g1 rfl) (G_n (edF g1 rfl) (G_n (edF g1 rfl) (G_n (edF g1 rfl) (G_n (edF g1 rfl) (R_pickF (edF g1 rfl) rfl ?_))))))
   exact ⟨(dec_andF g1), trivial⟩
 intro T H ⟨t17, _⟩
 refine R_mv t17 (R_e (W_ret ?_))
 refine Ret_1 (@rfl V (V.bool (decide ((((a.length : Nat) : Int) = ((b.length : Nat) : Int)) ∧ (((cmn a b : Nat) : Int) = ((a.length : Nat) : Int)))))) (fz_bool ?_)
 · exact same_dec a b
theorem swords_pure (a b : List (List Int)) : PureC Try.prog 18 [(intss a), (intss b)] (V.bool (decide (a = b))) := by
 refine pW Try.func18 s18_ok fun hB => ?_
 unfold s18
 dsimp only
 refine W_r (R_mv (@rfl V (V.bool false)) (R_e (W_seq_seq (W_r (R_mv (@rfl V (intss a)) (R_len rfl (R_mv (@rfl V (intss b)) ?_)))))))
 refine R_len rfl (R_neq rfl rfl (R_e ?_))
 refine W_seq_if rfl (fun c1 => ?_) fun c1 => ?_
 ·
  refine W_seq_seq (W_r (R_mv (@rfl V (V.bool false)) (R_e (W_seq_ret ?_))))
  refine Ret_1 (@rfl V (V.bool false)) (fz_bool ?_)
  · exact (decide_eq_false (fun e => by subst e; omega)).symm
 refine W_seq_skip (W_seq_seq (W_r (R_mv (@rfl V (iV (0 : Int))) (R_e (W_seq_blockg fun Q2 n2 x2 y2 z2 => ?_)))))
 refine W_loop (fun mm T H => ∃ (k : Nat), mm = a.length - k ∧ T 0 = (intss a) ∧ T 1 = (intss b) ∧ T 5 = (iV ((k : Nat) : Int)) ∧ (k ≤ a.length) ∧ (a.length = b.length) ∧ (∀ j, j < k → nth a j = nth b j)) ?_ ?_
 ·
  refine ⟨_, 0, rfl, rfl, rfl, (Eq.trans (@rfl V (iV (0 : Int))) rfl), ?_, ?_, ?_⟩
  · omega
  · omega
  · intro j hj; omega
 intro mm T H ⟨k, hmm, t0, t1, t5, hk, hl, hc⟩ Q3 p13 p23 p33
 unfold b18_0
 refine W_seq_seq (W_r (R_mv t5 (R_mv t0 (R_len rfl (R_lss rfl rfl (R_e ?_))))))
 refine W_seq_if rfl (fun c4 => ?_) fun c4 => ?_
 ·
  refine W_seq_skip (W_seq_blockg fun Q5 n5 x5 y5 z5 => (W_r (R_mv t0 (R_mv t5 (R_idx (i := k) (@rfl V (intss a)) (@rfl V (iV ((k : Nat) : Int))) (by omega) rfl (R_load_pp (v := (ints ((nth (a) (k))))) rfl (by first | rfl | simp [ldV]) (R_mv t1 ?_)))))))
  refine R_mv t5 (R_idx (i := k) (@rfl V (intss b)) (@rfl V (iV ((k : Nat) : Int))) (by omega) rfl (R_load_pp (v := (ints ((nth (b) (k))))) rfl (by first | rfl | simp [ldV]) (R_callc (evcons rfl (evcons rfl evnil)) (rsame1_pure ((nth (a) (k))) ((nth (b) (k)))) (R_not rfl (R_e ?_)))))
  refine W_if rfl (fun c6 => ?_) fun c6 => ?_
  ·
   have d1 := c6
   refine W_r (R_mv (@rfl V (V.bool false)) (R_e (W_ret (y5 _ _ (p23 _ _ (y2 _ _ ?_))))))
   refine Ret_1 (@rfl V (V.bool false)) (fz_bool ?_)
   · exact (decide_eq_false (fun e => d1 (by subst e; rfl))).symm
  have d1 := Decidable.not_not.1 c6
  refine W_skip (n5 _ _ (.done (W_t (R_mv t5 (R_addN rfl (@rfl V (iV ((1 : Nat) : Int))) (by omega) (R_mv (@rfl V (iV ((k + 1 : Nat) : Int))) (R_e ?_)))))))
  refine p13 _ _ _ ?_ ⟨(k + 1), rfl, t0, t1, (Eq.trans (@rfl V (iV ((k + 1 : Nat) : Int))) (by first | rfl | simp)), ?_, ?_, ?_⟩
  · omega
  · omega
  · omega
  · intro j hj
    by_cases e : j = k
    · subst e; exact d1
    · exact hc j (by omega)
 refine W_seq_exit (p33 _ _ _ (x2 _ _ (.done (W_r (R_mv (@rfl V (V.bool true)) (R_e (W_ret ?_)))))))
 refine Ret_1 (@rfl V (V.bool true)) (fz_bool ?_)
 · exact (decide_eq_true (nth_ext hl fun j hj => hc j (by omega))).symm
def r36_5 : List SO := [
 sO 11 (.mv (.t 3)),
 sO 12 (.mv (.t 0)),
 sO 13 (.mv (.t 4)),
 sO 14 (.idx 1 (.t 12) (.t 13)),
 sO 15 (.load false 1 (.t 14)),
 sO 16 (.append 25 1 24 (.t 11) (.t 15)),
 sO 3 (.mv (.t 16))]
def b36_0 : SC := .seq (.seq (.reg [sO 5 (.mv (.t 4)), sO 6 (.mv (.t 0)), sO 7 (.len (.t 6)), sO 8 (.bin .lss (.t 5) (.t 7))]) (.cond (.t 8) (.skip) (.exit 0))) (.seq (.block 1 (.reg r36_5)) (.reg [sO 9 (.mv (.t 4)), sO 10 (.bin .add (.t 9) (.c (.int .i64 1))), sO 4 (.mv (.t 10))]))
def s36 : SF := ⟨19, [.tmp 2], .seq (.reg [sO 2 (.mv (.c (.nilsl)))]) (.seq (.reg [sO 3 (.lazy 25 1)]) (.seq (.seq (.reg [sO 4 (.mv (.c (.int .i64 0)))]) (.block 0 (.loop b36_0))) (.seq (.reg [sO 17 (.mv (.t 3)), sO 18 (.call false 57 [.t 17]), sO 2 (.mv (.t 18))]) (.ret))))⟩
theorem s36_ok : slimF Try.prog ⟨[22, 25, 26, 31, 32, 67, 68, 69, 73, 79, 81, 86], [3]⟩ Try.f36 = some s36 := by kernel_rfl
def r57_5 : List SO := [
 sO 11 (.mv (.t 3)),
 sO 12 (.mv (.t 0)),
 sO 13 (.mv (.t 4)),
 sO 14 (.idx 1 (.t 12) (.t 13)),
 sO 15 (.load false 1 (.t 14)),
 sO 16 (.call true 79 [.t 11, .t 15]),
 sO 3 (.mv (.t 16))]
def b57_0 : SC := .seq (.seq (.reg [sO 5 (.mv (.t 4)), sO 6 (.mv (.t 0)), sO 7 (.len (.t 6)), sO 8 (.bin .lss (.t 5) (.t 7))]) (.cond (.t 8) (.skip) (.exit 0))) (.seq (.block 1 (.reg r57_5)) (.reg [sO 9 (.mv (.t 4)), sO 10 (.bin .add (.t 9) (.c (.int .i64 1))), sO 4 (.mv (.t 10))]))
def s57 : SF := ⟨18, [.tmp 2], .seq (.reg [sO 2 (.mv (.c (.nilsl)))]) (.seq (.reg [sO 3 (.lazy 25 1)]) (.seq (.seq (.reg [sO 4 (.mv (.c (.int .i64 0)))]) (.block 0 (.loop b57_0))) (.seq (.reg [sO 17 (.mv (.t 3)), sO 2 (.mv (.t 17))]) (.ret))))⟩
theorem s57_ok : slimF Try.prog ⟨[22, 25, 26, 31, 32, 67, 68, 69, 73, 79, 81, 86], [3]⟩ Try.f57 = some s57 := by kernel_rfl
def r79_2 : List SO := [
 sO 10 (.mv (.t 5)),
 sO 11 (.mv (.t 0)),
 sO 12 (.len (.t 11)),
 sO 13 (.bin .lss (.t 10) (.t 12)),
 sO 14 (.mv (.t 13)),
 ⟨some (14, true), some 15, .mv (.t 0)⟩,
 ⟨some (14, true), some 16, .mv (.t 5)⟩,
 ⟨some (14, true), some 17, .idx 1 (.t 15) (.t 16)⟩,
 ⟨some (14, true), some 18, .load false 1 (.t 17)⟩,
 ⟨some (14, true), some 19, .mv (.t 1)⟩,
 ⟨some (14, true), some 20, .call false 42 [.t 18, .t 19]⟩,
 sO 21 (.pick (.t 14) (.t 20) (.c (.bool false)))]
def r79_8 : List SO := [
 sO 34 (.mv (.t 0)),
 sO 35 (.mv (.t 6)),
 sO 36 (.mv (.t 0)),
 sO 37 (.mv (.t 6)),
 sO 38 (.bin .sub (.t 37) (.c (.int .i64 1))),
 sO 39 (.idx 1 (.t 36) (.t 38)),
 sO 40 (.load false 1 (.t 39)),
 sO 41 (.idx 1 (.t 34) (.t 35)),
 sN (.store 1 (.t 41) (.t 40))]
def b79_0 : SC := .seq (.seq (.reg [sO 29 (.mv (.t 6)), sO 30 (.mv (.t 5)), sO 31 (.bin .gtr (.t 29) (.t 30))]) (.cond (.t 31) (.skip) (.exit 0))) (.seq (.block 1 (.reg r79_8)) (.reg [sO 32 (.mv (.t 6)), sO 33 (.bin .sub (.t 32) (.c (.int .i64 1))), sO 6 (.mv (.t 33))]))
def r79_9 : List SO := [
 sO 42 (.mv (.t 0)),
 sO 43 (.mv (.t 5)),
 sO 44 (.lazy 3 1),
 sO 45 (.mv (.t 1)),
 sO 46 (.append 3 1 8 (.t 44) (.t 45)),
 sO 47 (.idx 1 (.t 42) (.t 43)),
 sN (.store 1 (.t 47) (.t 46))]
def s79 : SF := ⟨49, [.tmp 4], .seq (.reg [sO 4 (.mv (.c (.nilsl)))]) (.seq (.reg [sO 7 (.mv (.t 0)), sO 8 (.mv (.t 1)), sO 9 (.call false 85 [.t 7, .t 8]), sO 5 (.mv (.t 9))]) (.seq (.seq (.reg r79_2) (.cond (.t 21) (.seq (.reg [sO 22 (.mv (.t 0)), sO 4 (.mv (.t 22))]) (.ret)) (.skip))) (.seq (.reg [sO 23 (.mv (.t 0)), sO 24 (.bslice 25 1 false [.nilsl] 1 [(0, .c (.nilsl))]), sO 25 (.append 25 1 24 (.t 23) (.t 24)), sO 0 (.mv (.t 25))]) (.seq (.seq (.reg [sO 26 (.mv (.t 0)), sO 27 (.len (.t 26)), sO 28 (.bin .sub (.t 27) (.c (.int .i64 1))), sO 6 (.mv (.t 28))]) (.block 0 (.loop b79_0))) (.seq (.reg r79_9) (.seq (.reg [sO 48 (.mv (.t 0)), sO 4 (.mv (.t 48))]) (.ret)))))))⟩
theorem s79_ok : slimF Try.prog ⟨[22, 25, 26, 31, 32, 67, 68, 69, 73, 79, 81, 86], [44]⟩ Try.f79 = some s79 := by kernel_rfl
def r85_4 : List SO := [
 sO 17 (.mv (.t 0)),
 sO 18 (.mv (.t 7)),
 sO 19 (.idx 1 (.t 17) (.t 18)),
 sO 20 (.load false 1 (.t 19)),
 sO 21 (.mv (.t 1)),
 sO 22 (.call false 96 [.t 20, .t 21]),
 sO 23 (.bin .lss (.t 22) (.c (.int .i64 0)))]
def b85_0 : SC := .seq (.seq (.reg [sO 10 (.mv (.t 5)), sO 11 (.mv (.t 6)), sO 12 (.bin .lss (.t 10) (.t 11))]) (.cond (.t 12) (.skip) (.exit 0))) (.block 1 (.seq (.reg [sO 13 (.mv (.t 5)), sO 14 (.mv (.t 6)), sO 15 (.bin .add (.t 13) (.t 14)), sO 16 (.bin .quo (.t 15) (.c (.int .i64 2))), sO 7 (.mv (.t 16))]) (.seq (.reg r85_4) (.cond (.t 23) (.reg [sO 24 (.mv (.t 7)), sO 25 (.bin .add (.t 24) (.c (.int .i64 1))), sO 5 (.mv (.t 25))]) (.reg [sO 26 (.mv (.t 7)), sO 6 (.mv (.t 26))])))))
def s85 : SF := ⟨28, [.tmp 4], .seq (.reg [sO 4 (.mv (.c (.int .i64 0)))]) (.seq (.reg [sO 8 (.mv (.t 0)), sO 9 (.len (.t 8)), sO 5 (.mv (.c (.int .i64 0))), sO 6 (.mv (.t 9))]) (.seq (.block 0 (.loop b85_0)) (.seq (.reg [sO 27 (.mv (.t 5)), sO 4 (.mv (.t 27))]) (.ret))))⟩
theorem s85_ok : slimF Try.prog ⟨[22, 25, 26, 31, 32, 67, 68, 69, 73, 79, 81, 86], []⟩ Try.f85 = some s85 := by kernel_rfl
def s96 : SF := ⟨18, [.tmp 4], .seq (.reg [sO 4 (.mv (.c (.int .i64 0)))]) (.seq (.seq (.reg [sO 5 (.mv (.t 0)), sO 6 (.len (.t 5)), sO 7 (.mv (.t 1)), sO 8 (.len (.t 7)), sO 9 (.bin .lss (.t 6) (.t 8))]) (.cond (.t 9) (.seq (.reg [sO 4 (.mv (.c (.int .i64 (-1))))]) (.ret)) (.skip))) (.seq (.seq (.reg [sO 10 (.mv (.t 0)), sO 11 (.len (.t 10)), sO 12 (.mv (.t 1)), sO 13 (.len (.t 12)), sO 14 (.bin .gtr (.t 11) (.t 13))]) (.cond (.t 14) (.seq (.reg [sO 4 (.mv (.c (.int .i64 1)))]) (.ret)) (.skip))) (.seq (.reg [sO 15 (.mv (.t 0)), sO 16 (.mv (.t 1)), sO 17 (.call false 102 [.t 15, .t 16]), sO 4 (.mv (.t 17))]) (.ret))))⟩
theorem s96_ok : slimF Try.prog ⟨[22, 25, 26, 31, 32, 67, 68, 69, 73, 79, 81, 86], []⟩ Try.f96 = some s96 := by kernel_rfl
def r102_2 : List SO := [
 sO 10 (.mv (.t 5)),
 sO 11 (.mv (.t 0)),
 sO 12 (.len (.t 11)),
 sO 13 (.bin .eql (.t 10) (.t 12)),
 sO 14 (.mv (.t 13)),
 ⟨some (14, true), some 15, .mv (.t 5)⟩,
 ⟨some (14, true), some 16, .mv (.t 1)⟩,
 ⟨some (14, true), some 17, .len (.t 16)⟩,
 ⟨some (14, true), some 18, .bin .eql (.t 15) (.t 17)⟩,
 sO 19 (.pick (.t 14) (.t 18) (.c (.bool false))),
 sO 9 (.mv (.t 19))]
def r102_5 : List SO := [
 sO 25 (.mv (.t 5)),
 sO 26 (.mv (.t 1)),
 sO 27 (.len (.t 26)),
 sO 28 (.bin .lss (.t 25) (.t 27)),
 sO 29 (.mv (.t 28)),
 ⟨some (29, true), some 30, .mv (.t 0)⟩,
 ⟨some (29, true), some 31, .mv (.t 5)⟩,
 ⟨some (29, true), some 32, .idx 1 (.t 30) (.t 31)⟩,
 ⟨some (29, true), some 33, .load false 1 (.t 32)⟩,
 ⟨some (29, true), some 34, .mv (.t 1)⟩,
 ⟨some (29, true), some 35, .mv (.t 5)⟩,
 ⟨some (29, true), some 36, .idx 1 (.t 34) (.t 35)⟩,
 ⟨some (29, true), some 37, .load false 1 (.t 36)⟩,
 ⟨some (29, true), some 38, .bin .lss (.t 33) (.t 37)⟩,
 sO 39 (.pick (.t 29) (.t 38) (.c (.bool false))),
 sO 20 (.mv (.t 39))]
def s102 : SF := ⟨40, [.tmp 4], .seq (.reg [sO 4 (.mv (.c (.int .i64 0)))]) (.seq (.reg [sO 6 (.mv (.t 0)), sO 7 (.mv (.t 1)), sO 8 (.call false 66 [.t 6, .t 7]), sO 5 (.mv (.t 8))]) (.seq (.block 0 (.seq (.reg r102_2) (.cond (.t 9) (.seq (.reg [sO 4 (.mv (.c (.int .i64 0)))]) (.ret)) (.seq (.seq (.reg [sO 21 (.mv (.t 5)), sO 22 (.mv (.t 0)), sO 23 (.len (.t 22)), sO 24 (.bin .eql (.t 21) (.t 23)), sO 20 (.mv (.t 24))]) (.cond (.t 20) (.skip) (.reg r102_5))) (.cond (.t 20) (.seq (.reg [sO 4 (.mv (.c (.int .i64 (-1))))]) (.ret)) (.skip)))))) (.seq (.reg [sO 4 (.mv (.c (.int .i64 1)))]) (.ret))))⟩
theorem s102_ok : slimF Try.prog ⟨[22, 25, 26, 31, 32, 67, 68, 69, 73, 79, 81, 86], []⟩ Try.f102 = some s102 := by kernel_rfl
theorem rlex_pure (a b : List Int) : PureC Try.prog 102 [(ints a), (ints b)] (iV (lexI a b)) := by
 refine pW Try.func102 s102_ok fun hB => ?_
 unfold s102
 dsimp only
 refine W_r (R_mv (@rfl V (iV (0 : Int))) (R_e (W_r (R_mv (@rfl V (ints a)) (R_mv (@rfl V (ints b)) ?_)))))
 have q1 := cmn_l a b
 have q2 := cmn_r a b
 refine R_callc (evcons rfl (evcons rfl evnil)) (rcommon_pure a b) (R_mv (@rfl V (iV ((cmn a b : Nat) : Int))) (R_e ?_))
 have q3 := cmn_l a b
 have q4 := cmn_r a b
 refine W_seq_blockg fun Q5 n5 x5 y5 z5 => (W_r (R_mv (@rfl V (iV ((cmn a b : Nat) : Int))) (R_mv (@rfl V (ints a)) (R_len rfl (R_eql rfl rfl (R_mv (@rfl V (V.bool (decide (((cmn a b : Nat) : Int) = ((a.length : Nat) : Int))))) ?_))))))
 refine Ops_seg 5 (fun T H => T 0 = (ints a) ∧ T 1 = (ints b) ∧ T 5 = (iV ((cmn a b : Nat) : Int)) ∧ T 19 = (V.bool (decide ((((cmn a b : Nat) : Int) = ((a.length : Nat) : Int)) ∧ (((cmn a b : Nat) : Int) = ((b.length : Nat) : Int))))) ∧ True) ?_ ?_
 ·
  by_cases g6 : ((cmn a b : Nat) : Int) = ((a.length : Nat) : Int)
  ·
   refine G_yes (edT g6 rfl) (R_mv (@rfl V (iV ((cmn a b : Nat) : Int))) (G_yes (edT g6 rfl) (R_mv (@rfl V (ints b)) (G_yes (edT g6 rfl) (R_len rfl (G_yes (edT g6 rfl) (R_eql rfl rfl ?_)))))))
   refine R_pickT (edT g6 rfl) rfl ?_
   exact ⟨rfl, rfl, rfl, (dec_andT g6), trivial⟩
  ·
   refine G_n (edF g6 rfl) (G_n (edF g6 rfl) (G_n (edF g6 rfl) (G_n (edF g6 rfl) (R_pickF (edF g6 rfl) rfl ?_))))
   exact ⟨rfl, rfl, rfl, (dec_andF g6), trivial⟩
 intro T H ⟨t0, t1, t5, t19, _⟩
 refine R_mv t19 (R_e ?_)
 refine W_if rfl (fun c7 => ?_) fun c7 => ?_
 ·
  refine W_r (R_mv (@rfl V (iV (0 : Int))) (R_e (W_ret (y5 _ _ ?_))))
  refine Ret_1 (@rfl V (iV (0 : Int))) (fz_int ?_)
  · unfold lexI; rw [if_pos (by omega)]
 refine W_seq_seq (W_r (R_mv t5 (R_mv t0 (R_len rfl (R_eql rfl rfl (R_mv (@rfl V (V.bool (decide (((cmn a b : Nat) : Int) = ((a.length : Nat) : Int))))) (R_e ?_)))))))
 refine W_seq_if rfl (fun c8 => ?_) fun c8 => ?_
 ·
  refine W_seq_skip ?_
  refine W_if rfl (fun c9 => ?_) fun c9 => ?_
  ·
   refine W_r (R_mv (@rfl V (iV (-1 : Int))) (R_e (W_ret (y5 _ _ ?_))))
   refine Ret_1 (@rfl V (iV (-1 : Int))) (fz_int ?_)
   · unfold lexI; rw [if_neg (by omega), if_pos (by omega)]
  · exact (c9 c8).elim
 refine W_r (R_mv t5 (R_mv t1 (R_len rfl (R_lss rfl rfl (R_mv (@rfl V (V.bool (decide (((cmn a b : Nat) : Int) < ((b.length : Nat) : Int))))) ?_)))))
 refine Ops_seg 10 (fun T H => T 20 = (V.bool (decide (((cmn a b : Nat) : Int) = ((a.length : Nat) : Int)))) ∧ T 39 = (V.bool (decide ((((cmn a b : Nat) : Int) < ((b.length : Nat) : Int)) ∧ (((nth (a) (cmn a b))) < ((nth (b) (cmn a b))))))) ∧ True) ?_ ?_
 ·
  by_cases g10 : ((cmn a b : Nat) : Int) < ((b.length : Nat) : Int)
  ·
   refine G_yes (edT g10 rfl) (R_mv t0 (G_yes (edT g10 rfl) (R_mv t5 (G_yes (edT g10 rfl) (R_idx (i := (cmn a b)) (@rfl V (ints a)) (@rfl V (iV ((cmn a b : Nat) : Int))) (by omega) rfl (G_yes (edT g10 rfl) (R_load_pp (v := (iV ((nth (a) (cmn a b))))) rfl (by first | rfl | simp [ldV]) ?_)))))))
   refine G_yes (edT g10 rfl) (R_mv t1 (G_yes (edT g10 rfl) (R_mv t5 (G_yes (edT g10 rfl) (R_idx (i := (cmn a b)) (@rfl V (ints b)) (@rfl V (iV ((cmn a b : Nat) : Int))) (by omega) rfl (G_yes (edT g10 rfl) (R_load_pp (v := (iV ((nth (b) (cmn a b))))) rfl (by first | rfl | simp [ldV]) ?_)))))))
   refine G_yes (edT g10 rfl) (R_lss rfl rfl (R_pickT (edT g10 rfl) rfl ?_))
   exact ⟨rfl, (dec_andT g10), trivial⟩
  ·
   refine G_n (edF g10 rfl) (G_n (edF g10 rfl) (G_n (edF g10 rfl) (G_n (edF g10 rfl) (G_n (edF g10 rfl) (G_n (edF g10 rfl) (G_n (edF g10 rfl) (G_n (edF g10 rfl) ?_)))))))
   refine G_n (edF g10 rfl) (R_pickF (edF g10 rfl) rfl ?_)
   exact ⟨rfl, (dec_andF g10), trivial⟩
 intro T H ⟨t20, t39, _⟩
 refine R_mv t39 (R_e ?_)
 refine W_if rfl (fun c11 => ?_) fun c11 => ?_
 ·
  refine W_r (R_mv (@rfl V (iV (-1 : Int))) (R_e (W_ret (y5 _ _ ?_))))
  refine Ret_1 (@rfl V (iV (-1 : Int))) (fz_int ?_)
  · unfold lexI; rw [if_neg (by omega), if_pos (by omega)]
 refine W_skip (n5 _ _ (.done (W_r (R_mv (@rfl V (iV (1 : Int))) (R_e (W_ret ?_))))))
 refine Ret_1 (@rfl V (iV (1 : Int))) (fz_int ?_)
 · unfold lexI; rw [if_neg (by omega), if_neg (by omega)]
theorem rcompare_pure (a b : List Int) : PureC Try.prog 96 [(ints a), (ints b)] (iV (slx a b)) := by
 refine pW Try.func96 s96_ok fun hB => ?_
 unfold s96
 dsimp only
 refine W_r (R_mv (@rfl V (iV (0 : Int))) (R_e (W_seq_seq (W_r (R_mv (@rfl V (ints a)) (R_len rfl (R_mv (@rfl V (ints b)) ?_)))))))
 refine R_len rfl (R_lss rfl rfl (R_e ?_))
 refine W_seq_if rfl (fun c1 => ?_) fun c1 => ?_
 ·
  refine W_seq_seq (W_r (R_mv (@rfl V (iV (-1 : Int))) (R_e (W_seq_ret ?_))))
  refine Ret_1 (@rfl V (iV (-1 : Int))) (fz_int ?_)
  · rw [slx, if_pos (by omega)]
 refine W_seq_skip (W_seq_seq (W_r (R_mv (@rfl V (ints a)) (R_len rfl (R_mv (@rfl V (ints b)) (R_len rfl (R_gtr rfl rfl ?_)))))))
 refine R_e ?_
 refine W_seq_if rfl (fun c2 => ?_) fun c2 => ?_
 ·
  refine W_seq_seq (W_r (R_mv (@rfl V (iV (1 : Int))) (R_e (W_seq_ret ?_))))
  refine Ret_1 (@rfl V (iV (1 : Int))) (fz_int ?_)
  · rw [slx, if_neg (by omega), if_pos (by omega)]
 refine W_seq_skip (W_r (R_mv (@rfl V (ints a)) (R_mv (@rfl V (ints b)) (R_callc (evcons rfl (evcons rfl evnil)) (rlex_pure a b) (R_mv (@rfl V (iV (lexI a b))) (R_e (W_ret ?_)))))))
 refine Ret_1 (@rfl V (iV (lexI a b))) (fz_int ?_)
 · rw [slx, if_neg (by omega), if_neg (by omega)]
theorem place_pure (l : List (List Int)) (w : List Int) (hs : SrtW l) (hl : l.length ≤ 1073741824) : PureC Try.prog 85 [(intss l), (ints w)] (iV ((plN l w : Nat) : Int)) := by
 refine pW Try.func85 s85_ok fun hB => ?_
 unfold s85
 dsimp only
 have q0 := pl_le (w := w) l
 refine W_r (R_mv (@rfl V (iV (0 : Int))) (R_e (W_r (R_mv (@rfl V (intss l)) (R_len rfl (R_mv (@rfl V (iV (0 : Int))) (R_mv (@rfl V (iV ((l.length : Nat) : Int))) ?_)))))))
 refine R_e (W_seq_blockg fun Q1 n1 x1 y1 z1 => ?_)
 refine W_loop (fun mm T H => ∃ (i : Nat) (j : Nat), mm = j - i ∧ T 0 = (intss l) ∧ T 1 = (ints w) ∧ T 5 = (iV ((i : Nat) : Int)) ∧ T 6 = (iV ((j : Nat) : Int)) ∧ (i ≤ plN l w) ∧ (plN l w ≤ j) ∧ (j ≤ l.length)) ?_ ?_
 ·
  refine ⟨_, 0, l.length, rfl, rfl, rfl, (Eq.trans (@rfl V (iV (0 : Int))) rfl), rfl, ?_, ?_, ?_⟩
  · omega
  · omega
  · omega
 intro mm T H ⟨i, j, hmm, t0, t1, t5, t6, h1, h2, h3⟩ Q2 p12 p22 p32
 unfold b85_0
 refine W_seq_seq (W_r (R_mv t5 (R_mv t6 (R_lss rfl rfl (R_e ?_)))))
 refine W_seq_if rfl (fun c3 => ?_) fun c3 => ?_
 ·
  refine W_seq_skip (W_block fun Q4 n4 x4 y4 z4 => (W_r (R_mv t5 (R_mv t6 (R_addN rfl rfl (by omega) (R_quo2 (n := (i + j)) rfl rfl (by omega) (R_mv (@rfl V (iV (((i + j) / 2 : Nat) : Int))) ?_)))))))
  refine R_e (W_r (R_mv t0 (R_mv (@rfl V (iV (((i + j) / 2 : Nat) : Int))) (R_idx (i := ((i + j) / 2)) (@rfl V (intss l)) (@rfl V (iV (((i + j) / 2 : Nat) : Int))) (by omega) rfl (R_load_pp (v := (ints ((nth (l) ((i + j) / 2))))) rfl (by first | rfl | simp [ldV]) (R_mv t1 (R_callc (evcons rfl (evcons rfl evnil)) (rcompare_pure ((nth (l) ((i + j) / 2))) w) ?_)))))))
  refine R_lss rfl rfl (R_e ?_)
  refine W_if rfl (fun c5 => ?_) fun c5 => ?_
  ·
   have d1 := (pl_iff hs (by omega)).1 c5
   refine W_t (R_mv (@rfl V (iV (((i + j) / 2 : Nat) : Int))) (R_addN rfl (@rfl V (iV ((1 : Nat) : Int))) (by omega) (R_mv (@rfl V (iV ((((i + j) / 2) + 1 : Nat) : Int))) (R_e (n4 _ _ ?_)))))
   refine p12 _ _ _ ?_ ⟨(((i + j) / 2) + 1), j, rfl, t0, t1, (Eq.trans (@rfl V (iV ((((i + j) / 2) + 1 : Nat) : Int))) (by first | rfl | simp)), t6, ?_, ?_, ?_⟩
   · omega
   · omega
   · omega
   · omega
  have d1 : ¬((i + j) / 2 < plN l w) := fun e => c5 ((pl_iff hs (by omega)).2 e)
  refine W_t (R_mv (@rfl V (iV (((i + j) / 2 : Nat) : Int))) (R_mv (@rfl V (iV (((i + j) / 2 : Nat) : Int))) (R_e (n4 _ _ ?_))))
  refine p12 _ _ _ ?_ ⟨i, ((i + j) / 2), rfl, t0, t1, t5, (Eq.trans (@rfl V (iV (((i + j) / 2 : Nat) : Int))) (by first | rfl | simp)), ?_, ?_, ?_⟩
  · omega
  · omega
  · omega
  · omega
 refine W_seq_exit (p32 _ _ _ (x1 _ _ (.done (W_r (R_mv t5 (R_mv (@rfl V (iV ((i : Nat) : Int))) (R_e ?_)))))))
 refine W_ret ?_
 refine Ret_1 (@rfl V (iV ((i : Nat) : Int))) (fz_int ?_)
 · have e : i = plN l w := by omega
   rw [e]
theorem with_E (l : List (List Int)) (w : List Int) (v3 v44 : Nat) (Hi : Heap) (h3 : Hi 3 = (bz v3 25 1 (List.map cL (l)))) (h544 : (Hi 544).ver = v44) (hs : SrtW l) (hl : l.length ≤ 100000) (hw : w.length ≤ 1048576) : CallOK Try.prog 79 [(V.ms 3 v3 0 (l.length)), (ints w)] Hi (V.ms 3 (v3 + 1) 0 ((wiW l w).length)) (upd (upd Hi 544 (⟨v44 + 2, false, false, 0, 0, []⟩ : Blk)) 3 (bz (v3 + 1) 25 1 (List.map cL (wiW l w)))) := by
 refine eW (k0 := 500) Try.func79 s79_ok fun hB => ?_
 have q0 := pl_le (w := w) l
 unfold s79
 dsimp only
 refine W_r (R_mv (@rfl V V.nilsl) (R_e (W_r (R_mv (@rfl V (V.ms 3 v3 0 (l.length))) (R_mv (@rfl V (ints w)) (R_call (evcons (@rfl V (V.ms 3 v3 0 (l.length))) (evcons (@rfl V (ints w)) evnil)) (place_pure l w hs (by omega)) (mcons (fz_mst h3 (by first | rfl | simp) (take_map (l := l) (by first | rfl | simp | omega)) (fun _ => by simp)) (mcons (fzv_canon 6 _ (by simp [-List.map_take, -List.map_drop, -List.map_append, -List.map_reverse])) rfl)) (by simp [-List.map_take, -List.map_drop, -List.map_append, -List.map_reverse]) (Or.inr rfl) (R_mv (@rfl V (iV ((plN l w : Nat) : Int))) ?_)))))))
 refine R_e (W_seq_seq (W_r (R_mv (@rfl V (iV ((plN l w : Nat) : Int))) (R_mv (@rfl V (V.ms 3 v3 0 (l.length))) (R_len_ms rfl h3 (by first | rfl | simp) (R_lss rfl rfl (R_mv (@rfl V (V.bool (decide (((plN l w : Nat) : Int) < ((l.length : Nat) : Int))))) ?_)))))))
 refine Ops_seg 7 (fun T H => T 0 = (V.ms 3 v3 0 (l.length)) ∧ T 1 = (ints w) ∧ T 5 = (iV ((plN l w : Nat) : Int)) ∧ T 21 = (V.bool (decide ((((plN l w : Nat) : Int) < ((l.length : Nat) : Int)) ∧ (((nth (l) (plN l w))) = w)))) ∧ (∀ j, j ∉ [544, 3] → H j = Hi j) ∧ H 3 = (bz v3 25 1 (List.map cL (l))) ∧ (H 544).ver = v44 ∧ True) ?_ ?_
 ·
  by_cases g1 : ((plN l w : Nat) : Int) < ((l.length : Nat) : Int)
  ·
   refine G_yes (edT g1 rfl) (R_mv (@rfl V (V.ms 3 v3 0 (l.length))) (G_yes (edT g1 rfl) (R_mv (@rfl V (iV ((plN l w : Nat) : Int))) (G_yes (edT g1 rfl) (R_idx_ms0 (i := (plN l w)) (@rfl V (V.ms 3 v3 0 (l.length))) (@rfl V (iV ((plN l w : Nat) : Int))) h3 (okB_map (by omega)) rfl (by omega) (G_yes (edT g1 rfl) (R_load_mp (v := (ints ((nth (l) (plN l w))))) rfl h3 (ldB_map (by omega) (by first | rfl | simp [ldV, V.one])) ?_)))))))
   refine G_yes (edT g1 rfl) (R_mv (@rfl V (ints w)) (G_yes (edT g1 rfl) (R_callc (evcons rfl (evcons rfl evnil)) (rsame1_pure ((nth (l) (plN l w))) w) (R_pickT (edT g1 rfl) rfl ?_))))
   exact ⟨rfl, rfl, rfl, (dec_andT g1), (fun _ _ => rfl), h3, h544, trivial⟩
  ·
   refine G_n (edF g1 rfl) (G_n (edF g1 rfl) (G_n (edF g1 rfl) (G_n (edF g1 rfl) (G_n (edF g1 rfl) (G_n (edF g1 rfl) (R_pickF (edF g1 rfl) rfl ?_))))))
   exact ⟨rfl, rfl, rfl, (dec_andF g1), (fun _ _ => rfl), h3, h544, trivial⟩
 intro T H ⟨t0, t1, t5, t21, hF, h3, h544, _⟩
 refine R_e ?_
 refine W_seq_if t21 (fun c2 => ?_) fun c2 => ?_
 ·
  have d1 : wiH l w := by simpa [wiH] using c2
  have hwi := wi_yes d1
  refine W_seq_seq (W_r (R_mv t0 (R_mv (@rfl V (V.ms 3 v3 0 (l.length))) (R_e (W_seq_ret (fork_ (R := fun T H => T 4 = (V.ms 3 v3 0 (l.length)) ∧ (∀ j, j ∉ [544, 3] → H j = Hi j) ∧ H 3 = (bz v3 25 1 (List.map cL (l))) ∧ (H 544).ver = v44 ∧ True) ⟨(@rfl V (V.ms 3 v3 0 (l.length))), hF, h3, h544, trivial⟩ ?_))))))
  intro T H ⟨t4, hF, h3, h544, _⟩
  skip
  have fh := FinX.fin (FinX.put (B := (bz (v3 + 1) 25 1 (List.map cL (wiW l w)))) (FinX.putv (n := v44) (B := (⟨v44 + 2, false, false, 0, 0, []⟩ : Blk)) (FinX.start hF) h544 (by show _ ≤ v44 + 2; omega) rfl) h3 (FinB.up (by omega) (by first | rfl | (rw [hwi]; done) | (rw [mv_top]; done) | (rw [show (((j : Nat) : Int) - (1 : Int)).toNat = j - 1 by omega, mv_step (by omega) hj]; done) | (rw [show j = plN l w by omega, mv_end q0, hwi]; rfl) | simp)))
  exact RetF_1 t4 fh (FinV.trans_eq (FinV.ms (n := (v3 + 1)) fh (by simp [h3]) (by simp [h3]) rfl rfl) (by first | rfl | (rw [hwi]; done) | (congr 1; omega) | (rw [hwi]; simp; omega) | (exact congrArg (V.int .i64) (by omega)) | simp))
 have d1 : ¬wiH l w := fun q => by have q := wi_ok.1 q; simp [q] at c2
 have hwi := wi_no d1
 refine W_seq_skip ?_
 refine W_seq_g (fun T H => T 0 = (V.ms 3 (v3 + 1) 0 (l.length + 1)) ∧ T 1 = (ints w) ∧ T 5 = (iV ((plN l w : Nat) : Int)) ∧ (∀ j, j ∉ [544, 3] → H j = Hi j) ∧ H 3 = (bz (v3 + 1) 25 1 (List.map cL (l) ++ List.replicate (1) [V.nilsl])) ∧ (H 544).ver = v44 ∧ True) ?_ ?_
 ·
  refine R_mv t0 (R_bslice (qs := [(0, V.nilsl)]) (rows := [[V.nilsl]]) (mcons (congrArg (fun v => (0, v)) rfl) rfl) rfl (R_appendZ (l := l) (f := cL) (z := [.nilsl]) (@rfl V (V.ms 3 v3 0 (l.length))) h3 (by first | rfl | simp | omega) (@rfl V (V.sl [[V.nilsl]])) rfl rfl (by omega) (by omega) (R_mv (@rfl V (V.ms 3 (v3 + 1) 0 (l.length + 1))) ?_)))
  exact R_nil ⟨rfl, t1, t5, (upd_out hF (by decide)), rfl, h544, trivial⟩
 intro T H ⟨t0, t1, t5, hF, h3, h544, _⟩
 refine nil_cell (x := []) (f := cL) (l := l) h3 rfl (.done ?_)
 refine W_seq_seq (W_r (R_mv t0 (R_len_ms rfl (@rfl Blk (bz (v3 + 1) 25 1 (List.map cL (l ++ [[]])))) (by first | rfl | simp) (R_sub rfl rfl (by omega) (by omega) (R_mv (@rfl V (iV (((l.length + 1 : Nat) : Int) - (1 : Int)))) (R_e (W_seq_blockg fun Q3 n3 x3 y3 z3 => ?_)))))))
 refine W_loop (fun mm T H => ∃ (j : Nat), mm = j ∧ T 0 = (V.ms 3 (v3 + 1) 0 (l.length + 1)) ∧ T 1 = (ints w) ∧ T 5 = (iV ((plN l w : Nat) : Int)) ∧ T 6 = (iV ((j : Nat) : Int)) ∧ (∀ j, j ∉ [544, 3] → H j = Hi j) ∧ H 3 = (bz (v3 + 1) 25 1 (List.map cL (mvL l j))) ∧ (H 544).ver = v44 ∧ (j ≤ l.length) ∧ (plN l w ≤ j)) ?_ ?_
 ·
  refine ⟨_, l.length, rfl, t0, t1, t5, (Eq.trans (@rfl V (iV (((l.length + 1 : Nat) : Int) - (1 : Int)))) (by first | rfl | (rw [hwi]; done) | (congr 1; omega) | (rw [hwi]; simp; omega) | (exact congrArg (V.int .i64) (by omega)) | simp)), (upd_out hF (by decide)), (Eq.trans (@rfl Blk (bz (v3 + 1) 25 1 (List.map cL (l ++ [[]])))) (by first | rfl | (rw [hwi]; done) | (rw [mv_top]; done) | (rw [show (((j : Nat) : Int) - (1 : Int)).toNat = j - 1 by omega, mv_step (by omega) hj]; done) | (rw [show j = plN l w by omega, mv_end q0, hwi]; rfl) | simp)), ((congrArg Blk.ver (upd_ne _ _ (by decide))).trans h544), ?_, ?_⟩
  · omega
  · omega
 intro mm T H ⟨j, hmm, t0, t1, t5, t6, hF, h3, h544, hj, hp⟩ Q4 p14 p24 p34
 unfold b79_0
 have q1 := mv_len hj
 refine W_seq_seq (W_r (R_mv t6 (R_mv t5 (R_gtr rfl rfl (R_e ?_)))))
 refine W_seq_if rfl (fun c5 => ?_) fun c5 => ?_
 ·
  refine W_seq_skip (W_seq_blockg fun Q6 n6 x6 y6 z6 => (W_t (R_mv t0 (R_mv t6 (R_mv t0 (R_mv t6 (R_sub rfl rfl (by omega) (by omega) ?_)))))))
  refine R_idxI_ms0 (i := (((j : Nat) : Int) - (1 : Int))) (@rfl V (V.ms 3 (v3 + 1) 0 (l.length + 1))) (@rfl V (iV (((j : Nat) : Int) - (1 : Int)))) h3 (okB_map (by omega)) rfl (by omega) (by omega) (R_load_mp (v := (ints ((nth (mvL l j) (((((j : Nat) : Int) - (1 : Int))).toNat))))) rfl h3 (ldB_map (by omega) (by first | rfl | simp [ldV, V.one])) (R_idx_ms0 (i := j) (@rfl V (V.ms 3 (v3 + 1) 0 (l.length + 1))) (@rfl V (iV ((j : Nat) : Int))) h3 (okB_map (by omega)) rfl (by omega) (R_store (vs := [(ints ((nth (mvL l j) (((((j : Nat) : Int) - (1 : Int))).toNat))))]) (B' := (bz (v3 + 1) 25 1 (List.map cL ((mvL l j).set j ((nth (mvL l j) (((((j : Nat) : Int) - (1 : Int))).toNat))))))) rfl rfl rfl h3 (stB_map (x := ((nth (mvL l j) (((((j : Nat) : Int) - (1 : Int))).toNat)))) (i := j) (by omega) rfl rfl rfl rfl) (R_e (n6 _ _ (.done (W_t ?_)))))))
  refine R_mv t6 (R_sub rfl rfl (by omega) (by omega) (R_mv (@rfl V (iV (((j : Nat) : Int) - (1 : Int)))) (R_e ?_)))
  refine p14 _ _ _ ?_ ⟨(j - 1), rfl, t0, t1, t5, (Eq.trans (@rfl V (iV (((j : Nat) : Int) - (1 : Int)))) (by first | rfl | (rw [hwi]; done) | (congr 1; omega) | (rw [hwi]; simp; omega) | (exact congrArg (V.int .i64) (by omega)) | simp)), (upd_out hF (by decide)), (Eq.trans (@rfl Blk (bz (v3 + 1) 25 1 (List.map cL ((mvL l j).set j ((nth (mvL l j) (((((j : Nat) : Int) - (1 : Int))).toNat))))))) (by first | rfl | (rw [hwi]; done) | (rw [mv_top]; done) | (rw [show (((j : Nat) : Int) - (1 : Int)).toNat = j - 1 by omega, mv_step (by omega) hj]; done) | (rw [show j = plN l w by omega, mv_end q0, hwi]; rfl) | simp)), h544, ?_, ?_⟩
  · omega
  · omega
  · omega
 refine W_seq_exit (p34 _ _ _ (x3 _ _ (.done ?_)))
 refine W_seq_g (fun T H => T 0 = (V.ms 3 (v3 + 1) 0 (l.length + 1)) ∧ (∀ j, j ∉ [544, 3] → H j = Hi j) ∧ H 3 = (bz (v3 + 1) 25 1 ((List.map cL (mvL l j)).set (plN l w) [(V.ms 544 (v44 + 2) 0 (0 + (w).length))])) ∧ H 544 = (bz (v44 + 2) 3 1 (List.map cI ([] ++ w))) ∧ True) ?_ ?_
 ·
  refine R_mv t0 (R_mv t5 (R_lazy (i := 544) (n := v44) (by rfl) h544 (R_mv t1 (R_appendS (l := ([])) (m := w) (f := cI) (@rfl V (V.ms 544 (v44 + 1) 0 (0))) (show _ = (bz (v44 + 1) 3 1 (List.map cI ([]))) from (@rfl Blk (bz (v44 + 1) 3 1 []))) (by first | rfl | simp | omega) (@rfl V (ints w)) (fun _ => rfl) (fun _ => rfl) (by omega) (by omega) (R_idx_ms0 (i := (plN l w)) (@rfl V (V.ms 3 (v3 + 1) 0 (l.length + 1))) (@rfl V (iV ((plN l w : Nat) : Int))) h3 (okB_map (by omega)) rfl (by omega) (R_store (vs := [(V.ms 544 (v44 + 2) 0 (0 + (w).length))]) (B' := (bz (v3 + 1) 25 1 ((List.map cL (mvL l j)).set (plN l w) [(V.ms 544 (v44 + 2) 0 (0 + (w).length))]))) rfl rfl rfl h3 (stB_setc (i := (plN l w)) (by omega) rfl rfl rfl) ?_))))))
  exact R_nil ⟨t0, (upd_out (upd_out (upd_out hF (by decide)) (by decide)) (by decide)), rfl, rfl, trivial⟩
 intro T H ⟨t0, hF, h3, h544, _⟩
 refine frz_cellg (id := 544) (id2 := 3) (rows := (List.map cL (mvL l j))) (i := (plN l w)) (off := 0) (r := [(V.ms 544 (v44 + 2) 0 (0 + (w).length))]) (m := ([] ++ w)) (g := cI) (by decide) h544 h3 (by first | omega | (simp; omega) | (simp; done)) (by first | rfl | simp | omega) rfl (.done ?_)
 refine fork_ (R := fun T H => T 0 = (V.ms 3 (v3 + 1) 0 (l.length + 1)) ∧ (∀ j, j ∉ [544, 3] → H j = Hi j) ∧ H 3 = (bz (v3 + 1) 25 1 (List.map cL ((mvL l j).set (plN l w) ([] ++ w)))) ∧ ((H 544).ver = v44 + 2 ∧ (H 544).live = false) ∧ True) ⟨(fzT_q t0 (fzq_other (by decide))), (upd_out (kill_out hF (by decide)) (by decide)), (Eq.trans (upd_same _ _ _) (by first | (rw [List.map_set]; done) | (rw [List.map_set]; rfl))), ⟨(congrArg Blk.ver (upd_ne _ _ (by decide))).trans (kill_self (congrArg Blk.ver h544)).1, (congrArg Blk.live (upd_ne _ _ (by decide))).trans (kill_self (congrArg Blk.ver h544)).2⟩, trivial⟩ ?_
 intro T H ⟨t0, hF, h3, h544, _⟩
 refine W_r (R_mv t0 (R_mv (@rfl V (V.ms 3 (v3 + 1) 0 (l.length + 1))) (R_e (W_ret (fork_ (R := fun T H => T 4 = (V.ms 3 (v3 + 1) 0 (l.length + 1)) ∧ (∀ j, j ∉ [544, 3] → H j = Hi j) ∧ H 3 = (bz (v3 + 1) 25 1 (List.map cL ((mvL l j).set (plN l w) ([] ++ w)))) ∧ ((H 544).ver = v44 + 2 ∧ (H 544).live = false) ∧ True) ⟨(@rfl V (V.ms 3 (v3 + 1) 0 (l.length + 1))), hF, h3, h544, trivial⟩ ?_)))))
 intro T H ⟨t4, hF, h3, h544, _⟩
 skip
 have fh := FinX.fin (FinX.put (B := (bz (v3 + 1) 25 1 (List.map cL (wiW l w)))) (FinX.putv (n := (v44 + 2)) (B := (⟨v44 + 2, false, false, 0, 0, []⟩ : Blk)) (FinX.start hF) (h544).1 (by show _ ≤ v44 + 2; omega) rfl) h3 (FinB.eq (by first | rfl | (rw [hwi]; done) | (rw [mv_top]; done) | (rw [show (((j : Nat) : Int) - (1 : Int)).toNat = j - 1 by omega, mv_step (by omega) hj]; done) | (rw [show j = plN l w by omega, mv_end q0, hwi]; rfl) | simp)))
 exact RetF_1 t4 fh (FinV.trans_eq (FinV.same fh _) (by first | rfl | (rw [hwi]; done) | (congr 1; omega) | (rw [hwi]; simp; omega) | (exact congrArg (V.int .i64) (by omega)) | simp))
theorem rsorted_pure (l : List (List Int)) (hl : l.length ≤ 10000) (hw : ∀ w ∈ l, w.length ≤ 1048576) : PureC Try.prog 57 [(intss l)] (intss (sdW l)) := by
 refine pW Try.func57 s57_ok fun hB => ?_
 unfold s57
 dsimp only
 refine W_r (R_mv (@rfl V V.nilsl) (R_e (W_r (R_lazy (i := 3) (n := 0) rfl (congrArg Blk.ver rfl) (R_e (W_seq_seq (W_r ?_)))))))
 refine R_mv (@rfl V (iV (0 : Int))) (R_e (W_seq_blockg fun Q1 n1 x1 y1 z1 => ?_))
 refine W_loop (fun mm T H => ∃ (k : Nat) (v : Nat) (v544 : Nat), mm = l.length - k ∧ T 0 = (intss l) ∧ T 3 = (V.ms 3 v 0 ((sdW (l.take k)).length)) ∧ T 4 = (iV ((k : Nat) : Int)) ∧ H 3 = (bz v 25 1 (List.map cL (sdW (l.take k)))) ∧ (H 544).ver = v544 ∧ (k ≤ l.length)) ?_ ?_
 ·
  refine ⟨_, 0, 1, 0, rfl, rfl, (Eq.trans (@rfl V (V.ms 3 1 0 (0))) (by first | rfl | (rw [sdW_take (by omega)]; done))), (Eq.trans (@rfl V (iV (0 : Int))) rfl), (Eq.trans (@rfl Blk (bz 1 25 1 [])) (by first | rfl | (rw [sdW_take (by omega)]; done))), (congrArg Blk.ver rfl), ?_⟩
  · omega
 intro mm T H ⟨k, v, v544, hmm, t0, t3, t4, h3, h544, hk⟩ Q2 p12 p22 p32
 unfold b57_0
 have q1 := sdW_len (l.take k)
 have q2 : (l.take k).length ≤ k := by simp; omega
 refine W_seq_seq (W_r (R_mv t4 (R_mv t0 (R_len rfl (R_lss rfl rfl (R_e ?_))))))
 refine W_seq_if rfl (fun c3 => ?_) fun c3 => ?_
 ·
  refine W_seq_skip (W_seq_blockg fun Q4 n4 x4 y4 z4 => (W_t (R_mv t3 (R_mv t0 (R_mv t4 (R_idx (i := k) (@rfl V (intss l)) (@rfl V (iV ((k : Nat) : Int))) (by omega) rfl (R_load_pp (v := (ints ((nth (l) (k))))) rfl (by first | rfl | simp [ldV]) ?_)))))))
  refine R_callE (evcons rfl (evcons rfl evnil)) (with_E (sdW (l.take k)) ((nth (l) (k))) v v544 _ h3 h544 (sdW_srt _) (by omega) (hw _ (nth_mem (by omega)))) (R_mv (@rfl V (V.ms 3 (v + 1) 0 ((wiW (sdW (l.take k)) ((nth (l) (k)))).length))) (R_e (n4 _ _ (.done (W_t (R_mv t4 (R_addN rfl (@rfl V (iV ((1 : Nat) : Int))) (by omega) ?_)))))))
  refine R_mv (@rfl V (iV ((k + 1 : Nat) : Int))) (R_e ?_)
  refine p12 _ _ _ ?_ ⟨(k + 1), (v + 1), (v544 + 2), rfl, t0, (Eq.trans (@rfl V (V.ms 3 (v + 1) 0 ((wiW (sdW (l.take k)) ((nth (l) (k)))).length))) (by first | rfl | (rw [sdW_take (by omega)]; done))), (Eq.trans (@rfl V (iV ((k + 1 : Nat) : Int))) (by first | rfl | (rw [sdW_take (by omega)]; done))), (Eq.trans (@rfl Blk (bz (v + 1) 25 1 (List.map cL (wiW (sdW (l.take k)) ((nth (l) (k))))))) (by first | rfl | (rw [sdW_take (by omega)]; done))), (congrArg Blk.ver rfl), ?_⟩
  · omega
  · omega
 refine W_seq_exit (p32 _ _ _ (x1 _ _ (.done (W_r (R_mv t3 (R_mv (@rfl V (V.ms 3 v 0 ((sdW (l.take k)).length))) (R_e ?_)))))))
 refine W_ret ?_
 refine Ret_1 (@rfl V (V.ms 3 v 0 ((sdW (l.take k)).length))) (fz_ms h3 (by first | rfl | simp) (l := (sdW (l.take k))) rfl (by first | rfl | simp | omega) (fun _ => by simp) ?_)
 · rw [show k = l.length by omega, List.take_length]
end Go.Proofs.Ytmnjchcoigbngaa
namespace Go.Proofs.Ytmnjchcoigbngaa
open Go
abbrev cLL (l : List (List Int)) : List V := [intss l]
@[simp] theorem canonLL_ll (l : List (List (List Int))) : canonLL (l.map cLL) = true := canonLL_map _ _ fun a => by simp [cLL]
@[simp] theorem pureLL_ll (l : List (List (List Int))) : pureLL (l.map cLL) = true := pureLL_map _ _ fun a => by simp [cLL]
theorem flat_le {α : Type} {ls : List (List α)} (k : Nat) : ((ls.take k).flatten).length ≤ ls.flatten.length := by
  conv => rhs; rw [← List.take_append_drop k ls, List.flatten_append, List.length_append]
  omega
theorem flat_tk {α : Type} {ls : List (List α)} {k : Nat} (h : k < ls.length) : (ls.take (k + 1)).flatten = (ls.take k).flatten ++ nth ls k := by
  rw [take_succ_nth h]; simp
def flT {α : Type} (ls : List (List α)) (k : Nat) : List α := (ls.take k).flatten
theorem flT_le {α : Type} {ls : List (List α)} (k : Nat) : (flT ls k).length ≤ ls.flatten.length := flat_le k
theorem flT_tk {α : Type} {ls : List (List α)} {k : Nat} (h : k < ls.length) : flT ls (k + 1) = flT ls k ++ nth ls k := flat_tk h
theorem flT_end {α : Type} {ls : List (List α)} {k : Nat} (h : k = ls.length) : flT ls k = ls.flatten := by unfold flT; rw [h, List.take_length]
theorem flT_0 {α : Type} {ls : List (List α)} : flT ls 0 = [] := by simp [flT]
structure Sm (x : Nd) : Prop where
  ac : x.ac.length ≤ 1048576
  sf : x.sf.length ≤ 1048576
  ou : x.ou.length ≤ 1048576
  kd : x.kd.length ≤ 1048576
  ol : ∀ w ∈ x.ou, w.length ≤ 1048576
theorem bd_sm {t : Dt} (hn : t.nd.length ≤ 4096) (h : ∀ k, k < t.nd.length → Sm (nth t.nd k)) : Bd t :=
  ⟨hn, fun k hk => (h k hk).ac, fun k hk => (h k hk).sf, fun k hk => (h k hk).ou, fun k hk => (h k hk).kd, fun k hk j hj => (h k hk).ol _ (nth_mem hj)⟩
theorem bg_sm {t : Dt} (h : bgT t = false) {k : Nat} (hk : k < t.nd.length) : Sm (nth t.nd k) := by
  have h2 := (bg_ok h).2 k hk
  refine ⟨by omega, by omega, by omega, by omega, fun w hw => ?_⟩
  obtain ⟨j, hj, e⟩ := in_nth hw
  have := h2.2.2.2.2 j hj
  rw [← e]; omega
theorem lf_sm {w : List Int} (h : w.length ≤ 1100) : Sm (lfN w) := ⟨by show w.length ≤ _; omega, by simp [lfN], by simp [lfN], by simp [lfN], by simp [lfN]⟩
theorem bd_ext {t : Dt} (h : bgT t = false) {x : Nd} {m : List Nd} (hm : m.length ≤ 2) (hx : Sm x) (hs : ∀ y ∈ m, Sm y) {n : Nat} (hn : n < t.nd.length) : Bd ⟨t.nd.set n x ++ m⟩ := by
  have h1 := (bg_ok h).1
  refine bd_sm (by simp; omega) fun k hk => ?_
  rw [List.length_append, List.length_set] at hk
  rw [nth_snoc hn]
  split
  · rename_i e
    split
    · exact hx
    · exact bg_sm h e
  · exact hs _ (nth_mem (by omega))
theorem gN_sm {t : Dt} (h : bgT t = false) {n : Nat} (hn : n < t.nd.length) {outs : List Int} (ho : outs.length ≤ 1100) (kid : Int) : Sm (gNd (nth t.nd n) outs kid) := by
  have h1 := bg_sm h hn
  have h2 := (bg_ok h).2 n hn
  refine ⟨h1.ac, h1.sf, ?_, ?_, fun w hw => ?_⟩
  · show (inW _ _ _).length ≤ _; rw [inW_len]; omega
  · show (inW _ _ _).length ≤ _; rw [inW_len]; omega
  · rcases mem_inW.1 hw with e | e
    · rw [e]; omega
    · exact h1.ol w e
theorem gr_bd {t : Dt} (h : bgT t = false) (n : Int) {outs w : List Int} (ho : outs.length ≤ 1100) (hw : w.length ≤ 1100) : Bd (grT t n outs w) := by
  unfold grT
  split
  · rename_i e
    obtain ⟨_, h1, _⟩ := gr_ok e
    obtain ⟨n0, n1, _⟩ := no_ok h1
    exact bd_ext h (by simp) (gN_sm h (by omega) ho _) (fun y hy => by rw [List.mem_singleton.1 hy]; exact lf_sm hw) (by omega)
  · exact bg_bd h
theorem sN_sm {sf outs other : List Int} (hs : sf.length ≤ 1100) (ho : outs.length ≤ 1100) (hot : other.length ≤ 1100) (n : Nat) : Sm (spN sf outs other n) := by
  refine ⟨by simp [spN], by show sf.length ≤ _; omega, ?_, ?_, fun w hw => ?_⟩
  · show (spO _ _).length ≤ _; unfold spO; split <;> simp
  · show (spK _ _ _).length ≤ _; unfold spK; split <;> simp
  · replace hw : w ∈ spO outs other := hw
    unfold spO at hw
    have : w = outs ∨ w = other := by split at hw <;> simp at hw <;> rcases hw with e | e <;> simp [e]
    rcases this with e | e <;> subst e <;> omega
theorem sp_bd {t : Dt} (h : bgT t = false) (n : Int) {sf outs w other : List Int} (hs : sf.length ≤ 1100) (ho : outs.length ≤ 1100) (hw : w.length ≤ 1100) (hot : other.length ≤ 1100) : Bd (spT t n sf outs w other) := by
  unfold spT
  split
  · rename_i e
    obtain ⟨_, h1, _⟩ := sp_ok e
    obtain ⟨n0, n1, _⟩ := no_ok h1
    refine bd_ext h (by simp) (sN_sm hs ho hot _) (fun y hy => ?_) (by omega)
    rcases List.mem_cons.1 hy with e | e
    · rw [e]; exact bg_sm h (by omega)
    · rw [List.mem_singleton.1 e]; exact lf_sm hw
  · exact bg_bd h
theorem both_no {t : Dt} {n : Int} {sf outs w other : List Int} (h1 : spE t n sf outs w other = 0) (h2 : grE t n outs w = 0) : False := by
  obtain ⟨_, a, _⟩ := sp_ok h1
  obtain ⟨_, b, _⟩ := gr_ok h2
  have := (no_ok a).2.2
  rw [(no_ok b).2.2] at this
  cases this
theorem keeps_sp {t : Dt} {n : Int} {sf outs w other : List Int} (h : spE t n sf outs w other = 0 ∧ (dvE (spT t n sf outs w other) ≠ 0 ∨ ¬((if dvE (spT t n sf outs w other) = 0 then sdW (acL (spT t n sf outs w other).nd) else []).length = (if dvE t = 0 then sdW (acL t.nd) else []).length + 1 ∧
    (if dvE (spT t n sf outs w other) = 0 then sdW (acL (spT t n sf outs w other).nd) else []) = sdW ((if dvE t = 0 then sdW (acL t.nd) else []) ++ [w])))) : False := by
  obtain ⟨e, z⟩ := h
  obtain ⟨k1, k2, k3⟩ := split_ok e
  rw [if_pos (sp_ok e).1, if_pos k1] at z
  rcases z with z | z
  · exact z k1
  · exact z ⟨k3, k2⟩
theorem keeps_gr {t : Dt} {n : Int} {outs w : List Int} (h : grE t n outs w = 0 ∧ (dvE (grT t n outs w) ≠ 0 ∨ ¬((if dvE (grT t n outs w) = 0 then sdW (acL (grT t n outs w).nd) else []).length = (if dvE t = 0 then sdW (acL t.nd) else []).length + 1 ∧
    (if dvE (grT t n outs w) = 0 then sdW (acL (grT t n outs w).nd) else []) = sdW ((if dvE t = 0 then sdW (acL t.nd) else []) ++ [w])))) : False := by
  obtain ⟨e, z⟩ := h
  obtain ⟨k1, k2, k3⟩ := grow_ok e
  rw [if_pos (gr_ok e).1, if_pos k1] at z
  rcases z with z | z
  · exact z k1
  · exact z ⟨k3, k2⟩
theorem sd_sm {t : Dt} (hb : Bd t) : ∀ w ∈ (if dvE t = 0 then sdW (acL t.nd) else []), w.length ≤ 1048576 := by
  intro w hw
  split at hw
  · exact ac_len hb w ((mem_sdW _ _).1 hw)
  · simp at hw
theorem sd_ln {t : Dt} (hb : Bd t) : (if dvE t = 0 then sdW (acL t.nd) else []).length ≤ 4096 := by
  split
  · have := sdW_len (acL t.nd); have := acL_len t.nd; have := hb.n; omega
  · simp
end Go.Proofs.Ytmnjchcoigbngaa
namespace Go.Proofs.Ytmnjchcoigbngaa
open Go Go.Proofs
theorem union_pure (ls : List (List (List Int))) (hl : ls.flatten.length ≤ 10000) (hw : ∀ w ∈ ls.flatten, w.length ≤ 1048576) : PureC Try.prog 36 [(V.sl (List.map cLL (ls)))] (intss (sdW ls.flatten)) := by
 refine pW Try.func36 s36_ok fun hB => ?_
 unfold s36
 dsimp only
 refine W_r (R_mv (@rfl V V.nilsl) (R_e (W_r (R_lazy (i := 3) (n := 0) rfl (congrArg Blk.ver rfl) (R_e (W_seq_seq (W_r ?_)))))))
 refine R_mv (@rfl V (iV (0 : Int))) (R_e (W_seq_blockg fun Q1 n1 x1 y1 z1 => ?_))
 refine W_loop (fun mm T H => ∃ (k : Nat) (v : Nat), mm = ls.length - k ∧ T 0 = (V.sl (List.map cLL (ls))) ∧ T 3 = (V.ms 3 v 0 ((flT ls k).length)) ∧ T 4 = (iV ((k : Nat) : Int)) ∧ H 3 = (bz v 25 1 (List.map cL (flT ls k))) ∧ (k ≤ ls.length)) ?_ ?_
 ·
  refine ⟨_, 0, 1, rfl, rfl, (Eq.trans (@rfl V (V.ms 3 1 0 (0))) (by first | rfl | (rw [flT_tk (show k < ls.length by omega), List.length_append]; done) | simp [flT_0])), (Eq.trans (@rfl V (iV (0 : Int))) rfl), (Eq.trans (@rfl Blk (bz 1 25 1 [])) (by first | rfl | (rw [flT_tk (show k < ls.length by omega)]; done) | simp [flT_0])), ?_⟩
  · omega
 intro mm T H ⟨k, v, hmm, t0, t3, t4, h3, hk⟩ Q2 p12 p22 p32
 unfold b36_0
 have q1 := flT_le (ls := ls) k
 refine W_seq_seq (W_r (R_mv t4 (R_mv t0 (R_len rfl (R_lss rfl rfl (R_e ?_))))))
 refine W_seq_if rfl (fun c3 => ?_) fun c3 => ?_
 ·
  have q2 := flT_le (ls := ls) (k + 1)
  rw [flT_tk (show k < ls.length by omega), List.length_append] at q2
  refine W_seq_skip (W_seq_blockg fun Q4 n4 x4 y4 z4 => (W_t (R_mv t3 (R_mv t0 (R_mv t4 (R_idx (i := k) (@rfl V (V.sl (List.map cLL (ls)))) (@rfl V (iV ((k : Nat) : Int))) (by omega) rfl (R_load_pp (v := (intss ((nth (ls) (k))))) rfl (by first | rfl | simp [ldV]) ?_)))))))
  refine R_appendS (l := (flT ls k)) (m := ((nth (ls) (k)))) (f := cL) (@rfl V (V.ms 3 v 0 ((flT ls k).length))) h3 (by first | rfl | simp | omega) (@rfl V (intss ((nth (ls) (k))))) (fun _ => rfl) (fun _ => rfl) (by omega) (by omega) (R_mv (@rfl V (V.ms 3 (v + 1) 0 (((flT ls k).length) + ((nth (ls) (k))).length))) (R_e (n4 _ _ (.done (W_t (R_mv t4 (R_addN rfl (@rfl V (iV ((1 : Nat) : Int))) (by omega) ?_)))))))
  refine R_mv (@rfl V (iV ((k + 1 : Nat) : Int))) (R_e ?_)
  refine p12 _ _ _ ?_ ⟨(k + 1), (v + 1), rfl, t0, (Eq.trans (@rfl V (V.ms 3 (v + 1) 0 (((flT ls k).length) + ((nth (ls) (k))).length))) (by first | rfl | (rw [flT_tk (show k < ls.length by omega), List.length_append]; done) | simp [flT_0])), (Eq.trans (@rfl V (iV ((k + 1 : Nat) : Int))) (by first | rfl | (rw [flT_tk (show k < ls.length by omega), List.length_append]; done) | simp [flT_0])), (Eq.trans (@rfl Blk (bz (v + 1) 25 1 (List.map cL (flT ls k ++ ((nth (ls) (k))))))) (by first | rfl | (rw [flT_tk (show k < ls.length by omega)]; done) | simp [flT_0])), ?_⟩
  · omega
  · omega
 have hkn : k = ls.length := by omega
 refine W_seq_exit (p32 _ _ _ (x1 _ _ (fork_ (R := fun T H => T 0 = (V.sl (List.map cLL (ls))) ∧ T 3 = (V.ms 3 v 0 ((flT ls k).length)) ∧ T 4 = (iV ((k : Nat) : Int)) ∧ T 8 = (V.bool (decide (((k : Nat) : Int) < ((ls.length : Nat) : Int)))) ∧ H 3 = (bz v 25 1 (List.map cL (flT ls k))) ∧ True) ⟨t0, t3, t4, (@rfl V (V.bool (decide (((k : Nat) : Int) < ((ls.length : Nat) : Int))))), h3, trivial⟩ ?_)))
 intro T H ⟨t0, t3, t4, t8, h3, _⟩
 refine .freeze 3 (.done ?_)
 refine fork_ (R := fun T H => T 0 = (V.sl (List.map cLL (ls))) ∧ T 3 = (intss (flT ls k)) ∧ T 4 = (iV ((k : Nat) : Int)) ∧ T 8 = (V.bool (decide (((k : Nat) : Int) < ((ls.length : Nat) : Int)))) ∧ ((H 3).ver = v ∧ (H 3).live = false) ∧ True) ⟨(fzT_q t0 rfl), (fzT_q t3 (fzq_own h3 (by first | rfl | simp) (l := (flT ls k)) rfl (by first | rfl | simp | omega))), (fzT_q t4 rfl), (fzT_q t8 rfl), (kill_self (congrArg Blk.ver h3)), trivial⟩ ?_
 intro T H ⟨t0, t3, t4, t8, h3, _⟩
 refine W_r (R_mv t3 (R_callc (evcons rfl evnil) (rsorted_pure (flT ls k) (by rw [flT_end hkn]; exact hl) (by rw [flT_end hkn]; exact hw)) (R_mv (@rfl V (intss (sdW (flT ls k)))) (R_e (W_ret ?_)))))
 refine Ret_1 (@rfl V (intss (sdW (flT ls k)))) (fz_sl ?_ (fun _ => by simp))
 · rw [flT_end hkn]
theorem more_pure (l k : List (List Int)) (w : List Int) (hl : l.length ≤ 4096) (hw : ∀ u ∈ l, u.length ≤ 1048576) (h1 : w.length ≤ 1048576) : PureC Try.prog 11 [(intss l), (intss k), (ints w)] (V.bool (decide (k.length = l.length + 1 ∧ k = sdW (l ++ [w])))) := by
 refine pW Try.func11 s11_ok fun hB => ?_
 unfold s11
 dsimp only
 refine W_r (R_mv (@rfl V (V.bool false)) (R_e (W_r (R_mv (@rfl V (intss k)) (R_len rfl (R_mv (@rfl V (intss l)) (R_len rfl ?_)))))))
 refine R_addN rfl (@rfl V (iV ((1 : Nat) : Int))) (by omega) (R_eql rfl rfl (R_mv (@rfl V (V.bool (decide (((k.length : Nat) : Int) = ((l.length + 1 : Nat) : Int))))) ?_))
 refine Ops_seg 8 (fun T H => T 21 = (V.bool (decide ((((k.length : Nat) : Int) = ((l.length + 1 : Nat) : Int)) ∧ (k = (sdW ([l, [w]]).flatten))))) ∧ True) ?_ ?_
 ·
  by_cases g1 : ((k.length : Nat) : Int) = ((l.length + 1 : Nat) : Int)
  ·
   refine G_yes (edT g1 rfl) (R_mv (@rfl V (intss k)) (G_yes (edT g1 rfl) (R_mv (@rfl V (intss l)) (G_yes (edT g1 rfl) (R_mv (@rfl V (ints w)) (G_yes (edT g1 rfl) (R_bslice (qs := [(0, (ints w))]) (rows := [[(ints w)]]) (mcons (congrArg (fun v => (0, v)) rfl) rfl) rfl ?_)))))))
   refine G_yes (edT g1 rfl) (R_bslice (qs := [(0, (intss l)), (1, (V.sl [[(ints w)]]))]) (rows := [[(intss l)], [(V.sl [[(ints w)]])]]) (mcons (congrArg (fun v => (0, v)) rfl) (mcons (congrArg (fun v => (1, v)) rfl) rfl)) rfl (G_yes (edT g1 rfl) (R_callc (evcons rfl evnil) (union_pure ([l, [w]]) (by simp; omega) (by intro u hu; simp at hu; rcases hu with e | e; exact hw u e; (rw [e]; exact h1))) (G_yes (edT g1 rfl) (R_callc (evcons rfl (evcons rfl evnil)) (swords_pure k (sdW ([l, [w]]).flatten)) (R_pickT (edT g1 rfl) rfl ?_))))))
   exact ⟨(dec_andT g1), trivial⟩
  ·
   refine G_n (edF g1 rfl) (G_n (edF g1 rfl) (G_n (edF g1 rfl) (G_n (edF g1 rfl) (G_n (edF g1 rfl) (G_n (edF g1 rfl) (G_n (edF g1 rfl) (R_pickF (edF g1 rfl) rfl ?_)))))))
   exact ⟨(dec_andF g1), trivial⟩
 intro T H ⟨t21, _⟩
 refine R_mv t21 (R_e (W_ret ?_))
 refine Ret_1 (@rfl V (V.bool (decide ((((k.length : Nat) : Int) = ((l.length + 1 : Nat) : Int)) ∧ (k = (sdW ([l, [w]]).flatten)))))) (fz_bool ?_)
 · exact decide_eq_decide.2 (by simp; omega)
theorem law3_pure (t : Dt) (c : Ct) : PureC Try.prog 3 [(V.agg [(V.sl (List.map cN (t.nd)))]), (V.agg [(iV (c.lf)), (ints c.sf), (ints c.ou), (ints c.ac), (ints c.ot)])] (V.bool true) := by
 refine pW Try.func3 s3_ok fun hB => ?_
 unfold s3
 dsimp only
 refine W_r (R_box (i := 2) (n := 0) (m := 1) (cs := [(V.sl (List.map cN (t.nd)))]) rfl (congrArg Blk.ver rfl) rfl rfl rfl (R_box (i := 3) (n := 0) (m := 5) (cs := [(iV (c.lf)), (ints c.sf), (ints c.ou), (ints c.ac), (ints c.ot)]) rfl (congrArg Blk.ver rfl) rfl rfl rfl (R_mv (@rfl V (V.bool false)) (R_e (W_seq_seq (W_r (R_load_mp (v := (V.agg [(V.sl (List.map cN (t.nd)))])) rfl rfl (lB oB rfl rfl) ?_)))))))
 refine R_callc (evcons rfl evnil) (great_pure t) (R_mv (@rfl V (V.bool (bgT t))) ?_)
 refine Ops_seg 3 (fun T H => T 2 = (V.mp 2 1 0 0) ∧ T 3 = (V.mp 3 1 0 0) ∧ T 15 = (V.bool (((bgT t) || (lgC c)))) ∧ H 2 = (bk 1 24 1 [[(V.sl (List.map cN (t.nd)))]]) ∧ H 3 = (bk 1 27 5 [[(iV (c.lf)), (ints c.sf), (ints c.ou), (ints c.ac), (ints c.ot)]]) ∧ H 6 = (⟨0, false, false, 0, 0, []⟩ : Blk) ∧ H 8 = (⟨0, false, false, 0, 0, []⟩ : Blk) ∧ True) ?_ ?_
 ·
  by_cases g1 : (bgT t) = true
  ·
   refine G_n (ebT g1 rfl) (G_n (ebT g1 rfl) (R_pickT (ebT g1 rfl) rfl ?_))
   exact ⟨rfl, rfl, (borT g1), rfl, rfl, rfl, rfl, trivial⟩
  ·
   refine G_yes (ebF g1 rfl) (R_load_mp (v := (V.agg [(iV (c.lf)), (ints c.sf), (ints c.ou), (ints c.ac), (ints c.ot)])) rfl rfl (lB oB rfl rfl) (G_yes (ebF g1 rfl) (R_callc (evcons rfl evnil) (long_pure c) (R_pickF (ebF g1 rfl) rfl ?_))))
   exact ⟨rfl, rfl, (borF g1), rfl, rfl, rfl, rfl, trivial⟩
 intro T H ⟨t2, t3, t15, h2, h3, h6, h8, _⟩
 refine R_e ?_
 refine W_seq_ifb t15 (fun c2 => ?_) (fun c2 => ?_)
 ·
  refine W_seq_seq (W_r (R_callc evnil (aw_learnerlaw26_awake_pure) (R_mv (@rfl V (V.bool true)) (R_e (W_seq_ret ?_)))))
  refine Ret_1 (@rfl V (V.bool true)) (fz_canon (by simp) rfl)
 have q1 := c2
 simp only [Bool.or_eq_false_iff] at q1
 have hb := bg_bd (t := t) q1.1
 obtain ⟨l1, l2, l3, l4⟩ := lgC_ok q1.2
 have b1 := sp_bd q1.1 c.lf l1 l2 l3 l4
 have b2 := gr_bd q1.1 c.lf l2 l3
 refine W_seq_skip (W_r (R_load_mp (v := (V.agg [(V.sl (List.map cN (t.nd)))])) t2 h2 (lB oB rfl rfl) (R_callc (evcons rfl evnil) (dleaves_pure t (by first | exact hb | exact b1 | exact b2)) (R_mv (@rfl V (intss ((if dvE t = 0 then sdW (acL t.nd) else [])))) (R_e (W_r (R_load_mp (v := (V.agg [(V.sl (List.map cN (t.nd)))])) t2 h2 (lB oB rfl rfl) ?_)))))))
 refine R_fld_mp (o' := 0) t3 h3 oB rfl (R_load_mp (v := (iV (c.lf))) rfl h3 (lB oB rfl rfl) (R_fld_mp (o' := 1) t3 h3 oB rfl (R_load_mp (v := (ints c.sf)) rfl h3 (lB oB rfl rfl) (R_fld_mp (o' := 2) t3 h3 oB rfl (R_load_mp (v := (ints c.ou)) rfl h3 (lB oB rfl rfl) (R_fld_mp (o' := 3) t3 h3 oB rfl (R_load_mp (v := (ints c.ac)) rfl h3 (lB oB rfl rfl) ?_)))))))
 refine R_fld_mp (o' := 4) t3 h3 oB rfl (R_load_mp (v := (ints c.ot)) rfl h3 (lB oB rfl rfl) (R_callc (evcons rfl (evcons rfl (evcons rfl (evcons rfl (evcons rfl (evcons rfl evnil)))))) (dsplit_pure t ((c.lf)) c.sf c.ou c.ac c.ot hb (by first | omega | assumption) (by first | omega | assumption) (by first | omega | assumption) (by first | omega | assumption)) (R_mv (@rfl V (V.tup [(V.agg [(V.sl (List.map cN ((spT t ((c.lf)) c.sf c.ou c.ac c.ot).nd)))]), (iV (spE t ((c.lf)) c.sf c.ou c.ac c.ot))])) (R_ext (v := (V.agg [(V.sl (List.map cN ((spT t ((c.lf)) c.sf c.ou c.ac c.ot).nd)))])) rfl rfl (R_ext (v := (iV (spE t ((c.lf)) c.sf c.ou c.ac c.ot))) rfl rfl (R_alloc (i := 6) (n := 0) (m := 1) rfl (congrArg Blk.ver h6) rfl (R_store (vs := [(V.sl (List.map cN ((spT t ((c.lf)) c.sf c.ou c.ac c.ot).nd)))]) (B' := (bk 1 24 1 [[(V.sl (List.map cN ((spT t ((c.lf)) c.sf c.ou c.ac c.ot).nd)))]])) rfl rfl rfl rfl (sB oB rfl rfl rfl rfl rfl) ?_)))))))
 refine R_mv (@rfl V (iV (spE t ((c.lf)) c.sf c.ou c.ac c.ot))) (R_e ?_)
 refine W_seq_regc (fun T H => T 3 = (V.mp 3 1 0 0) ∧ T 5 = (intss ((if dvE t = 0 then sdW (acL t.nd) else []))) ∧ T 6 = (V.mp 6 1 0 0) ∧ T 7 = (iV (spE t ((c.lf)) c.sf c.ou c.ac c.ot)) ∧ T 8 = (V.mp 8 1 0 0) ∧ T 9 = (iV (grE t ((c.lf)) c.ou c.ac)) ∧ H 2 = (bk 1 24 1 [[(V.sl (List.map cN (t.nd)))]]) ∧ H 3 = (bk 1 27 5 [[(iV (c.lf)), (ints c.sf), (ints c.ou), (ints c.ac), (ints c.ot)]]) ∧ H 6 = (bk 1 24 1 [[(V.sl (List.map cN ((spT t ((c.lf)) c.sf c.ou c.ac c.ot).nd)))]]) ∧ H 8 = (bk 1 24 1 [[(V.sl (List.map cN ((grT t ((c.lf)) c.ou c.ac).nd)))]]) ∧ True) ?_ ?_
 ·
  refine R_load_mp (v := (V.agg [(V.sl (List.map cN (t.nd)))])) t2 h2 (lB oB rfl rfl) (R_fld_mp (o' := 0) t3 h3 oB rfl (R_load_mp (v := (iV (c.lf))) rfl h3 (lB oB rfl rfl) (R_fld_mp (o' := 2) t3 h3 oB rfl (R_load_mp (v := (ints c.ou)) rfl h3 (lB oB rfl rfl) (R_fld_mp (o' := 3) t3 h3 oB rfl (R_load_mp (v := (ints c.ac)) rfl h3 (lB oB rfl rfl) (R_callc (evcons rfl (evcons rfl (evcons rfl (evcons rfl evnil)))) (dgrow_pure t ((c.lf)) c.ou c.ac hb (by first | omega | assumption) (by first | omega | assumption)) ?_)))))))
  refine R_mv (@rfl V (V.tup [(V.agg [(V.sl (List.map cN ((grT t ((c.lf)) c.ou c.ac).nd)))]), (iV (grE t ((c.lf)) c.ou c.ac))])) (R_ext (v := (V.agg [(V.sl (List.map cN ((grT t ((c.lf)) c.ou c.ac).nd)))])) rfl rfl (R_ext (v := (iV (grE t ((c.lf)) c.ou c.ac))) rfl rfl (R_alloc (i := 8) (n := 0) (m := 1) rfl (congrArg Blk.ver h8) rfl (R_store (vs := [(V.sl (List.map cN ((grT t ((c.lf)) c.ou c.ac).nd)))]) (B' := (bk 1 24 1 [[(V.sl (List.map cN ((grT t ((c.lf)) c.ou c.ac).nd)))]])) rfl rfl rfl rfl (sB oB rfl rfl rfl rfl rfl) (R_mv (@rfl V (iV (grE t ((c.lf)) c.ou c.ac))) ?_)))))
  exact R_nil ⟨t3, rfl, rfl, rfl, rfl, rfl, h2, h3, rfl, rfl, trivial⟩
 intro T H ⟨t3, t5, t6, t7, t8, t9, h2, h3, h6, h8, _⟩
 refine W_seq_seq (W_r (R_mv t7 (R_eql rfl rfl (R_mv (@rfl V (V.bool (decide ((spE t ((c.lf)) c.sf c.ou c.ac c.ot) = (0 : Int))))) ?_))))
 refine Ops_seg 13 (fun T H => T 3 = (V.mp 3 1 0 0) ∧ T 5 = (intss ((if dvE t = 0 then sdW (acL t.nd) else []))) ∧ T 7 = (iV (spE t ((c.lf)) c.sf c.ou c.ac c.ot)) ∧ T 8 = (V.mp 8 1 0 0) ∧ T 9 = (iV (grE t ((c.lf)) c.ou c.ac)) ∧ T 60 = (V.bool (decide (((spE t ((c.lf)) c.sf c.ou c.ac c.ot) = (0 : Int)) ∧ (((dvE ((spT t ((c.lf)) c.sf c.ou c.ac c.ot))) ≠ (0 : Int)) ∨ (¬(((if dvE ((spT t ((c.lf)) c.sf c.ou c.ac c.ot)) = 0 then sdW (acL ((spT t ((c.lf)) c.sf c.ou c.ac c.ot)).nd) else [])).length = ((if dvE t = 0 then sdW (acL t.nd) else [])).length + 1 ∧ ((if dvE ((spT t ((c.lf)) c.sf c.ou c.ac c.ot)) = 0 then sdW (acL ((spT t ((c.lf)) c.sf c.ou c.ac c.ot)).nd) else [])) = sdW (((if dvE t = 0 then sdW (acL t.nd) else [])) ++ [c.ac]))))))) ∧ H 2 = (bk 1 24 1 [[(V.sl (List.map cN (t.nd)))]]) ∧ H 3 = (bk 1 27 5 [[(iV (c.lf)), (ints c.sf), (ints c.ou), (ints c.ac), (ints c.ot)]]) ∧ H 6 = (bk 1 24 1 [[(V.sl (List.map cN ((spT t ((c.lf)) c.sf c.ou c.ac c.ot).nd)))]]) ∧ H 8 = (bk 1 24 1 [[(V.sl (List.map cN ((grT t ((c.lf)) c.ou c.ac).nd)))]]) ∧ True) ?_ ?_
 ·
  by_cases g3 : (spE t ((c.lf)) c.sf c.ou c.ac c.ot) = (0 : Int)
  ·
   refine G_yes (edT g3 rfl) (R_load_mp (v := (V.agg [(V.sl (List.map cN ((spT t ((c.lf)) c.sf c.ou c.ac c.ot).nd)))])) t6 h6 (lB oB rfl rfl) (G_yes (edT g3 rfl) (R_callc (evcons rfl evnil) (dvalid_pure ((spT t ((c.lf)) c.sf c.ou c.ac c.ot)) (by first | exact hb | exact b1 | exact b2)) (G_yes (edT g3 rfl) (R_neq rfl rfl (G_yes (edT g3 rfl) (R_mv (@rfl V (V.bool (decide ((dvE ((spT t ((c.lf)) c.sf c.ou c.ac c.ot))) ≠ (0 : Int))))) ?_)))))))
   refine Ops_seg 8 (fun T H => T 3 = (V.mp 3 1 0 0) ∧ T 5 = (intss ((if dvE t = 0 then sdW (acL t.nd) else []))) ∧ T 7 = (iV (spE t ((c.lf)) c.sf c.ou c.ac c.ot)) ∧ T 8 = (V.mp 8 1 0 0) ∧ T 9 = (iV (grE t ((c.lf)) c.ou c.ac)) ∧ T 47 = (V.bool true) ∧ T 59 = (V.bool (decide (((dvE ((spT t ((c.lf)) c.sf c.ou c.ac c.ot))) ≠ (0 : Int)) ∨ (¬(((if dvE ((spT t ((c.lf)) c.sf c.ou c.ac c.ot)) = 0 then sdW (acL ((spT t ((c.lf)) c.sf c.ou c.ac c.ot)).nd) else [])).length = ((if dvE t = 0 then sdW (acL t.nd) else [])).length + 1 ∧ ((if dvE ((spT t ((c.lf)) c.sf c.ou c.ac c.ot)) = 0 then sdW (acL ((spT t ((c.lf)) c.sf c.ou c.ac c.ot)).nd) else [])) = sdW (((if dvE t = 0 then sdW (acL t.nd) else [])) ++ [c.ac])))))) ∧ H 2 = (bk 1 24 1 [[(V.sl (List.map cN (t.nd)))]]) ∧ H 3 = (bk 1 27 5 [[(iV (c.lf)), (ints c.sf), (ints c.ou), (ints c.ac), (ints c.ot)]]) ∧ H 6 = (bk 1 24 1 [[(V.sl (List.map cN ((spT t ((c.lf)) c.sf c.ou c.ac c.ot).nd)))]]) ∧ H 8 = (bk 1 24 1 [[(V.sl (List.map cN ((grT t ((c.lf)) c.ou c.ac).nd)))]]) ∧ True) ?_ ?_
   ·
    by_cases g4 : (dvE ((spT t ((c.lf)) c.sf c.ou c.ac c.ot))) ≠ (0 : Int)
    ·
     refine G_n (edT g4 rfl) (G_n (edT g4 rfl) (G_n (edT g4 rfl) (G_n (edT g4 rfl) (G_n (edT g4 rfl) (G_n (edT g4 rfl) (G_n (edT g4 rfl) (G_yes (edT g3 rfl) ?_)))))))
     refine R_pickT (edT g4 rfl) rfl ?_
     exact ⟨t3, t5, t7, t8, t9, (edT g3 rfl), (dec_orT g4), h2, h3, h6, h8, trivial⟩
    ·
     refine G_yes (edF g4 rfl) (R_mv t5 (G_yes (edF g4 rfl) (R_load_mp (v := (V.agg [(V.sl (List.map cN ((spT t ((c.lf)) c.sf c.ou c.ac c.ot).nd)))])) t6 h6 (lB oB rfl rfl) (G_yes (edF g4 rfl) (R_callc (evcons rfl evnil) (dleaves_pure ((spT t ((c.lf)) c.sf c.ou c.ac c.ot)) (by first | exact hb | exact b1 | exact b2)) (G_yes (edF g4 rfl) (R_fld_mp (o' := 3) t3 h3 oB rfl ?_)))))))
     refine G_yes (edF g4 rfl) (R_load_mp (v := (ints c.ac)) rfl h3 (lB oB rfl rfl) (G_yes (edF g4 rfl) (R_callc (evcons rfl (evcons rfl (evcons rfl evnil))) (more_pure ((if dvE t = 0 then sdW (acL t.nd) else [])) ((if dvE ((spT t ((c.lf)) c.sf c.ou c.ac c.ot)) = 0 then sdW (acL ((spT t ((c.lf)) c.sf c.ou c.ac c.ot)).nd) else [])) c.ac (sd_ln hb) (sd_sm hb) (by first | omega | assumption)) (G_yes (edF g4 rfl) (R_not rfl (G_yes (edT g3 rfl) (R_pickF (edF g4 rfl) rfl ?_)))))))
     exact ⟨t3, t5, t7, t8, t9, (edT g3 rfl), (dec_orF g4), h2, h3, h6, h8, trivial⟩
   intro T H ⟨t3, t5, t7, t8, t9, t47, t59, h2, h3, h6, h8, _⟩
   refine R_pickT t47 t59 ?_
   exact ⟨t3, t5, t7, t8, t9, (dec_andT g3), h2, h3, h6, h8, trivial⟩
  ·
   refine G_n (edF g3 rfl) (G_n (edF g3 rfl) (G_n (edF g3 rfl) (G_n (edF g3 rfl) (G_raw (@rfl V (V.raw undef)) (G_raw (@rfl V (V.raw undef)) (G_raw (@rfl V (V.raw undef)) (G_raw (@rfl V (V.raw undef)) ?_)))))))
   refine G_raw (@rfl V (V.raw undef)) (G_raw (@rfl V (V.raw undef)) (G_raw (@rfl V (V.raw undef)) (G_n (edF g3 rfl) (R_pickF (edF g3 rfl) rfl ?_))))
   exact ⟨t3, t5, t7, t8, t9, (dec_andF g3), h2, h3, h6, h8, trivial⟩
 intro T H ⟨t3, t5, t7, t8, t9, t60, h2, h3, h6, h8, _⟩
 refine R_e ?_
 refine W_seq_if t60 (fun c5 => ?_) fun c5 => ?_
 ·
  refine W_seq_seq (W_r (R_mv (@rfl V (V.bool false)) (R_e (W_seq_ret ?_))))
  refine Ret_1 (@rfl V (V.bool false)) (fz_bool ?_)
  · exact (keeps_sp c5).elim
 refine W_seq_skip (W_seq_seq (W_r (R_mv t9 (R_eql rfl rfl (R_mv (@rfl V (V.bool (decide ((grE t ((c.lf)) c.ou c.ac) = (0 : Int))))) ?_)))))
 refine Ops_seg 13 (fun T H => T 7 = (iV (spE t ((c.lf)) c.sf c.ou c.ac c.ot)) ∧ T 9 = (iV (grE t ((c.lf)) c.ou c.ac)) ∧ T 76 = (V.bool (decide (((grE t ((c.lf)) c.ou c.ac) = (0 : Int)) ∧ (((dvE ((grT t ((c.lf)) c.ou c.ac))) ≠ (0 : Int)) ∨ (¬(((if dvE ((grT t ((c.lf)) c.ou c.ac)) = 0 then sdW (acL ((grT t ((c.lf)) c.ou c.ac)).nd) else [])).length = ((if dvE t = 0 then sdW (acL t.nd) else [])).length + 1 ∧ ((if dvE ((grT t ((c.lf)) c.ou c.ac)) = 0 then sdW (acL ((grT t ((c.lf)) c.ou c.ac)).nd) else [])) = sdW (((if dvE t = 0 then sdW (acL t.nd) else [])) ++ [c.ac]))))))) ∧ H 2 = (bk 1 24 1 [[(V.sl (List.map cN (t.nd)))]]) ∧ H 3 = (bk 1 27 5 [[(iV (c.lf)), (ints c.sf), (ints c.ou), (ints c.ac), (ints c.ot)]]) ∧ H 6 = (bk 1 24 1 [[(V.sl (List.map cN ((spT t ((c.lf)) c.sf c.ou c.ac c.ot).nd)))]]) ∧ H 8 = (bk 1 24 1 [[(V.sl (List.map cN ((grT t ((c.lf)) c.ou c.ac).nd)))]]) ∧ True) ?_ ?_
 ·
  by_cases g6 : (grE t ((c.lf)) c.ou c.ac) = (0 : Int)
  ·
   refine G_yes (edT g6 rfl) (R_load_mp (v := (V.agg [(V.sl (List.map cN ((grT t ((c.lf)) c.ou c.ac).nd)))])) t8 h8 (lB oB rfl rfl) (G_yes (edT g6 rfl) (R_callc (evcons rfl evnil) (dvalid_pure ((grT t ((c.lf)) c.ou c.ac)) (by first | exact hb | exact b1 | exact b2)) (G_yes (edT g6 rfl) (R_neq rfl rfl (G_yes (edT g6 rfl) (R_mv (@rfl V (V.bool (decide ((dvE ((grT t ((c.lf)) c.ou c.ac))) ≠ (0 : Int))))) ?_)))))))
   refine Ops_seg 8 (fun T H => T 7 = (iV (spE t ((c.lf)) c.sf c.ou c.ac c.ot)) ∧ T 9 = (iV (grE t ((c.lf)) c.ou c.ac)) ∧ T 63 = (V.bool true) ∧ T 75 = (V.bool (decide (((dvE ((grT t ((c.lf)) c.ou c.ac))) ≠ (0 : Int)) ∨ (¬(((if dvE ((grT t ((c.lf)) c.ou c.ac)) = 0 then sdW (acL ((grT t ((c.lf)) c.ou c.ac)).nd) else [])).length = ((if dvE t = 0 then sdW (acL t.nd) else [])).length + 1 ∧ ((if dvE ((grT t ((c.lf)) c.ou c.ac)) = 0 then sdW (acL ((grT t ((c.lf)) c.ou c.ac)).nd) else [])) = sdW (((if dvE t = 0 then sdW (acL t.nd) else [])) ++ [c.ac])))))) ∧ H 2 = (bk 1 24 1 [[(V.sl (List.map cN (t.nd)))]]) ∧ H 3 = (bk 1 27 5 [[(iV (c.lf)), (ints c.sf), (ints c.ou), (ints c.ac), (ints c.ot)]]) ∧ H 6 = (bk 1 24 1 [[(V.sl (List.map cN ((spT t ((c.lf)) c.sf c.ou c.ac c.ot).nd)))]]) ∧ H 8 = (bk 1 24 1 [[(V.sl (List.map cN ((grT t ((c.lf)) c.ou c.ac).nd)))]]) ∧ True) ?_ ?_
   ·
    by_cases g7 : (dvE ((grT t ((c.lf)) c.ou c.ac))) ≠ (0 : Int)
    ·
     refine G_n (edT g7 rfl) (G_n (edT g7 rfl) (G_n (edT g7 rfl) (G_n (edT g7 rfl) (G_n (edT g7 rfl) (G_n (edT g7 rfl) (G_n (edT g7 rfl) (G_yes (edT g6 rfl) ?_)))))))
     refine R_pickT (edT g7 rfl) rfl ?_
     exact ⟨t7, t9, (edT g6 rfl), (dec_orT g7), h2, h3, h6, h8, trivial⟩
    ·
     refine G_yes (edF g7 rfl) (R_mv t5 (G_yes (edF g7 rfl) (R_load_mp (v := (V.agg [(V.sl (List.map cN ((grT t ((c.lf)) c.ou c.ac).nd)))])) t8 h8 (lB oB rfl rfl) (G_yes (edF g7 rfl) (R_callc (evcons rfl evnil) (dleaves_pure ((grT t ((c.lf)) c.ou c.ac)) (by first | exact hb | exact b1 | exact b2)) (G_yes (edF g7 rfl) (R_fld_mp (o' := 3) t3 h3 oB rfl ?_)))))))
     refine G_yes (edF g7 rfl) (R_load_mp (v := (ints c.ac)) rfl h3 (lB oB rfl rfl) (G_yes (edF g7 rfl) (R_callc (evcons rfl (evcons rfl (evcons rfl evnil))) (more_pure ((if dvE t = 0 then sdW (acL t.nd) else [])) ((if dvE ((grT t ((c.lf)) c.ou c.ac)) = 0 then sdW (acL ((grT t ((c.lf)) c.ou c.ac)).nd) else [])) c.ac (sd_ln hb) (sd_sm hb) (by first | omega | assumption)) (G_yes (edF g7 rfl) (R_not rfl (G_yes (edT g6 rfl) (R_pickF (edF g7 rfl) rfl ?_)))))))
     exact ⟨t7, t9, (edT g6 rfl), (dec_orF g7), h2, h3, h6, h8, trivial⟩
   intro T H ⟨t7, t9, t63, t75, h2, h3, h6, h8, _⟩
   refine R_pickT t63 t75 ?_
   exact ⟨t7, t9, (dec_andT g6), h2, h3, h6, h8, trivial⟩
  ·
   refine G_n (edF g6 rfl) (G_n (edF g6 rfl) (G_n (edF g6 rfl) (G_n (edF g6 rfl) (G_raw (@rfl V (V.raw undef)) (G_raw (@rfl V (V.raw undef)) (G_raw (@rfl V (V.raw undef)) (G_raw (@rfl V (V.raw undef)) ?_)))))))
   refine G_raw (@rfl V (V.raw undef)) (G_raw (@rfl V (V.raw undef)) (G_raw (@rfl V (V.raw undef)) (G_n (edF g6 rfl) (R_pickF (edF g6 rfl) rfl ?_))))
   exact ⟨t7, t9, (dec_andF g6), h2, h3, h6, h8, trivial⟩
 intro T H ⟨t7, t9, t76, h2, h3, h6, h8, _⟩
 refine R_e ?_
 refine W_seq_if t76 (fun c8 => ?_) fun c8 => ?_
 ·
  refine W_seq_seq (W_r (R_mv (@rfl V (V.bool false)) (R_e (W_seq_ret ?_))))
  refine Ret_1 (@rfl V (V.bool false)) (fz_bool ?_)
  · exact (keeps_gr c8).elim
 refine W_seq_skip (W_r (R_mv t7 (R_neq rfl rfl (R_mv (@rfl V (V.bool (decide ((spE t ((c.lf)) c.sf c.ou c.ac c.ot) ≠ (0 : Int))))) ?_))))
 refine Ops_seg 3 (fun T H => T 82 = (V.bool (decide (((spE t ((c.lf)) c.sf c.ou c.ac c.ot) ≠ (0 : Int)) ∨ ((grE t ((c.lf)) c.ou c.ac) ≠ (0 : Int))))) ∧ H 2 = (bk 1 24 1 [[(V.sl (List.map cN (t.nd)))]]) ∧ H 3 = (bk 1 27 5 [[(iV (c.lf)), (ints c.sf), (ints c.ou), (ints c.ac), (ints c.ot)]]) ∧ H 6 = (bk 1 24 1 [[(V.sl (List.map cN ((spT t ((c.lf)) c.sf c.ou c.ac c.ot).nd)))]]) ∧ H 8 = (bk 1 24 1 [[(V.sl (List.map cN ((grT t ((c.lf)) c.ou c.ac).nd)))]]) ∧ True) ?_ ?_
 ·
  by_cases g9 : (spE t ((c.lf)) c.sf c.ou c.ac c.ot) ≠ (0 : Int)
  ·
   refine G_n (edT g9 rfl) (G_n (edT g9 rfl) (R_pickT (edT g9 rfl) rfl ?_))
   exact ⟨(dec_orT g9), h2, h3, h6, h8, trivial⟩
  ·
   refine G_yes (edF g9 rfl) (R_mv t9 (G_yes (edF g9 rfl) (R_neq rfl rfl (R_pickF (edF g9 rfl) rfl ?_))))
   exact ⟨(dec_orF g9), h2, h3, h6, h8, trivial⟩
 intro T H ⟨t82, h2, h3, h6, h8, _⟩
 refine R_mv t82 ?_
 refine Ops_seg 2 (fun T H => T 85 = (V.bool (decide (((spE t ((c.lf)) c.sf c.ou c.ac c.ot) ≠ (0 : Int)) ∨ ((grE t ((c.lf)) c.ou c.ac) ≠ (0 : Int))))) ∧ H 2 = (bk 1 24 1 [[(V.sl (List.map cN (t.nd)))]]) ∧ H 3 = (bk 1 27 5 [[(iV (c.lf)), (ints c.sf), (ints c.ou), (ints c.ac), (ints c.ot)]]) ∧ H 6 = (bk 1 24 1 [[(V.sl (List.map cN ((spT t ((c.lf)) c.sf c.ou c.ac c.ot).nd)))]]) ∧ H 8 = (bk 1 24 1 [[(V.sl (List.map cN ((grT t ((c.lf)) c.ou c.ac).nd)))]]) ∧ True) ?_ ?_
 ·
  by_cases g10 : ((spE t ((c.lf)) c.sf c.ou c.ac c.ot) ≠ (0 : Int)) ∨ ((grE t ((c.lf)) c.ou c.ac) ≠ (0 : Int))
  ·
   refine G_yes (edT g10 rfl) (R_callc evnil (aw_learnerlaw26_awake_pure) (R_pickT (edT g10 rfl) rfl ?_))
   exact ⟨(dec_T g10), h2, h3, h6, h8, trivial⟩
  ·
   refine G_n (edF g10 rfl) (R_pickF (edF g10 rfl) rfl ?_)
   exact ⟨(dec_F g10), h2, h3, h6, h8, trivial⟩
 intro T H ⟨t85, h2, h3, h6, h8, _⟩
 refine R_mv t85 (R_e (W_ret ?_))
 refine Ret_1 (@rfl V (V.bool (decide (((spE t ((c.lf)) c.sf c.ou c.ac c.ot) ≠ (0 : Int)) ∨ ((grE t ((c.lf)) c.ou c.ac) ≠ (0 : Int)))))) (fz_bool ?_)
 · by_cases e1 : spE t c.lf c.sf c.ou c.ac c.ot = 0
   · by_cases e2 : grE t c.lf c.ou c.ac = 0
     · exact (both_no e1 e2).elim
     · simp [e2]
   · simp [e1]
end Go.Proofs.Ytmnjchcoigbngaa
namespace Go.Proofs.Ytmnjchcoigbngaa
open Go Go.Proofs Go.Proofs.Ytmnjchcoigbngaa Go.ChangeShapes Go.WideShapes Go.ChangeAt Go.RowKit
structure UT (P : Program) : Prop where
  u22 : P.underlying 22 = some (.slice 41)
  u4 : P.underlying 4 = some (.bool)
  u25 : P.underlying 25 = some (.slice 3)
  u3 : P.underlying 3 = some (.int .i64)
  u31 : P.underlying 31 = some (.slice 25)
  u41 : ∃ f0 f1 f2 f3 f4 : Field, P.underlying 41 = some (.struct #[f0, f1, f2, f3, f4]) ∧ f0.type = 4 ∧ f1.type = 25 ∧ f2.type = 25 ∧ f3.type = 31 ∧ f4.type = 25
  u24 : ∃ f0 : Field, P.underlying 24 = some (.struct #[f0]) ∧ f0.type = 22
  u27 : ∃ f0 f1 f2 f3 f4 : Field, P.underlying 27 = some (.struct #[f0, f1, f2, f3, f4]) ∧ f0.type = 3 ∧ f1.type = 25 ∧ f2.type = 25 ∧ f3.type = 25 ∧ f4.type = 25
theorem sh4 {P : Program} (U : UT P) (n : Nat) (vs : List V) (h : Shp P (n + 1) 4 vs) : ∃ a : Bool, vs = (fun b => [V.bool b]) a := shp_bool U.u4 h
theorem sh3 {P : Program} (U : UT P) (n : Nat) (vs : List V) (h : Shp P (n + 1) 3 vs) : ∃ a : Int, vs = cI a := shp_int U.u3 h
theorem sh25 {P : Program} (U : UT P) (n : Nat) (vs : List V) (h : Shp P (n + 2) 25 vs) : ∃ a : List Int, vs = cL a := shp_slice (f := cI) U.u25 (fun vs h => sh3 U n vs h) h
theorem sh31 {P : Program} (U : UT P) (n : Nat) (vs : List V) (h : Shp P (n + 3) 31 vs) : ∃ a : List (List Int), vs = (fun l => [V.sl (List.map cL l)]) a := shp_slice (f := cL) U.u31 (fun vs h => sh25 U n vs h) h
theorem sh41 {P : Program} (U : UT P) (n : Nat) (vs : List V) (h : Shp P (n + 4) 41 vs) : ∃ a : Nd, vs = cN a := by
  obtain ⟨f0, f1, f2, f3, f4, hu, k0, k1, k2, k3, k4⟩ := U.u41
  have h0 := shp_step hu h
  obtain ⟨x0, u0, e0, h1⟩ := shpL_cons (c := (fun b => [V.bool b])) (fun vs h => sh4 U (n + 2) vs (by rw [k0] at h; exact h)) h0
  obtain ⟨x1, u1, e1, h2⟩ := shpL_cons (c := cL) (fun vs h => sh25 U (n + 1) vs (by rw [k1] at h; exact h)) h1
  obtain ⟨x2, u2, e2, h3⟩ := shpL_cons (c := cL) (fun vs h => sh25 U (n + 1) vs (by rw [k2] at h; exact h)) h2
  obtain ⟨x3, u3, e3, h4⟩ := shpL_cons (c := (fun l => [V.sl (List.map cL l)])) (fun vs h => sh31 U (n + 0) vs (by rw [k3] at h; exact h)) h3
  obtain ⟨x4, u4, e4, h5⟩ := shpL_cons (c := cL) (fun vs h => sh25 U (n + 1) vs (by rw [k4] at h; exact h)) h4
  have e5 := shpL_nil h5
  exact ⟨⟨x0, x1, x2, x3, x4⟩, by rw [e0, e1, e2, e3, e4, e5]; rfl⟩
theorem sh22 {P : Program} (U : UT P) (n : Nat) (vs : List V) (h : Shp P (n + 5) 22 vs) : ∃ a : List Nd, vs = (fun l => [V.sl (List.map cN l)]) a := shp_slice (f := cN) U.u22 (fun vs h => sh41 U n vs h) h
theorem sh24 {P : Program} (U : UT P) (n : Nat) (vs : List V) (h : Shp P (n + 6) 24 vs) : ∃ a : Dt, vs = cD a := by
  obtain ⟨f0, hu, k0⟩ := U.u24
  have h0 := shp_step hu h
  obtain ⟨x0, u0, e0, h1⟩ := shpL_cons (c := (fun l => [V.sl (List.map cN l)])) (fun vs h => sh22 U (n + 0) vs (by rw [k0] at h; exact h)) h0
  have e1 := shpL_nil h1
  exact ⟨⟨x0⟩, by rw [e0, e1]; rfl⟩
theorem sh27 {P : Program} (U : UT P) (n : Nat) (vs : List V) (h : Shp P (n + 3) 27 vs) : ∃ a : Ct, vs = cCt a := by
  obtain ⟨f0, f1, f2, f3, f4, hu, k0, k1, k2, k3, k4⟩ := U.u27
  have h0 := shp_step hu h
  obtain ⟨x0, u0, e0, h1⟩ := shpL_cons (c := cI) (fun vs h => sh3 U (n + 1) vs (by rw [k0] at h; exact h)) h0
  obtain ⟨x1, u1, e1, h2⟩ := shpL_cons (c := cL) (fun vs h => sh25 U (n + 0) vs (by rw [k1] at h; exact h)) h1
  obtain ⟨x2, u2, e2, h3⟩ := shpL_cons (c := cL) (fun vs h => sh25 U (n + 0) vs (by rw [k2] at h; exact h)) h2
  obtain ⟨x3, u3, e3, h4⟩ := shpL_cons (c := cL) (fun vs h => sh25 U (n + 0) vs (by rw [k3] at h; exact h)) h3
  obtain ⟨x4, u4, e4, h5⟩ := shpL_cons (c := cL) (fun vs h => sh25 U (n + 0) vs (by rw [k4] at h; exact h)) h4
  have e5 := shpL_nil h5
  exact ⟨⟨x0, x1, x2, x3, x4⟩, by rw [e0, e1, e2, e3, e4, e5]; rfl⟩
theorem ut : UT Try.prog := ⟨by kernel_rfl, by kernel_rfl, by kernel_rfl, by kernel_rfl, by kernel_rfl, ⟨_, _, _, _, _, Try.underlying41, rfl, rfl, rfl, rfl, rfl⟩, ⟨_, Try.underlying24, rfl⟩, ⟨_, _, _, _, _, Try.underlying27, rfl, rfl, rfl, rfl, rfl⟩⟩
theorem args3 {P : Program} (U : UT P) {us : List V} (h : ShpA P 7 [24, 27] us) : ∃ (d0 : Dt) (d1 : Ct), us = [V.agg (cD d0), V.agg (cCt d1)] := by
  obtain ⟨a0, b0, e0, h0, h⟩ := shpA_cons h
  obtain ⟨d0, g0⟩ := sh24 U 1 a0 h0
  have q0 : packV P 24 a0 = V.agg (cD d0) := by obtain ⟨_, hu, _⟩ := U.u24; rw [g0]; exact pack_struct hu _
  obtain ⟨a1, b1, e1, h1, h⟩ := shpA_cons h
  obtain ⟨d1, g1⟩ := sh27 U 4 a1 h1
  have q1 : packV P 27 a1 = V.agg (cCt d1) := by obtain ⟨_, _, _, _, _, hu, _⟩ := U.u27; rw [g1]; exact pack_struct hu _
  have e2 := shpA_nil h
  exact ⟨d0, d1, by rw [e0, q0, e1, q1, e2]⟩
theorem own3 : ownKnob Try.prog.godebug = none := by kernel_rfl
set_option maxRecDepth 100000 in
theorem lifted3 (os : Os) (started : os.Started) (H : Type) (enc : TypeId × Value → H) :
    ReturnsInHanded {} Try.checked os 3 .any (Rows.dtreeKeepsSpec.pre6 enc Try.prog Try.f3 Rows.dtreeKeepsRow.domain false) (Rows.dtreeKeepsSpec.post enc Try.prog Try.f3 false true false false) := by
  refine returnsInHanded_of_change (C := Try.checked) own3 started (by kernel_rfl) Try.func3
    (ChangeSpec.witness6 (enc := enc) (C := Try.checked) false ⟨#[], #[.agg #[.slice none 0 0], .agg #[.int .i64 0, .slice none 0 0, .slice none 0 0, .slice none 0 0, .slice none 0 0]], []⟩ 8 (by kernel_rfl) (by kernel_rfl) (by kernel_rfl) (by kernel_rfl)) ?_
  intro W base args ds gs before hval0 hW hcnd _
  refine law_post (n := 7) (tb := 4) (by kernel_rfl) (by kernel_rfl) (by kernel_rfl) (fun t ht => ?_) rfl ?_ (fun us hu => ?_) hval0 hW
  · have h : t ∈ [24, 27] := ht
    simp only [List.mem_cons, List.not_mem_nil, or_false] at h
    rcases h with rfl | rfl
    · exact ⟨by kernel_rfl, by kernel_rfl, of_decide_eq_true (by kernel_rfl)⟩
    · exact ⟨by kernel_rfl, by kernel_rfl, of_decide_eq_true (by kernel_rfl)⟩
  · obtain ⟨p, q, hA, hV, rfl, hfz, hnd⟩ := hW
    obtain ⟨rfl, rfl⟩ := trodVars_none hV
    change DataW.TrodAll enc Try.prog W 0 (fun _ => true) true [24, 27] args.toList ds p at hA
    obtain ⟨v0, vs0, y0, ds0, pa0, pb0, hv0, rfl, rfl, _, hA⟩ := trodAll_cons hA
    obtain ⟨v1, vs1, y1, ds1, pa1, pb1, hv1, rfl, rfl, _, hA⟩ := trodAll_cons hA
    obtain ⟨_, rfl, rfl⟩ := trodAll_nil hA
    rfl
  · obtain ⟨d0, d1, rfl⟩ := args3 ut hu
    exact law3_pure d0 d1
theorem proved3 : Rows.DtreeKeepsSaid :=
  OpenClaim.holds_of_wide 3 Try.f3 rfl rfl rfl rfl rfl rfl rfl ⟨rfl, rfl, rfl, rfl, rfl⟩ rfl rfl rfl rfl rfl (by kernel_rfl) Try.func3 (by kernel_rfl)
    (of_decide_eq_true (by kernel_rfl)) (by unfold Func.isWrapper; first | (rw [if_pos (by decide +kernel)]; kernel_rfl) | (rw [if_neg (by decide +kernel)]; exact ⟨rfl, rfl⟩))
    (fun os started H enc _ => lifted3 os started H enc)
end Go.Proofs.Ytmnjchcoigbngaa
