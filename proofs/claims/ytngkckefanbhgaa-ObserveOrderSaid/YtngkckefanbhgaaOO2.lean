/- Contracts of the functions that the law OO reaches, and the law itself, for every input; no condition. -/
import Derived.KernelRfl
import Derived.Test.YtngkckefanbhgaaProg
import Derived.Shelf.SlSortCmp.NoneTotal
import Derived.Shelf.Spec.SlicesInsertGrow
import Derived.Test.YtngkckefanbhgaaOO1
set_option linter.unusedSimpArgs false
set_option linter.unusedVariables false
namespace Go.Proofs.Ytngkckefanbhgaa
open Go Go.Proofs
theorem clonetr_E (l : List Tr) (v5 : Nat) (Hi : Heap) (h105 : (Hi 105).ver = v5) (hne : l ≠ []) (hl : l.length ≤ 1000000) : CallOK Try.prog 108 [(V.sl (List.map cT (l)))] Hi (V.ms 105 (v5 + 2) 0 (l.length)) (upd Hi 105 (⟨v5 + 2, true, false, 63, 2, (List.map cT (l))⟩ : Blk)) := by
 refine CallOK_of_Wf (k0 := 100) Try.func108 s108_ok (by kernel_rfl) (by simp [s108]) fun hB => ?_
 simp only [bnd_map, bnd_int, bnd_bool, bnd_str, bnd_agg, bnd_pp, bnd_nil, bnd_cons, implies_true, and_true, true_and] at hB
 unfold s108
 dsimp only
 refine W_seq_regc (fun T H => T 0 = (V.sl (List.map cT (l))) ∧ (∀ j, j ∉ [105] → H j = Hi j) ∧ (H 105).ver = v5 ∧ True) ?_ ?_
 ·
  unfold r108_0
  refine R_mv (@rfl V V.nilsl) ?_
  exact R_nil ⟨rfl, (fun _ _ => rfl), h105, trivial⟩
 intro T H ⟨t0, hF, h105, _⟩
 refine W_seq_seq ?_
 refine W_seq_regc (fun T H => T 0 = (V.sl (List.map cT (l))) ∧ T 4 = (V.bool false) ∧ (∀ j, j ∉ [105] → H j = Hi j) ∧ (H 105).ver = v5 ∧ True) ?_ ?_
 ·
  unfold r108_1
  refine R_mv t0 ?_
  refine R_isnil_sl (@rfl V (V.sl (List.map cT (l)))) (fun e1 => ?_) ?_
  ·
   replace e1 := List.map_eq_nil_iff.1 e1
   exact (hne e1).elim
  ·
   exact R_nil ⟨t0, rfl, hF, h105, trivial⟩
 intro T H ⟨t0, t4, hF, h105, _⟩
 refine W_seq_ifb t4 (fun c2 => ?_) (fun c2 => ?_)
 · cases c2
 refine W_seq_skip ?_
 refine W_seq_regc (fun T H => T 2 = (V.ms 105 (v5 + 2) 0 (0 + (l).length)) ∧ (∀ j, j ∉ [105] → H j = Hi j) ∧ H 105 = (⟨v5 + 2, true, false, 63, 2, (List.map cT ([] ++ l))⟩ : Blk) ∧ True) ?_ ?_
 ·
  unfold r108_3
  refine R_bslice_own (i := 105) (n := v5) (qs := []) (rows := []) rfl h105 rfl rfl ?_
  refine R_mv t0 ?_
  refine R_appendS (l := ([])) (m := l) (f := cT) (@rfl V (V.ms 105 (v5 + 1) 0 (0))) (show _ = (⟨v5 + 1, true, false, 63, 2, (List.map cT ([]))⟩ : Blk) from (@rfl Blk (⟨v5 + 1, true, false, 63, 2, []⟩ : Blk))) (by first | rfl | simp) (@rfl V (V.sl (List.map cT (l)))) (fun _ => rfl) (fun _ => rfl) (by omega) (by omega) ?_
  refine R_mv (@rfl V (V.ms 105 (v5 + 2) 0 (0 + (l).length))) ?_
  exact R_nil ⟨rfl, (upd_out (upd_out hF (by decide)) (by decide)), rfl, trivial⟩
 intro T H ⟨t2, hF, h105, _⟩
 refine W_ret ?_
 have fh := FinX.fin (FinX.put (B := (⟨v5 + 2, true, false, 63, 2, (List.map cT (l))⟩ : Blk)) (FinX.start hF) h105 (FinB.eq (by first | rfl | simp)))
 exact RetF_1 t2 fh (FinV.trans_eq (FinV.same fh _) (by first | rfl | simp))
theorem clonetr_nil  : PureC Try.prog 108 [(V.sl [])] (V.sl []) := by
 refine pure_of_Wb true 6 Try.func108 s108_ok (by kernel_rfl) (by simp [s108]) (by simp) (by simp) fun hB => ?_
 simp only [bnd_map, bnd_int, bnd_bool, bnd_str, bnd_agg, bnd_pp, bnd_nil, bnd_cons, implies_true, and_true, true_and] at hB
 unfold s108
 dsimp only
 refine W_seq_regc (fun T H => T 0 = (V.sl []) ∧ H 5 = (⟨0, false, false, 0, 0, []⟩ : Blk) ∧ True) ?_ ?_
 ·
  unfold r108_0
  refine R_mv (@rfl V V.nilsl) ?_
  exact R_nil ⟨rfl, rfl, trivial⟩
 intro T H ⟨t0, h5, _⟩
 refine W_seq_seq ?_
 refine W_seq_reg fun K hK => ?_
 unfold r108_1
 refine R_mv t0 ?_
 refine R_isnil_sl (@rfl V (V.sl [])) (fun e1 => ?_) ?_
 ·
  refine R_nil (hK _ _ ?_); clear hK K
  refine fork_ (R := fun T H => T 0 = (V.sl []) ∧ T 4 = (V.bool true) ∧ H 5 = (⟨0, false, false, 0, 0, []⟩ : Blk) ∧ True) ⟨t0, rfl, h5, trivial⟩ ?_
  intro T H ⟨t0, t4, h5, _⟩
  refine W_seq_ifb t4 (fun c4 => ?_) (fun c4 => ?_)
  ·
   refine W_seq_seq ?_
   refine W_seq_regc (fun T H => T 2 = V.nilsl ∧ H 5 = (⟨0, false, false, 0, 0, []⟩ : Blk) ∧ True) ?_ ?_
   ·
    unfold r108_2
    refine R_mv (@rfl V V.nilsl) ?_
    exact R_nil ⟨rfl, h5, trivial⟩
   intro T H ⟨t2, h5, _⟩
   refine W_seq_ret ?_
   refine Ret_1 t2 (fz_nil (f := cI) (m := []) rfl)
  · cases c4
 ·
  refine R_nil (hK _ _ ?_); clear hK K
  refine fork_ (R := fun T H => T 0 = (V.sl []) ∧ T 4 = (V.bool false) ∧ H 5 = (⟨0, false, false, 0, 0, []⟩ : Blk) ∧ True) ⟨t0, rfl, h5, trivial⟩ ?_
  intro T H ⟨t0, t4, h5, _⟩
  refine W_seq_ifb t4 (fun c7 => ?_) (fun c7 => ?_)
  · cases c7
  refine W_seq_skip ?_
  refine W_seq_regc (fun T H => T 2 = (V.ms 5 2 0 (0)) ∧ H 5 = (⟨2, true, false, 63, 2, (List.map cT ([]))⟩ : Blk) ∧ True) ?_ ?_
  ·
   unfold r108_3
   refine R_bslice_own (i := 5) (n := 0) (qs := []) (rows := []) rfl (congrArg Blk.ver h5) rfl rfl ?_
   refine R_mv t0 ?_
   refine R_appendS (l := []) (m := []) (f := cT) (@rfl V (V.ms 5 1 0 (0))) (show _ = (⟨1, true, false, 63, 2, (List.map cT ([]))⟩ : Blk) from (@rfl Blk (⟨1, true, false, 63, 2, []⟩ : Blk))) rfl (@rfl V (V.sl [])) (fun _ => rfl) (fun _ => rfl) (by decide) (by decide) ?_
   refine R_mv (@rfl V (V.ms 5 2 0 (0))) ?_
   exact R_nil ⟨rfl, rfl, trivial⟩
  intro T H ⟨t2, h5, _⟩
  refine W_ret ?_
  refine Ret_1 t2 (fz_ms0 h5 (by first | rfl | simp))
end Go.Proofs.Ytngkckefanbhgaa

namespace Go.Proofs.Ytngkckefanbhgaa
open Go Go.Proofs
def r110_0 : List SO := [
  ⟨none, some 2, .box 63 2 (.t 0)⟩,
  ⟨none, some 3, .box 63 2 (.t 1)⟩,
  ⟨none, some 4, .mv (.c (.int .i64 0))⟩]
def r110_1 : List SO := [
  ⟨none, some 5, .fld 0 (.t 2)⟩,
  ⟨none, some 6, .load false 1 (.t 5)⟩,
  ⟨none, some 7, .fld 0 (.t 3)⟩,
  ⟨none, some 8, .load false 1 (.t 7)⟩,
  ⟨none, some 9, .call false 111 [.t 6, .t 8]⟩,
  ⟨none, some 4, .mv (.t 9)⟩]
def s110 : SF := ⟨10, [.tmp 4], .seq (.reg r110_0) (.seq (.reg r110_1) (.ret))⟩
theorem s110_ok : slimF Try.prog ⟨[94, 102, 103, 108, 109, 116, 119, 121, 125], []⟩ Try.f110 = some s110 := by kernel_rfl
end Go.Proofs.Ytngkckefanbhgaa

namespace Go.Proofs.Ytngkckefanbhgaa
open Go Go.Proofs
def r111_0 : List SO := [
  ⟨none, some 4, .mv (.c (.int .i64 0))⟩]
def r111_1 : List SO := [
  ⟨none, some 5, .mv (.t 0)⟩,
  ⟨none, some 6, .mv (.t 1)⟩,
  ⟨none, some 7, .call false 101 [.t 5, .t 6]⟩,
  ⟨none, some 4, .mv (.t 7)⟩]
def s111 : SF := ⟨8, [.tmp 4], .seq (.reg r111_0) (.seq (.reg r111_1) (.ret))⟩
theorem s111_ok : slimF Try.prog ⟨[94, 102, 103, 108, 109, 116, 119, 121, 125], []⟩ Try.f111 = some s111 := by kernel_rfl
end Go.Proofs.Ytngkckefanbhgaa

namespace Go.Proofs.Ytngkckefanbhgaa
open Go Go.Proofs
theorem lex_pure (a b : List Int) : PureC Try.prog 111 [(V.sl (List.map cI (a))), (V.sl (List.map cI (b)))] (iV (lexI a b)) := by
 refine pure_of_Wb true 6 Try.func111 s111_ok (by kernel_rfl) (by simp [s111]) (by simp) (by simp) fun hB => ?_
 simp only [bnd_map, bnd_int, bnd_bool, bnd_str, bnd_agg, bnd_pp, bnd_nil, bnd_cons, implies_true, and_true, true_and] at hB
 unfold s111
 dsimp only
 refine W_seq_regc (fun T H => T 0 = (V.sl (List.map cI (a))) ∧ T 1 = (V.sl (List.map cI (b))) ∧ True) ?_ ?_
 ·
  unfold r111_0
  refine R_mv (@rfl V (iV (0 : Int))) ?_
  exact R_nil ⟨rfl, rfl, trivial⟩
 intro T H ⟨t0, t1, _⟩
 refine W_seq_regc (fun T H => T 4 = (iV (lexI a b)) ∧ True) ?_ ?_
 ·
  unfold r111_1
  refine R_mv t0 ?_
  refine R_mv t1 ?_
  refine R_call (evcons (@rfl V (V.sl (List.map cI (a)))) (evcons (@rfl V (V.sl (List.map cI (b)))) evnil)) (scompare_pure a b) (fzv_mapcanon _ _ (by simp [-List.map_take, -List.map_drop, -List.map_append, -List.map_reverse])) (by simp [-List.map_take, -List.map_drop, -List.map_append, -List.map_reverse]) (Or.inl (by simp [-List.map_take, -List.map_drop, -List.map_append, -List.map_reverse])) ?_
  refine R_mv (@rfl V (iV (lexI a b))) ?_
  exact R_nil ⟨rfl, trivial⟩
 intro T H ⟨t4, _⟩
 refine W_ret ?_
 refine Ret_1 t4 (fz_canon (by simp) rfl)
end Go.Proofs.Ytngkckefanbhgaa

namespace Go.Proofs.Ytngkckefanbhgaa
open Go Go.Proofs
theorem fits1_pure (a b : Tr) : PureC Try.prog 110 [(V.agg [(V.sl (List.map cI (a.ni))), (V.sl (List.map cI (a.no)))]), (V.agg [(V.sl (List.map cI (b.ni))), (V.sl (List.map cI (b.no)))])] (iV (lexI a.ni b.ni)) := by
 refine pure_of_Wb true 6 Try.func110 s110_ok (by kernel_rfl) (by simp [s110]) (by simp) (by simp) fun hB => ?_
 simp only [bnd_map, bnd_int, bnd_bool, bnd_str, bnd_agg, bnd_pp, bnd_nil, bnd_cons, implies_true, and_true, true_and] at hB
 unfold s110
 dsimp only
 refine W_seq_regc (fun T H => T 2 = (V.mp 2 1 0 0) ∧ T 3 = (V.mp 3 1 0 0) ∧ H 2 = (⟨1, true, false, 63, 2, [[(V.sl (List.map cI (a.ni))), (V.sl (List.map cI (a.no)))]]⟩ : Blk) ∧ H 3 = (⟨1, true, false, 63, 2, [[(V.sl (List.map cI (b.ni))), (V.sl (List.map cI (b.no)))]]⟩ : Blk) ∧ True) ?_ ?_
 ·
  unfold r110_0
  refine R_box (i := 2) (n := 0) (m := 2) (cs := [(V.sl (List.map cI (a.ni))), (V.sl (List.map cI (a.no)))]) rfl (congrArg Blk.ver rfl) (@rfl V (V.agg [(V.sl (List.map cI (a.ni))), (V.sl (List.map cI (a.no)))])) rfl rfl ?_
  refine R_box (i := 3) (n := 0) (m := 2) (cs := [(V.sl (List.map cI (b.ni))), (V.sl (List.map cI (b.no)))]) rfl (congrArg Blk.ver rfl) (@rfl V (V.agg [(V.sl (List.map cI (b.ni))), (V.sl (List.map cI (b.no)))])) rfl rfl ?_
  refine R_mv (@rfl V (iV (0 : Int))) ?_
  exact R_nil ⟨rfl, rfl, rfl, rfl, trivial⟩
 intro T H ⟨t2, t3, h2, h3, _⟩
 refine W_seq_regc (fun T H => T 4 = (iV (lexI a.ni b.ni)) ∧ H 2 = (⟨1, true, false, 63, 2, [[(V.sl (List.map cI (a.ni))), (V.sl (List.map cI (a.no)))]]⟩ : Blk) ∧ H 3 = (⟨1, true, false, 63, 2, [[(V.sl (List.map cI (b.ni))), (V.sl (List.map cI (b.no)))]]⟩ : Blk) ∧ True) ?_ ?_
 ·
  unfold r110_1
  refine R_fld_mp (o' := 0) t2 h2 (by first | rfl | simp [okB, Blk.own]) rfl ?_
  refine R_load_mp (v := (V.sl (List.map cI (a.ni)))) (@rfl V (V.mp 2 1 0 0)) h2 (by first | rfl | simp [ldB, ldV, Blk.own, V.one]) ?_
  refine R_fld_mp (o' := 0) t3 h3 (by first | rfl | simp [okB, Blk.own]) rfl ?_
  refine R_load_mp (v := (V.sl (List.map cI (b.ni)))) (@rfl V (V.mp 3 1 0 0)) h3 (by first | rfl | simp [ldB, ldV, Blk.own, V.one]) ?_
  refine R_call (evcons (@rfl V (V.sl (List.map cI (a.ni)))) (evcons (@rfl V (V.sl (List.map cI (b.ni)))) evnil)) (lex_pure a.ni b.ni) (fzv_mapcanon _ _ (by simp [-List.map_take, -List.map_drop, -List.map_append, -List.map_reverse])) (by simp [-List.map_take, -List.map_drop, -List.map_append, -List.map_reverse]) (Or.inl (by simp [-List.map_take, -List.map_drop, -List.map_append, -List.map_reverse])) ?_
  refine R_mv (@rfl V (iV (lexI a.ni b.ni))) ?_
  exact R_nil ⟨rfl, h2, h3, trivial⟩
 intro T H ⟨t4, h2, h3, _⟩
 refine W_ret ?_
 refine Ret_1 t4 (fz_canon (by simp) rfl)
end Go.Proofs.Ytngkckefanbhgaa

namespace Go.Proofs.Ytngkckefanbhgaa
open Go Go.Proofs Go.Shelf Go.Sort
def sortRen109 : Go.Shelf.Ren := ⟨fun | 6 => 109 | 15 => 122 | 14 => 121 | 28 => 133 | 29 => 134 | 20 => 125 | 21 => 126 | 22 => 127 | 23 => 128 | 24 => 129 | 25 => 130 | 26 => 131 | 27 => 132 | 46 => 136 | 47 => 137 | 48 => 138 | 49 => 139 | 50 => 140 | 57 => 142 | n => n, fun | 22 => 32 | 24 => 63 | 25 => 107 | 3 => 3 | 39 => 141 | 0 => 0 | 53 => 151 | 55 => 153 | 4 => 4 | 46 => 145 | 45 => 144 | 50 => 95 | 5 => 5 | 9 => 9 | 66 => 154 | 70 => 158 | 76 => 161 | 77 => 133 | n => n, fun n => n⟩
theorem sortLay109 : SlLaysF0.n6 Try.prog sortRen109 := {
  mixed := (by kernel_rfl),
  f6 := ⟨Try.f109.name, by decide, Try.func109.trans (congrArg some (by kernel_rfl))⟩,
  f14 := ⟨Try.f121.name, by decide, Try.func121.trans (congrArg some (by kernel_rfl))⟩,
  f15 := Try.func122.trans (congrArg some (by kernel_rfl)),
  f20 := ⟨Try.f125.name, by decide, Try.func125.trans (congrArg some (by kernel_rfl))⟩,
  f21 := ⟨Try.f126.name, by decide, Try.func126.trans (congrArg some (by kernel_rfl))⟩,
  f22 := ⟨Try.f127.name, by decide, Try.func127.trans (congrArg some (by kernel_rfl))⟩,
  f23 := ⟨Try.f128.name, by decide, Try.func128.trans (congrArg some (by kernel_rfl))⟩,
  f24 := ⟨Try.f129.name, by decide, Try.func129.trans (congrArg some (by kernel_rfl))⟩,
  f25 := ⟨Try.f130.name, by decide, Try.func130.trans (congrArg some (by kernel_rfl))⟩,
  f26 := ⟨Try.f131.name, by decide, Try.func131.trans (congrArg some (by kernel_rfl))⟩,
  f27 := ⟨Try.f132.name, by decide, Try.func132.trans (congrArg some (by kernel_rfl))⟩,
  f28 := Try.func133.trans (congrArg some (by kernel_rfl)),
  f29 := Try.func134.trans (congrArg some (by kernel_rfl)),
  f46 := ⟨Try.f136.name, by decide, Try.func136.trans (congrArg some (by kernel_rfl))⟩,
  f47 := Try.func137.trans (congrArg some (by kernel_rfl)),
  f48 := Try.func138.trans (congrArg some (by kernel_rfl)),
  f49 := ⟨Try.f139.name, by decide, Try.func139.trans (congrArg some (by kernel_rfl))⟩,
  f50 := ⟨Try.f140.name, by decide, Try.func140.trans (congrArg some (by kernel_rfl))⟩,
  f57 := ⟨Try.f142.name, by decide, Try.func142.trans (congrArg some (by kernel_rfl))⟩,
  t0 := Try.underlying0,
  a0 := Try.isAgg0,
  z0 := Try.sizeOf0,
  v0 := Try.zeroValue0,
  t3 := Try.underlying3,
  a3 := Try.isAgg3,
  z3 := Try.sizeOf3,
  v3 := Try.zeroValue3,
  t4 := Try.underlying4,
  a4 := Try.isAgg4,
  z4 := Try.sizeOf4,
  v4 := Try.zeroValue4,
  t5 := Try.underlying5,
  a5 := Try.isAgg5,
  z5 := Try.sizeOf5,
  v5 := Try.zeroValue5,
  t9 := Try.underlying9,
  a9 := Try.isAgg9,
  z9 := Try.sizeOf9,
  v9 := Try.zeroValue9,
  t22 := Try.underlying32,
  a22 := Try.isAgg32,
  z22 := Try.sizeOf32,
  v22 := Try.zeroValue32,
  t25 := Try.underlying107,
  a25 := Try.isAgg107,
  z25 := Try.sizeOf107,
  v25 := Try.zeroValue107,
  t39 := Try.underlying141,
  a39 := Try.isAgg141,
  z39 := Try.sizeOf141,
  v39 := Try.zeroValue141,
  t45 := Try.underlying144,
  a45 := Try.isAgg144,
  z45 := Try.sizeOf144,
  v45 := Try.zeroValue144,
  t46 := Try.underlying145,
  a46 := Try.isAgg145,
  z46 := Try.sizeOf145,
  v46 := Try.zeroValue145,
  t50 := Try.underlying95,
  a50 := Try.isAgg95,
  z50 := Try.sizeOf95,
  v50 := Try.zeroValue95,
  t53 := Try.underlying151,
  a53 := Try.isAgg151,
  z53 := Try.sizeOf151,
  v53 := Try.zeroValue151,
  t55 := Try.underlying153,
  a55 := Try.isAgg153,
  z55 := Try.sizeOf153,
  v55 := Try.zeroValue153,
  t66 := Try.underlying154,
  a66 := Try.isAgg154,
  z66 := Try.sizeOf154,
  v66 := Try.zeroValue154,
  t70 := Try.underlying158,
  a70 := Try.isAgg158,
  z70 := Try.sizeOf158,
  v70 := Try.zeroValue158,
  t76 := Try.underlying161,
  a76 := Try.isAgg161,
  z76 := Try.sizeOf161,
  v76 := Try.zeroValue161,
  t77 := Try.underlying133,
  a77 := Try.isAgg133,
  z77 := Try.sizeOf133,
  v77 := Try.zeroValue133 }
theorem sortSpec109 : SortSpec Try.prog 109 2 := fun enc hk h1 cf hO g cb blk off cap d w eg hcmp hH hblk hsz =>
  AnyQ.slices_SortFunc sortLay109 2 Try.isAgg63 Try.sizeOf63 enc hk h1 cf hO g cb blk off cap d w eg hcmp hH hblk hsz
theorem sortCall109 : callable Try.prog 109 := ⟨_, Try.func109, by kernel_rfl, by kernel_rfl⟩
theorem sortNone109 : SortNone Try.prog 109 := fun p cap fv w => AnyF.slices_SortFunc_none sortLay109 p cap fv w
end Go.Proofs.Ytngkckefanbhgaa

namespace Go.Proofs.Ytngkckefanbhgaa
open Go Go.Proofs
theorem fits_nil  : PureC Try.prog 80 [(V.sl [])] (V.bool true) := by
 refine pure_of_Wb true 6 Try.func80 s80_ok (by kernel_rfl) (by simp [s80]) (by simp) (by simp) fun hB => ?_
 simp only [bnd_map, bnd_int, bnd_bool, bnd_str, bnd_agg, bnd_pp, bnd_nil, bnd_cons, implies_true, and_true, true_and] at hB
 unfold s80
 dsimp only
 refine W_seq_regc (fun T H => T 0 = (V.sl []) ∧ H 105 = (⟨0, false, false, 0, 0, []⟩ : Blk) ∧ True) ?_ ?_
 ·
  unfold r80_0
  refine R_mv (@rfl V (V.bool false)) ?_
  exact R_nil ⟨rfl, rfl, trivial⟩
 intro T H ⟨t0, h105, _⟩
 refine W_seq_regc (fun T H => T 0 = (V.sl []) ∧ H 105 = (⟨0, false, false, 0, 0, []⟩ : Blk) ∧ True) ?_ ?_
 ·
  unfold r80_1
  refine R_mv t0 ?_
  refine R_callE (evcons (@rfl V (V.sl [])) evnil) (clonetr_nil _) ?_
  refine R_mv (@rfl V (V.sl [])) ?_
  exact R_nil ⟨rfl, h105, trivial⟩
 intro T H ⟨t0, h105, _⟩
 refine W_seq_regc (fun T H => T 0 = (V.sl []) ∧ H 105 = (⟨0, false, false, 0, 0, []⟩ : Blk) ∧ True) ?_ ?_
 ·
  unfold r80_2
  refine R_mv t0 ?_
  refine R_callE (evcons (@rfl V (V.sl [])) (evcons (@rfl V (V.fn 110 [] [])) evnil)) (CallOK_sort_nil sortNone109 sortCall109 _) ?_
  exact R_nil ⟨t0, h105, trivial⟩
 intro T H ⟨t0, h105, _⟩
 refine W_seq_seq ?_
 refine W_seq_regc (fun T H => T 0 = (V.sl []) ∧ T 3 = (iV (1 : Int)) ∧ H 105 = (⟨0, false, false, 0, 0, []⟩ : Blk) ∧ True) ?_ ?_
 ·
  unfold r80_3
  refine R_mv (@rfl V (iV (1 : Int))) ?_
  exact R_nil ⟨t0, rfl, h105, trivial⟩
 intro T H ⟨t0, t3, h105, _⟩
 refine W_seq_blockg fun Q1 n1 x1 y1 z1 => ?_
 refine W_loop (fun mm T H => ∃ (k : Nat), mm = 0 ∧ T 0 = (V.sl []) ∧ T 3 = (iV ((k : Nat) : Int)) ∧ H 105 = (⟨0, false, false, 0, 0, []⟩ : Blk)) ?_ ?_
 ·
  refine ⟨_, 1, rfl, t0, (Eq.trans t3 (by first | rfl | simp)), h105⟩
 intro mm T H ⟨k, hmm, t0, t3, h105⟩ Q2 p12 p22 p32
 unfold b80_0
 refine W_seq_seq ?_
 refine W_seq_regc (fun T H => T 0 = (V.sl []) ∧ T 3 = (iV ((k : Nat) : Int)) ∧ T 11 = (V.bool (decide (((k : Nat) : Int) < ((0 : Nat) : Int)))) ∧ H 105 = (⟨0, false, false, 0, 0, []⟩ : Blk) ∧ True) ?_ ?_
 ·
  unfold r80_4
  refine R_mv t3 ?_
  refine R_mv t0 ?_
  refine R_len_lit (n := 0) (@rfl V (V.sl [])) rfl ?_
  refine R_lss (x := ((k : Nat) : Int)) (y := ((0 : Nat) : Int)) (@rfl V (iV ((k : Nat) : Int))) (@rfl V (iV ((0 : Nat) : Int))) ?_
  exact R_nil ⟨t0, t3, rfl, h105, trivial⟩
 intro T H ⟨t0, t3, t11, h105, _⟩
 refine W_seq_if (p := ((k : Nat) : Int) < ((0 : Nat) : Int)) t11 (fun c3 => ?_) (fun c3 => ?_)
 · exfalso; omega
 refine W_seq_exit ?_
 refine p32 _ _ _ ?_
 refine x1 _ _ ?_
 refine .done ?_
 refine W_seq_regc (fun T H => T 2 = (V.bool true) ∧ H 105 = (⟨0, false, false, 0, 0, []⟩ : Blk) ∧ True) ?_ ?_
 ·
  unfold r80_8
  refine R_mv (@rfl V (V.bool true)) ?_
  exact R_nil ⟨rfl, h105, trivial⟩
 intro T H ⟨t2, h105, _⟩
 refine W_ret ?_
 refine Ret_1 t2 (fz_canon (by simp) rfl)
theorem fits_cons (l : List Tr) (hne : l ≠ []) (hl : l.length ≤ 1000000) (hd : ∀ a ∈ l, ∀ b ∈ l, a.ni = b.ni → a = b) (hpl : ∀ a ∈ l, a.no.length = a.ni.length) : PureC Try.prog 80 [(V.sl (List.map cT (l)))] (V.bool (fitB l)) := by
 refine pure_of_Wb true 6 Try.func80 s80_ok (by kernel_rfl) (by simp [s80]) (by simp) (by simp) fun hB => ?_
 simp only [bnd_map, bnd_int, bnd_bool, bnd_str, bnd_agg, bnd_pp, bnd_nil, bnd_cons, implies_true, and_true, true_and] at hB
 unfold s80
 dsimp only
 have u0 := srt_len lexT l
 have u1 : ∀ k, k < l.length → (nth (srt lexT l) k).no.length = (nth (srt lexT l) k).ni.length := fun k hk => hpl _ ((srt_perm lexT l).mem_iff.1 (nth_mem (by omega)))
 refine W_seq_regc (fun T H => T 0 = (V.sl (List.map cT (l))) ∧ H 105 = (⟨0, false, false, 0, 0, []⟩ : Blk) ∧ True) ?_ ?_
 ·
  unfold r80_0
  refine R_mv (@rfl V (V.bool false)) ?_
  exact R_nil ⟨rfl, rfl, trivial⟩
 intro T H ⟨t0, h105, _⟩
 refine W_seq_regc (fun T H => T 0 = (V.ms 105 2 0 (l.length)) ∧ H 105 = (⟨2, true, false, 63, 2, (List.map cT (l))⟩ : Blk) ∧ True) ?_ ?_
 ·
  unfold r80_1
  refine R_mv t0 ?_
  refine R_callE (evcons (@rfl V (V.sl (List.map cT (l)))) evnil) (clonetr_E l 0 _ (congrArg Blk.ver h105) hne (by omega)) ?_
  refine R_mv (@rfl V (V.ms 105 2 0 (l.length))) ?_
  exact R_nil ⟨rfl, rfl, trivial⟩
 intro T H ⟨t0, h105, _⟩
 refine W_seq_regc (fun T H => T 0 = (V.ms 105 2 0 (l.length)) ∧ H 105 = (⟨2, true, false, 63, 2, (List.map cT (srt lexT l))⟩ : Blk) ∧ True) ?_ ?_
 ·
  unfold r80_2
  refine R_mv t0 ?_
  refine R_callE (evcons (@rfl V (V.ms 105 2 0 (l.length))) (evcons (@rfl V (V.fn 110 [] [])) evnil)) (CallOK_sort (f0 := cT) (l := l) (cmp := lexT) sortSpec109 sortNone109 sortCall109 ⟨_, Try.func110, by kernel_rfl, by kernel_rfl⟩ lexT_swo (fun a ha b hb h1 h2 => hd a ha b hb (lexT_anti h1 h2)) (fun a _ b _ => fits1_pure a b) (fun a _ => by simp) (fun a _ => by simp) (fun _ => rfl) (by omega) h105) ?_
  exact R_nil ⟨t0, rfl, trivial⟩
 intro T H ⟨t0, h105, _⟩
 refine W_seq_seq ?_
 refine W_seq_regc (fun T H => T 0 = (V.ms 105 2 0 (l.length)) ∧ T 3 = (iV (1 : Int)) ∧ H 105 = (⟨2, true, false, 63, 2, (List.map cT (srt lexT l))⟩ : Blk) ∧ True) ?_ ?_
 ·
  unfold r80_3
  refine R_mv (@rfl V (iV (1 : Int))) ?_
  exact R_nil ⟨t0, rfl, h105, trivial⟩
 intro T H ⟨t0, t3, h105, _⟩
 refine W_seq_blockg fun Q1 n1 x1 y1 z1 => ?_
 refine W_loop (fun mm T H => ∃ (k : Nat), mm = l.length - k ∧ T 0 = (V.ms 105 2 0 (l.length)) ∧ T 3 = (iV ((k : Nat) : Int)) ∧ H 105 = (⟨2, true, false, 63, 2, (List.map cT (srt lexT l))⟩ : Blk) ∧ (1 ≤ k) ∧ (k ≤ l.length) ∧ (fe (nbE (srt lexT l)) 1 ((srt lexT l).length - 1) = fe (nbE (srt lexT l)) k ((srt lexT l).length - k))) ?_ ?_
 ·
  refine ⟨_, 1, rfl, t0, (Eq.trans t3 (by first | rfl | simp)), h105, ?_, ?_, ?_⟩
  · omega
  · exact List.length_pos_iff.2 hne
  · rfl
 intro mm T H ⟨k, hmm, t0, t3, h105, h1, hk, hc⟩ Q2 p12 p22 p32
 unfold b80_0
 refine W_seq_seq ?_
 refine W_seq_regc (fun T H => T 0 = (V.ms 105 2 0 (l.length)) ∧ T 3 = (iV ((k : Nat) : Int)) ∧ T 11 = (V.bool (decide (((k : Nat) : Int) < ((l.length : Nat) : Int)))) ∧ H 105 = (⟨2, true, false, 63, 2, (List.map cT (srt lexT l))⟩ : Blk) ∧ True) ?_ ?_
 ·
  unfold r80_4
  refine R_mv t3 ?_
  refine R_mv t0 ?_
  refine R_len_ms (@rfl V (V.ms 105 2 0 (l.length))) h105 (by first | rfl | simp) ?_
  refine R_lss (x := ((k : Nat) : Int)) (y := ((l.length : Nat) : Int)) (@rfl V (iV ((k : Nat) : Int))) (@rfl V (iV ((l.length : Nat) : Int))) ?_
  exact R_nil ⟨t0, t3, rfl, h105, trivial⟩
 intro T H ⟨t0, t3, t11, h105, _⟩
 refine W_seq_if (p := ((k : Nat) : Int) < ((l.length : Nat) : Int)) t11 (fun c3 => ?_) (fun c3 => ?_)
 ·
  refine W_seq_skip ?_
  refine W_seq_blockg fun Q4 n4 x4 y4 z4 => ?_
  refine W_seq_regc (fun T H => T 0 = (V.ms 105 2 0 (l.length)) ∧ T 3 = (iV ((k : Nat) : Int)) ∧ T 38 = (V.bool (((hp ((nth (srt lexT l) (0 + (k))).ni) ((nth (srt lexT l) (0 + ((((k : Nat) : Int) - (1 : Int))).toNat)).ni)) || decide ((0 : Int) ≤ (df ((nth (srt lexT l) (0 + ((((k : Nat) : Int) - (1 : Int))).toNat))) ((nth (srt lexT l) (0 + (k))))))))) ∧ H 105 = (⟨2, true, false, 63, 2, (List.map cT (srt lexT l))⟩ : Blk) ∧ True) ?_ ?_
  ·
   unfold r80_6
   refine R_mv t0 ?_
   refine R_mv t3 ?_
   refine R_idx_ms (i := k) (@rfl V (V.ms 105 2 0 (l.length))) (@rfl V (iV ((k : Nat) : Int))) h105 (okB_map (by omega)) rfl (by omega) ?_
   refine R_fld_mp (o' := 0) (@rfl V (V.mp 105 2 (0 + (k)) 0)) h105 (okB_map (by omega)) rfl ?_
   refine R_load_mp (v := (V.sl (List.map cI ((nth (srt lexT l) (0 + (k))).ni)))) (@rfl V (V.mp 105 2 (0 + (k)) 0)) h105 (ldB_map (by omega) (by first | rfl | simp [ldV, V.one])) ?_
   refine R_mv t0 ?_
   refine R_mv t3 ?_
   refine R_sub (x := ((k : Nat) : Int)) (y := (1 : Int)) (@rfl V (iV ((k : Nat) : Int))) (@rfl V (iV (1 : Int))) (by omega) (by omega) ?_
   refine R_idxI_ms (i := (((k : Nat) : Int) - (1 : Int))) (@rfl V (V.ms 105 2 0 (l.length))) (@rfl V (iV (((k : Nat) : Int) - (1 : Int)))) h105 (okB_map (by omega)) rfl (by omega) (by omega) ?_
   refine R_fld_mp (o' := 0) (@rfl V (V.mp 105 2 (0 + ((((k : Nat) : Int) - (1 : Int))).toNat) 0)) h105 (okB_map (by omega)) rfl ?_
   refine R_load_mp (v := (V.sl (List.map cI ((nth (srt lexT l) (0 + ((((k : Nat) : Int) - (1 : Int))).toNat)).ni)))) (@rfl V (V.mp 105 2 (0 + ((((k : Nat) : Int) - (1 : Int))).toNat) 0)) h105 (ldB_map (by omega) (by first | rfl | simp [ldV, V.one])) ?_
   refine R_call (evcons (@rfl V (V.sl (List.map cI ((nth (srt lexT l) (0 + (k))).ni)))) (evcons (@rfl V (V.sl (List.map cI ((nth (srt lexT l) (0 + ((((k : Nat) : Int) - (1 : Int))).toNat)).ni)))) evnil)) (hp_pure ((nth (srt lexT l) (0 + (k))).ni) ((nth (srt lexT l) (0 + ((((k : Nat) : Int) - (1 : Int))).toNat)).ni)) (fzv_mapcanon _ _ (by simp [-List.map_take, -List.map_drop, -List.map_append, -List.map_reverse])) (by simp [-List.map_take, -List.map_drop, -List.map_append, -List.map_reverse]) (Or.inl (by simp [-List.map_take, -List.map_drop, -List.map_append, -List.map_reverse])) ?_
   refine R_mv (@rfl V (V.bool (hp ((nth (srt lexT l) (0 + (k))).ni) ((nth (srt lexT l) (0 + ((((k : Nat) : Int) - (1 : Int))).toNat)).ni)))) ?_
   refine Ops_seg 12 (fun T H => T 0 = (V.ms 105 2 0 (l.length)) ∧ T 3 = (iV ((k : Nat) : Int)) ∧ T 38 = (V.bool (((hp ((nth (srt lexT l) (0 + (k))).ni) ((nth (srt lexT l) (0 + ((((k : Nat) : Int) - (1 : Int))).toNat)).ni)) || decide ((0 : Int) ≤ (df ((nth (srt lexT l) (0 + ((((k : Nat) : Int) - (1 : Int))).toNat))) ((nth (srt lexT l) (0 + (k))))))))) ∧ H 105 = (⟨2, true, false, 63, 2, (List.map cT (srt lexT l))⟩ : Blk) ∧ True) ?_ ?_
   ·
    by_cases g5 : (hp ((nth (srt lexT l) (0 + (k))).ni) ((nth (srt lexT l) (0 + ((((k : Nat) : Int) - (1 : Int))).toNat)).ni)) = true
    ·
     refine G_no (Eq.trans (@rfl V (V.bool (hp ((nth (srt lexT l) (0 + (k))).ni) ((nth (srt lexT l) (0 + ((((k : Nat) : Int) - (1 : Int))).toNat)).ni)))) (bbT g5)) (by decide) ?_
     refine G_no (Eq.trans (@rfl V (V.bool (hp ((nth (srt lexT l) (0 + (k))).ni) ((nth (srt lexT l) (0 + ((((k : Nat) : Int) - (1 : Int))).toNat)).ni)))) (bbT g5)) (by decide) ?_
     refine G_no (Eq.trans (@rfl V (V.bool (hp ((nth (srt lexT l) (0 + (k))).ni) ((nth (srt lexT l) (0 + ((((k : Nat) : Int) - (1 : Int))).toNat)).ni)))) (bbT g5)) (by decide) ?_
     refine G_no (Eq.trans (@rfl V (V.bool (hp ((nth (srt lexT l) (0 + (k))).ni) ((nth (srt lexT l) (0 + ((((k : Nat) : Int) - (1 : Int))).toNat)).ni)))) (bbT g5)) (by decide) ?_
     refine G_no (Eq.trans (@rfl V (V.bool (hp ((nth (srt lexT l) (0 + (k))).ni) ((nth (srt lexT l) (0 + ((((k : Nat) : Int) - (1 : Int))).toNat)).ni)))) (bbT g5)) (by decide) ?_
     refine G_no (Eq.trans (@rfl V (V.bool (hp ((nth (srt lexT l) (0 + (k))).ni) ((nth (srt lexT l) (0 + ((((k : Nat) : Int) - (1 : Int))).toNat)).ni)))) (bbT g5)) (by decide) ?_
     refine G_no (Eq.trans (@rfl V (V.bool (hp ((nth (srt lexT l) (0 + (k))).ni) ((nth (srt lexT l) (0 + ((((k : Nat) : Int) - (1 : Int))).toNat)).ni)))) (bbT g5)) (by decide) ?_
     refine G_no (Eq.trans (@rfl V (V.bool (hp ((nth (srt lexT l) (0 + (k))).ni) ((nth (srt lexT l) (0 + ((((k : Nat) : Int) - (1 : Int))).toNat)).ni)))) (bbT g5)) (by decide) ?_
     refine G_no (Eq.trans (@rfl V (V.bool (hp ((nth (srt lexT l) (0 + (k))).ni) ((nth (srt lexT l) (0 + ((((k : Nat) : Int) - (1 : Int))).toNat)).ni)))) (bbT g5)) (by decide) ?_
     refine G_no (Eq.trans (@rfl V (V.bool (hp ((nth (srt lexT l) (0 + (k))).ni) ((nth (srt lexT l) (0 + ((((k : Nat) : Int) - (1 : Int))).toNat)).ni)))) (bbT g5)) (by decide) ?_
     refine G_no (Eq.trans (@rfl V (V.bool (hp ((nth (srt lexT l) (0 + (k))).ni) ((nth (srt lexT l) (0 + ((((k : Nat) : Int) - (1 : Int))).toNat)).ni)))) (bbT g5)) (by decide) ?_
     refine R_pickT (Eq.trans (@rfl V (V.bool (hp ((nth (srt lexT l) (0 + (k))).ni) ((nth (srt lexT l) (0 + ((((k : Nat) : Int) - (1 : Int))).toNat)).ni)))) (bbT g5)) (@rfl V (V.bool true)) ?_
     exact ⟨t0, t3, (Eq.trans (@rfl V (V.bool true)) (borT g5)), h105, trivial⟩
    ·
     refine G_yes (Eq.trans (@rfl V (V.bool (hp ((nth (srt lexT l) (0 + (k))).ni) ((nth (srt lexT l) (0 + ((((k : Nat) : Int) - (1 : Int))).toNat)).ni)))) (bbF g5)) ?_
     refine R_mv t0 ?_
     refine G_yes (Eq.trans (@rfl V (V.bool (hp ((nth (srt lexT l) (0 + (k))).ni) ((nth (srt lexT l) (0 + ((((k : Nat) : Int) - (1 : Int))).toNat)).ni)))) (bbF g5)) ?_
     refine R_mv t3 ?_
     refine G_yes (Eq.trans (@rfl V (V.bool (hp ((nth (srt lexT l) (0 + (k))).ni) ((nth (srt lexT l) (0 + ((((k : Nat) : Int) - (1 : Int))).toNat)).ni)))) (bbF g5)) ?_
     refine R_sub (x := ((k : Nat) : Int)) (y := (1 : Int)) (@rfl V (iV ((k : Nat) : Int))) (@rfl V (iV (1 : Int))) (by omega) (by omega) ?_
     refine G_yes (Eq.trans (@rfl V (V.bool (hp ((nth (srt lexT l) (0 + (k))).ni) ((nth (srt lexT l) (0 + ((((k : Nat) : Int) - (1 : Int))).toNat)).ni)))) (bbF g5)) ?_
     refine R_idxI_ms (i := (((k : Nat) : Int) - (1 : Int))) (@rfl V (V.ms 105 2 0 (l.length))) (@rfl V (iV (((k : Nat) : Int) - (1 : Int)))) h105 (okB_map (by omega)) rfl (by omega) (by omega) ?_
     refine G_yes (Eq.trans (@rfl V (V.bool (hp ((nth (srt lexT l) (0 + (k))).ni) ((nth (srt lexT l) (0 + ((((k : Nat) : Int) - (1 : Int))).toNat)).ni)))) (bbF g5)) ?_
     refine R_load_mp (v := (V.agg [(V.sl (List.map cI ((nth (srt lexT l) (0 + ((((k : Nat) : Int) - (1 : Int))).toNat)).ni))), (V.sl (List.map cI ((nth (srt lexT l) (0 + ((((k : Nat) : Int) - (1 : Int))).toNat)).no)))])) (@rfl V (V.mp 105 2 (0 + ((((k : Nat) : Int) - (1 : Int))).toNat) 0)) h105 (ldB_map (by omega) (by first | rfl | simp [ldV, V.one])) ?_
     refine G_yes (Eq.trans (@rfl V (V.bool (hp ((nth (srt lexT l) (0 + (k))).ni) ((nth (srt lexT l) (0 + ((((k : Nat) : Int) - (1 : Int))).toNat)).ni)))) (bbF g5)) ?_
     refine R_mv t0 ?_
     refine G_yes (Eq.trans (@rfl V (V.bool (hp ((nth (srt lexT l) (0 + (k))).ni) ((nth (srt lexT l) (0 + ((((k : Nat) : Int) - (1 : Int))).toNat)).ni)))) (bbF g5)) ?_
     refine R_mv t3 ?_
     refine G_yes (Eq.trans (@rfl V (V.bool (hp ((nth (srt lexT l) (0 + (k))).ni) ((nth (srt lexT l) (0 + ((((k : Nat) : Int) - (1 : Int))).toNat)).ni)))) (bbF g5)) ?_
     refine R_idx_ms (i := k) (@rfl V (V.ms 105 2 0 (l.length))) (@rfl V (iV ((k : Nat) : Int))) h105 (okB_map (by omega)) rfl (by omega) ?_
     refine G_yes (Eq.trans (@rfl V (V.bool (hp ((nth (srt lexT l) (0 + (k))).ni) ((nth (srt lexT l) (0 + ((((k : Nat) : Int) - (1 : Int))).toNat)).ni)))) (bbF g5)) ?_
     refine R_load_mp (v := (V.agg [(V.sl (List.map cI ((nth (srt lexT l) (0 + (k))).ni))), (V.sl (List.map cI ((nth (srt lexT l) (0 + (k))).no)))])) (@rfl V (V.mp 105 2 (0 + (k)) 0)) h105 (ldB_map (by omega) (by first | rfl | simp [ldV, V.one])) ?_
     refine G_yes (Eq.trans (@rfl V (V.bool (hp ((nth (srt lexT l) (0 + (k))).ni) ((nth (srt lexT l) (0 + ((((k : Nat) : Int) - (1 : Int))).toNat)).ni)))) (bbF g5)) ?_
     refine R_call (evcons (@rfl V (V.agg [(V.sl (List.map cI ((nth (srt lexT l) (0 + ((((k : Nat) : Int) - (1 : Int))).toNat)).ni))), (V.sl (List.map cI ((nth (srt lexT l) (0 + ((((k : Nat) : Int) - (1 : Int))).toNat)).no)))])) (evcons (@rfl V (V.agg [(V.sl (List.map cI ((nth (srt lexT l) (0 + (k))).ni))), (V.sl (List.map cI ((nth (srt lexT l) (0 + (k))).no)))])) evnil)) (odiffer_pure ((nth (srt lexT l) (0 + ((((k : Nat) : Int) - (1 : Int))).toNat))) ((nth (srt lexT l) (0 + (k)))) (u1 _ (by omega)) (u1 _ (by omega))) (fzv_mapcanon _ _ (by simp [-List.map_take, -List.map_drop, -List.map_append, -List.map_reverse])) (by simp [-List.map_take, -List.map_drop, -List.map_append, -List.map_reverse]) (Or.inl (by simp [-List.map_take, -List.map_drop, -List.map_append, -List.map_reverse])) ?_
     refine G_yes (Eq.trans (@rfl V (V.bool (hp ((nth (srt lexT l) (0 + (k))).ni) ((nth (srt lexT l) (0 + ((((k : Nat) : Int) - (1 : Int))).toNat)).ni)))) (bbF g5)) ?_
     refine R_geq (x := (df ((nth (srt lexT l) (0 + ((((k : Nat) : Int) - (1 : Int))).toNat))) ((nth (srt lexT l) (0 + (k)))))) (y := (0 : Int)) (@rfl V (iV (df ((nth (srt lexT l) (0 + ((((k : Nat) : Int) - (1 : Int))).toNat))) ((nth (srt lexT l) (0 + (k))))))) (@rfl V (iV (0 : Int))) ?_
     refine R_pickF (Eq.trans (@rfl V (V.bool (hp ((nth (srt lexT l) (0 + (k))).ni) ((nth (srt lexT l) (0 + ((((k : Nat) : Int) - (1 : Int))).toNat)).ni)))) (bbF g5)) (@rfl V (V.bool (decide ((0 : Int) ≤ (df ((nth (srt lexT l) (0 + ((((k : Nat) : Int) - (1 : Int))).toNat))) ((nth (srt lexT l) (0 + (k))))))))) ?_
     exact ⟨t0, t3, (Eq.trans (@rfl V (V.bool (decide ((0 : Int) ≤ (df ((nth (srt lexT l) (0 + ((((k : Nat) : Int) - (1 : Int))).toNat))) ((nth (srt lexT l) (0 + (k))))))))) (borF g5)), h105, trivial⟩
   intro T H ⟨t0, t3, t38, h105, _⟩
   exact R_nil ⟨t0, t3, t38, h105, trivial⟩
  intro T H ⟨t0, t3, t38, h105, _⟩
  refine W_ifb t38 (fun c6 => ?_) (fun c6 => ?_)
  ·
   have d1 : nbB (srt lexT l) k = true := by unfold nbB; rw [show k - 1 = 0 + (((k : Nat) : Int) - (1 : Int)).toNat by omega, show nth (srt lexT l) k = nth (srt lexT l) (0 + k) by rw [Nat.zero_add]]; exact c6
   refine W_seq_regc (fun T H => T 2 = (V.bool false) ∧ H 105 = (⟨2, true, false, 63, 2, (List.map cT (srt lexT l))⟩ : Blk) ∧ True) ?_ ?_
   ·
    unfold r80_7
    refine R_mv (@rfl V (V.bool false)) ?_
    exact R_nil ⟨rfl, h105, trivial⟩
   intro T H ⟨t2, h105, _⟩
   refine W_ret ?_
   refine y4 _ _ ?_
   refine p22 _ _ ?_
   refine y1 _ _ ?_
   refine Ret_1 t2 (fz_bool ?_)
   · unfold fitB; rw [hc, fe_hit (by unfold nbE; rw [if_pos d1]; decide) (by omega)]; unfold nbE; rw [if_pos d1]; rfl
  have d1 : nbB (srt lexT l) k = false := by unfold nbB; rw [show k - 1 = 0 + (((k : Nat) : Int) - (1 : Int)).toNat by omega, show nth (srt lexT l) k = nth (srt lexT l) (0 + k) by rw [Nat.zero_add]]; exact c6
  refine W_skip ?_
  refine n4 _ _ ?_
  refine .done ?_
  refine W_regc (fun T H => T 0 = (V.ms 105 2 0 (l.length)) ∧ T 3 = (iV ((k + 1 : Nat) : Int)) ∧ H 105 = (⟨2, true, false, 63, 2, (List.map cT (srt lexT l))⟩ : Blk) ∧ True) ?_ ?_
  ·
   unfold r80_5
   refine R_mv t3 ?_
   refine R_addN (m := k) (n := 1) (@rfl V (iV ((k : Nat) : Int))) (@rfl V (iV ((1 : Nat) : Int))) (by omega) ?_
   refine R_mv (@rfl V (iV ((k + 1 : Nat) : Int))) ?_
   exact R_nil ⟨t0, rfl, h105, trivial⟩
  intro T H ⟨t0, t3, h105, _⟩
  refine p12 _ _ _ ?_ ⟨(k + 1), rfl, t0, (Eq.trans t3 (by first | rfl | simp)), h105, ?_, ?_, ?_⟩
  · omega
  · omega
  · omega
  · rw [hc, fe_skip (by unfold nbE; rw [if_neg (by simp [d1])]) (by omega)]
 refine W_seq_exit ?_
 refine p32 _ _ _ ?_
 refine x1 _ _ ?_
 refine .done ?_
 refine W_seq_regc (fun T H => T 2 = (V.bool true) ∧ H 105 = (⟨2, true, false, 63, 2, (List.map cT (srt lexT l))⟩ : Blk) ∧ True) ?_ ?_
 ·
  unfold r80_8
  refine R_mv (@rfl V (V.bool true)) ?_
  exact R_nil ⟨rfl, h105, trivial⟩
 intro T H ⟨t2, h105, _⟩
 refine W_ret ?_
 refine Ret_1 t2 (fz_bool ?_)
 · unfold fitB; rw [hc, fe_end (by omega)]; rfl
theorem fits_pure (l : List Tr) (hl : l.length ≤ 1000000) (hd : ∀ a ∈ l, ∀ b ∈ l, a.ni = b.ni → a = b) (hpl : ∀ a ∈ l, a.no.length = a.ni.length) : PureC Try.prog 80 [(V.sl (List.map cT l))] (V.bool (fitB l)) := by
  by_cases h : l = []
  · subst h
    have e : fitB [] = true := by simp [fitB, srt, fe]
    rw [e]; exact fits_nil
  · exact fits_cons l h hl hd hpl
end Go.Proofs.Ytngkckefanbhgaa

namespace Go.Proofs.Ytngkckefanbhgaa
open Go Go.Proofs
def r81_0 : List SO := [
  ⟨none, some 4, .mv (.c (.bool false))⟩]
def r81_1 : List SO := [
  ⟨none, some 5, .mv (.t 0)⟩,
  ⟨none, some 6, .mv (.t 1)⟩,
  ⟨none, some 7, .call false 74 [.t 5, .t 6]⟩,
  ⟨none, some 8, .bin .geq (.t 7) (.c (.int .i64 0))⟩,
  ⟨none, some 4, .mv (.t 8)⟩]
def s81 : SF := ⟨9, [.tmp 4], .seq (.reg r81_0) (.seq (.reg r81_1) (.ret))⟩
theorem s81_ok : slimF Try.prog ⟨[94, 102, 103, 108, 109, 116, 119, 121, 125], []⟩ Try.f81 = some s81 := by kernel_rfl
end Go.Proofs.Ytngkckefanbhgaa

namespace Go.Proofs.Ytngkckefanbhgaa
open Go Go.Proofs
theorem cont_pure (p : Tr → Bool) (w : List Tr) (g : Nat) (caps : List V) (hca : canonL caps = true) (hpu : pureL caps = true) (hq : ∀ k, k < w.length → PureC Try.prog g (tV (nth w k) :: caps) (.bool (p (nth w k)))) : PureC Try.prog 81 [(V.sl (List.map cT (w))), (V.fn g [] caps)] (V.bool (decide (0 ≤ fi (fun j => p (nth w j)) 0 w.length))) := by
 refine pure_of_Wb true 6 Try.func81 s81_ok (by kernel_rfl) (by simp [s81]) (by simp [hpu]) (by simp) fun hB => ?_
 simp only [bnd_map, bnd_int, bnd_bool, bnd_str, bnd_agg, bnd_pp, bnd_nil, bnd_cons, implies_true, and_true, true_and] at hB
 unfold s81
 dsimp only
 refine W_seq_regc (fun T H => T 0 = (V.sl (List.map cT (w))) ∧ T 1 = (V.fn g [] caps) ∧ True) ?_ ?_
 ·
  unfold r81_0
  refine R_mv (@rfl V (V.bool false)) ?_
  exact R_nil ⟨rfl, rfl, trivial⟩
 intro T H ⟨t0, t1, _⟩
 refine W_seq_regc (fun T H => T 4 = (V.bool (decide ((0 : Int) ≤ (fi (fun j => p (nth w j)) 0 w.length)))) ∧ True) ?_ ?_
 ·
  unfold r81_1
  refine R_mv t0 ?_
  refine R_mv t1 ?_
  refine R_call (evcons (@rfl V (V.sl (List.map cT (w)))) (evcons (@rfl V (V.fn g [] caps)) evnil)) (idxt_pure p w g caps hca hpu hq) (fzv_mapcanon _ _ (by simp [hca, hpu, -List.map_take, -List.map_drop, -List.map_append, -List.map_reverse])) (by simp [hca, hpu, -List.map_take, -List.map_drop, -List.map_append, -List.map_reverse]) (Or.inl (by simp [hca, hpu, -List.map_take, -List.map_drop, -List.map_append, -List.map_reverse])) ?_
  refine R_geq (x := (fi (fun j => p (nth w j)) 0 w.length)) (y := (0 : Int)) (@rfl V (iV (fi (fun j => p (nth w j)) 0 w.length))) (@rfl V (iV (0 : Int))) ?_
  refine R_mv (@rfl V (V.bool (decide ((0 : Int) ≤ (fi (fun j => p (nth w j)) 0 w.length))))) ?_
  exact R_nil ⟨rfl, trivial⟩
 intro T H ⟨t4, _⟩
 refine W_ret ?_
 refine Ret_1 t4 (fz_bool ?_)
 · first | rfl | omega | simp_all
end Go.Proofs.Ytngkckefanbhgaa

namespace Go.Proofs.Ytngkckefanbhgaa
open Go Go.Proofs
def r82_0 : List SO := [
  ⟨none, some 2, .box 63 2 (.t 0)⟩,
  ⟨none, some 3, .mv (.c (.bool false))⟩]
def r82_1 : List SO := [
  ⟨none, some 4, .fld 0 (.t 2)⟩,
  ⟨none, some 5, .load false 1 (.t 4)⟩,
  ⟨none, some 6, .fld 0 (.t 1)⟩,
  ⟨none, some 7, .load false 1 (.t 6)⟩,
  ⟨none, some 8, .call false 76 [.t 5, .t 7]⟩,
  ⟨none, some 3, .mv (.t 8)⟩]
def s82 : SF := ⟨9, [.tmp 3], .seq (.reg r82_0) (.seq (.reg r82_1) (.ret))⟩
theorem s82_ok : slimF Try.prog ⟨[94, 102, 103, 108, 109, 116, 119, 121, 125], []⟩ Try.f82 = some s82 := by kernel_rfl
end Go.Proofs.Ytngkckefanbhgaa

namespace Go.Proofs.Ytngkckefanbhgaa
open Go Go.Proofs
theorem valid1_pure (u t : Tr) : PureC Try.prog 82 [(V.agg [(V.sl (List.map cI (u.ni))), (V.sl (List.map cI (u.no)))]), (V.pp [(V.sl (List.map cI (t.ni))), (V.sl (List.map cI (t.no)))])] (V.bool (hp u.ni t.ni)) := by
 refine pure_of_Wb true 6 Try.func82 s82_ok (by kernel_rfl) (by simp [s82]) (by simp) (by simp) fun hB => ?_
 simp only [bnd_map, bnd_int, bnd_bool, bnd_str, bnd_agg, bnd_pp, bnd_nil, bnd_cons, implies_true, and_true, true_and] at hB
 unfold s82
 dsimp only
 refine W_seq_regc (fun T H => T 1 = (V.pp [(V.sl (List.map cI (t.ni))), (V.sl (List.map cI (t.no)))]) ∧ T 2 = (V.mp 2 1 0 0) ∧ H 2 = (⟨1, true, false, 63, 2, [[(V.sl (List.map cI (u.ni))), (V.sl (List.map cI (u.no)))]]⟩ : Blk) ∧ True) ?_ ?_
 ·
  unfold r82_0
  refine R_box (i := 2) (n := 0) (m := 2) (cs := [(V.sl (List.map cI (u.ni))), (V.sl (List.map cI (u.no)))]) rfl (congrArg Blk.ver rfl) (@rfl V (V.agg [(V.sl (List.map cI (u.ni))), (V.sl (List.map cI (u.no)))])) rfl rfl ?_
  refine R_mv (@rfl V (V.bool false)) ?_
  exact R_nil ⟨rfl, rfl, rfl, trivial⟩
 intro T H ⟨t1, t2, h2, _⟩
 refine W_seq_regc (fun T H => T 3 = (V.bool (hp u.ni t.ni)) ∧ H 2 = (⟨1, true, false, 63, 2, [[(V.sl (List.map cI (u.ni))), (V.sl (List.map cI (u.no)))]]⟩ : Blk) ∧ True) ?_ ?_
 ·
  unfold r82_1
  refine R_fld_mp (o' := 0) t2 h2 (by first | rfl | simp [okB, Blk.own]) rfl ?_
  refine R_load_mp (v := (V.sl (List.map cI (u.ni)))) (@rfl V (V.mp 2 1 0 0)) h2 (by first | rfl | simp [ldB, ldV, Blk.own, V.one]) ?_
  refine R_fld_pp (cs' := [(V.sl (List.map cI (t.ni))), (V.sl (List.map cI (t.no)))]) t1 rfl ?_
  refine R_load_pp (v := (V.sl (List.map cI (t.ni)))) (@rfl V (V.pp [(V.sl (List.map cI (t.ni))), (V.sl (List.map cI (t.no)))])) (by first | rfl | simp [ldV]) ?_
  refine R_call (evcons (@rfl V (V.sl (List.map cI (u.ni)))) (evcons (@rfl V (V.sl (List.map cI (t.ni)))) evnil)) (hp_pure u.ni t.ni) (fzv_mapcanon _ _ (by simp [-List.map_take, -List.map_drop, -List.map_append, -List.map_reverse])) (by simp [-List.map_take, -List.map_drop, -List.map_append, -List.map_reverse]) (Or.inl (by simp [-List.map_take, -List.map_drop, -List.map_append, -List.map_reverse])) ?_
  refine R_mv (@rfl V (V.bool (hp u.ni t.ni))) ?_
  exact R_nil ⟨rfl, h2, trivial⟩
 intro T H ⟨t3, h2, _⟩
 refine W_ret ?_
 refine Ret_1 t3 (fz_canon (by simp) rfl)
end Go.Proofs.Ytngkckefanbhgaa

namespace Go.Proofs.Ytngkckefanbhgaa
open Go Go.Proofs
def r83_0 : List SO := [
  ⟨none, some 2, .box 63 2 (.t 0)⟩,
  ⟨none, some 3, .mv (.c (.bool false))⟩]
def r83_1 : List SO := [
  ⟨none, some 4, .load true 2 (.t 1)⟩,
  ⟨none, some 5, .load true 2 (.t 2)⟩,
  ⟨none, some 6, .call false 84 [.t 4, .t 5]⟩,
  ⟨none, some 7, .bin .geq (.t 6) (.c (.int .i64 0))⟩,
  ⟨none, some 3, .mv (.t 7)⟩]
def s83 : SF := ⟨8, [.tmp 3], .seq (.reg r83_0) (.seq (.reg r83_1) (.ret))⟩
theorem s83_ok : slimF Try.prog ⟨[94, 102, 103, 108, 109, 116, 119, 121, 125], []⟩ Try.f83 = some s83 := by kernel_rfl
end Go.Proofs.Ytngkckefanbhgaa

namespace Go.Proofs.Ytngkckefanbhgaa
open Go Go.Proofs
theorem valid2_pure (u t : Tr) (hu : u.no.length = u.ni.length) (ht : t.no.length = t.ni.length) : PureC Try.prog 83 [(V.agg [(V.sl (List.map cI (u.ni))), (V.sl (List.map cI (u.no)))]), (V.pp [(V.sl (List.map cI (t.ni))), (V.sl (List.map cI (t.no)))])] (V.bool (decide (0 ≤ df t u))) := by
 refine pure_of_Wb true 6 Try.func83 s83_ok (by kernel_rfl) (by simp [s83]) (by simp) (by simp) fun hB => ?_
 simp only [bnd_map, bnd_int, bnd_bool, bnd_str, bnd_agg, bnd_pp, bnd_nil, bnd_cons, implies_true, and_true, true_and] at hB
 unfold s83
 dsimp only
 refine W_seq_regc (fun T H => T 1 = (V.pp [(V.sl (List.map cI (t.ni))), (V.sl (List.map cI (t.no)))]) ∧ T 2 = (V.mp 2 1 0 0) ∧ H 2 = (⟨1, true, false, 63, 2, [[(V.sl (List.map cI (u.ni))), (V.sl (List.map cI (u.no)))]]⟩ : Blk) ∧ True) ?_ ?_
 ·
  unfold r83_0
  refine R_box (i := 2) (n := 0) (m := 2) (cs := [(V.sl (List.map cI (u.ni))), (V.sl (List.map cI (u.no)))]) rfl (congrArg Blk.ver rfl) (@rfl V (V.agg [(V.sl (List.map cI (u.ni))), (V.sl (List.map cI (u.no)))])) rfl rfl ?_
  refine R_mv (@rfl V (V.bool false)) ?_
  exact R_nil ⟨rfl, rfl, rfl, trivial⟩
 intro T H ⟨t1, t2, h2, _⟩
 refine W_seq_regc (fun T H => T 3 = (V.bool (decide ((0 : Int) ≤ (df t u)))) ∧ H 2 = (⟨1, true, false, 63, 2, [[(V.sl (List.map cI (u.ni))), (V.sl (List.map cI (u.no)))]]⟩ : Blk) ∧ True) ?_ ?_
 ·
  unfold r83_1
  refine R_load_pp (v := (V.agg [(V.sl (List.map cI (t.ni))), (V.sl (List.map cI (t.no)))])) t1 (by first | rfl | simp [ldV]) ?_
  refine R_load_mp (v := (V.agg [(V.sl (List.map cI (u.ni))), (V.sl (List.map cI (u.no)))])) t2 h2 (by first | rfl | simp [ldB, ldV, Blk.own, V.one]) ?_
  refine R_call (evcons (@rfl V (V.agg [(V.sl (List.map cI (t.ni))), (V.sl (List.map cI (t.no)))])) (evcons (@rfl V (V.agg [(V.sl (List.map cI (u.ni))), (V.sl (List.map cI (u.no)))])) evnil)) (odiffer_pure t u ht hu) (fzv_mapcanon _ _ (by simp [-List.map_take, -List.map_drop, -List.map_append, -List.map_reverse])) (by simp [-List.map_take, -List.map_drop, -List.map_append, -List.map_reverse]) (Or.inl (by simp [-List.map_take, -List.map_drop, -List.map_append, -List.map_reverse])) ?_
  refine R_geq (x := (df t u)) (y := (0 : Int)) (@rfl V (iV (df t u))) (@rfl V (iV (0 : Int))) ?_
  refine R_mv (@rfl V (V.bool (decide ((0 : Int) ≤ (df t u))))) ?_
  exact R_nil ⟨rfl, h2, trivial⟩
 intro T H ⟨t3, h2, _⟩
 refine W_ret ?_
 refine Ret_1 t3 (fz_bool ?_)
 · rfl
end Go.Proofs.Ytngkckefanbhgaa

namespace Go.Proofs.Ytngkckefanbhgaa
open Go Go.Proofs
theorem oval_pure (o : Ob) : PureC Try.prog 36 [(V.agg [(iV (o.i)), (V.sl (List.map cT (o.tr)))])] (iV (oval o)) := by
 refine pure_of_Wb true 6 Try.func36 s36_ok (by kernel_rfl) (by simp [s36]) (by simp) (by simp) fun hB => ?_
 simp only [bnd_map, bnd_int, bnd_bool, bnd_str, bnd_agg, bnd_pp, bnd_nil, bnd_cons, implies_true, and_true, true_and] at hB
 unfold s36
 dsimp only
 refine W_seq_regc (fun T H => T 1 = (V.mp 1 1 0 0) ∧ H 1 = (⟨1, true, false, 34, 2, [[(iV (o.i)), (V.sl (List.map cT (o.tr)))]]⟩ : Blk) ∧ H 4 = (⟨0, false, false, 0, 0, []⟩ : Blk) ∧ H 8 = (⟨0, false, false, 0, 0, []⟩ : Blk) ∧ True) ?_ ?_
 ·
  unfold r36_0
  refine R_box (i := 1) (n := 0) (m := 2) (cs := [(iV (o.i)), (V.sl (List.map cT (o.tr)))]) rfl (congrArg Blk.ver rfl) (@rfl V (V.agg [(iV (o.i)), (V.sl (List.map cT (o.tr)))])) rfl rfl ?_
  refine R_mv (@rfl V (iV (0 : Int))) ?_
  exact R_nil ⟨rfl, rfl, rfl, rfl, trivial⟩
 intro T H ⟨t1, h1, h4, h8, _⟩
 refine W_seq_seq ?_
 refine W_seq_regc (fun T H => T 1 = (V.mp 1 1 0 0) ∧ T 17 = (V.bool (decide (((o.i) < (1 : Int)) ∨ ((64 : Int) < (o.i))))) ∧ H 1 = (⟨1, true, false, 34, 2, [[(iV (o.i)), (V.sl (List.map cT (o.tr)))]]⟩ : Blk) ∧ H 4 = (⟨0, false, false, 0, 0, []⟩ : Blk) ∧ H 8 = (⟨0, false, false, 0, 0, []⟩ : Blk) ∧ True) ?_ ?_
 ·
  unfold r36_1
  refine R_fld_mp (o' := 0) t1 h1 (by first | rfl | simp [okB, Blk.own]) rfl ?_
  refine R_load_mp (v := (iV (o.i))) (@rfl V (V.mp 1 1 0 0)) h1 (by first | rfl | simp [ldB, ldV, Blk.own, V.one]) ?_
  refine R_lss (x := (o.i)) (y := (1 : Int)) (@rfl V (iV (o.i))) (@rfl V (iV (1 : Int))) ?_
  refine R_mv (@rfl V (V.bool (decide ((o.i) < (1 : Int))))) ?_
  refine Ops_seg 4 (fun T H => T 1 = (V.mp 1 1 0 0) ∧ T 17 = (V.bool (decide (((o.i) < (1 : Int)) ∨ ((64 : Int) < (o.i))))) ∧ H 1 = (⟨1, true, false, 34, 2, [[(iV (o.i)), (V.sl (List.map cT (o.tr)))]]⟩ : Blk) ∧ H 4 = (⟨0, false, false, 0, 0, []⟩ : Blk) ∧ H 8 = (⟨0, false, false, 0, 0, []⟩ : Blk) ∧ True) ?_ ?_
  ·
   by_cases g1 : (o.i) < (1 : Int)
   ·
    refine G_no (Eq.trans (@rfl V (V.bool (decide ((o.i) < (1 : Int))))) (bdT g1)) (by decide) ?_
    refine G_no (Eq.trans (@rfl V (V.bool (decide ((o.i) < (1 : Int))))) (bdT g1)) (by decide) ?_
    refine G_no (Eq.trans (@rfl V (V.bool (decide ((o.i) < (1 : Int))))) (bdT g1)) (by decide) ?_
    refine R_pickT (Eq.trans (@rfl V (V.bool (decide ((o.i) < (1 : Int))))) (bdT g1)) (@rfl V (V.bool true)) ?_
    exact ⟨t1, (Eq.trans (@rfl V (V.bool true)) (dec_orT g1)), h1, h4, h8, trivial⟩
   ·
    refine G_yes (Eq.trans (@rfl V (V.bool (decide ((o.i) < (1 : Int))))) (bdF g1)) ?_
    refine R_fld_mp (o' := 0) t1 h1 (by first | rfl | simp [okB, Blk.own]) rfl ?_
    refine G_yes (Eq.trans (@rfl V (V.bool (decide ((o.i) < (1 : Int))))) (bdF g1)) ?_
    refine R_load_mp (v := (iV (o.i))) (@rfl V (V.mp 1 1 0 0)) h1 (by first | rfl | simp [ldB, ldV, Blk.own, V.one]) ?_
    refine G_yes (Eq.trans (@rfl V (V.bool (decide ((o.i) < (1 : Int))))) (bdF g1)) ?_
    refine R_gtr (x := (o.i)) (y := (64 : Int)) (@rfl V (iV (o.i))) (@rfl V (iV (64 : Int))) ?_
    refine R_pickF (Eq.trans (@rfl V (V.bool (decide ((o.i) < (1 : Int))))) (bdF g1)) (@rfl V (V.bool (decide ((64 : Int) < (o.i))))) ?_
    exact ⟨t1, (Eq.trans (@rfl V (V.bool (decide ((64 : Int) < (o.i))))) (dec_orF g1)), h1, h4, h8, trivial⟩
  intro T H ⟨t1, t17, h1, h4, h8, _⟩
  exact R_nil ⟨t1, t17, h1, h4, h8, trivial⟩
 intro T H ⟨t1, t17, h1, h4, h8, _⟩
 refine W_seq_if (p := ((o.i) < (1 : Int)) ∨ ((64 : Int) < (o.i))) t17 (fun c2 => ?_) (fun c2 => ?_)
 ·
  refine W_seq_seq ?_
  refine W_seq_regc (fun T H => T 2 = (iV (2 : Int)) ∧ H 1 = (⟨1, true, false, 34, 2, [[(iV (o.i)), (V.sl (List.map cT (o.tr)))]]⟩ : Blk) ∧ H 4 = (⟨0, false, false, 0, 0, []⟩ : Blk) ∧ H 8 = (⟨0, false, false, 0, 0, []⟩ : Blk) ∧ True) ?_ ?_
  ·
   unfold r36_2
   refine R_mv (@rfl V (iV (2 : Int))) ?_
   exact R_nil ⟨rfl, h1, h4, h8, trivial⟩
  intro T H ⟨t2, h1, h4, h8, _⟩
  refine W_seq_ret ?_
  refine Ret_1 t2 (fz_int ?_)
  · rw [oval, if_pos (by omega)]
 refine W_seq_skip ?_
 refine W_seq_seq ?_
 refine W_seq_regc (fun T H => T 1 = (V.mp 1 1 0 0) ∧ T 21 = (V.bool (decide ((10000 : Int) < ((o.tr.length : Nat) : Int)))) ∧ H 1 = (⟨1, true, false, 34, 2, [[(iV (o.i)), (V.sl (List.map cT (o.tr)))]]⟩ : Blk) ∧ H 4 = (⟨0, false, false, 0, 0, []⟩ : Blk) ∧ H 8 = (⟨0, false, false, 0, 0, []⟩ : Blk) ∧ True) ?_ ?_
 ·
  unfold r36_3
  refine R_fld_mp (o' := 1) t1 h1 (by first | rfl | simp [okB, Blk.own]) rfl ?_
  refine R_load_mp (v := (V.sl (List.map cT (o.tr)))) (@rfl V (V.mp 1 1 0 1)) h1 (by first | rfl | simp [ldB, ldV, Blk.own, V.one]) ?_
  refine R_len (@rfl V (V.sl (List.map cT (o.tr)))) ?_
  refine R_gtr (x := ((o.tr.length : Nat) : Int)) (y := (10000 : Int)) (@rfl V (iV ((o.tr.length : Nat) : Int))) (@rfl V (iV (10000 : Int))) ?_
  exact R_nil ⟨t1, rfl, h1, h4, h8, trivial⟩
 intro T H ⟨t1, t21, h1, h4, h8, _⟩
 refine W_seq_if (p := (10000 : Int) < ((o.tr.length : Nat) : Int)) t21 (fun c3 => ?_) (fun c3 => ?_)
 ·
  refine W_seq_seq ?_
  refine W_seq_regc (fun T H => T 2 = (iV (11 : Int)) ∧ H 1 = (⟨1, true, false, 34, 2, [[(iV (o.i)), (V.sl (List.map cT (o.tr)))]]⟩ : Blk) ∧ H 4 = (⟨0, false, false, 0, 0, []⟩ : Blk) ∧ H 8 = (⟨0, false, false, 0, 0, []⟩ : Blk) ∧ True) ?_ ?_
  ·
   unfold r36_4
   refine R_mv (@rfl V (iV (11 : Int))) ?_
   exact R_nil ⟨rfl, h1, h4, h8, trivial⟩
  intro T H ⟨t2, h1, h4, h8, _⟩
  refine W_seq_ret ?_
  refine Ret_1 t2 (fz_int ?_)
  · rw [oval, if_neg (by omega), if_pos (by omega)]
 refine W_seq_skip ?_
 refine W_seq_seq ?_
 refine W_seq_regc (fun T H => T 1 = (V.mp 1 1 0 0) ∧ T 23 = (V.sl (List.map cT (o.tr))) ∧ T 24 = (iV ((o.tr.length : Nat) : Int)) ∧ T 25 = (iV (0 : Int)) ∧ H 1 = (⟨1, true, false, 34, 2, [[(iV (o.i)), (V.sl (List.map cT (o.tr)))]]⟩ : Blk) ∧ H 4 = (⟨0, false, false, 0, 0, []⟩ : Blk) ∧ H 8 = (⟨0, false, false, 0, 0, []⟩ : Blk) ∧ True) ?_ ?_
 ·
  unfold r36_5
  refine R_fld_mp (o' := 1) t1 h1 (by first | rfl | simp [okB, Blk.own]) rfl ?_
  refine R_load_mp (v := (V.sl (List.map cT (o.tr)))) (@rfl V (V.mp 1 1 0 1)) h1 (by first | rfl | simp [ldB, ldV, Blk.own, V.one]) ?_
  refine R_len (@rfl V (V.sl (List.map cT (o.tr)))) ?_
  refine R_mv (@rfl V (iV (0 : Int))) ?_
  exact R_nil ⟨t1, rfl, rfl, rfl, h1, h4, h8, trivial⟩
 intro T H ⟨t1, t23, t24, t25, h1, h4, h8, _⟩
 refine W_seq_blockg fun Q4 n4 x4 y4 z4 => ?_
 refine W_loop (fun mm T H => ∃ (k : Nat) (v4 : Nat), mm = o.tr.length - k ∧ T 1 = (V.mp 1 1 0 0) ∧ T 23 = (V.sl (List.map cT (o.tr))) ∧ T 24 = (iV ((o.tr.length : Nat) : Int)) ∧ T 25 = (iV ((k : Nat) : Int)) ∧ H 1 = (⟨1, true, false, 34, 2, [[(iV (o.i)), (V.sl (List.map cT (o.tr)))]]⟩ : Blk) ∧ (H 4).ver = v4 ∧ H 8 = (⟨0, false, false, 0, 0, []⟩ : Blk) ∧ (k ≤ o.tr.length) ∧ (1 ≤ o.i ∧ o.i ≤ 64 ∧ o.tr.length ≤ 10000) ∧ (fe (trE o) 0 o.tr.length = fe (trE o) k (o.tr.length - k)) ∧ (∀ j, j < k → (nth o.tr j).no.length = (nth o.tr j).ni.length) ∧ (∀ j, j + 1 < k → slx (nth o.tr j).ni (nth o.tr (j + 1)).ni < 0)) ?_ ?_
 ·
  refine ⟨_, 0, 0, rfl, t1, t23, t24, (Eq.trans t25 (by first | rfl | simp)), h1, (congrArg Blk.ver h4), h8, ?_, ?_, ?_, ?_, ?_⟩
  · omega
  · omega
  · rfl
  · intro j hj; omega
  · intro j hj; omega
 intro mm T H ⟨k, v4, hmm, t1, t23, t24, t25, h1, h4, h8, hk, hh, hc, hpl, hlt⟩ Q5 p15 p25 p35
 unfold b36_0
 refine W_seq_regc (fun T H => T 1 = (V.mp 1 1 0 0) ∧ T 23 = (V.sl (List.map cT (o.tr))) ∧ T 24 = (iV ((o.tr.length : Nat) : Int)) ∧ T 25 = (iV ((k : Nat) : Int)) ∧ T 26 = (V.bool (decide (((k : Nat) : Int) < ((o.tr.length : Nat) : Int)))) ∧ H 1 = (⟨1, true, false, 34, 2, [[(iV (o.i)), (V.sl (List.map cT (o.tr)))]]⟩ : Blk) ∧ (H 4).ver = v4 ∧ H 8 = (⟨0, false, false, 0, 0, []⟩ : Blk) ∧ True) ?_ ?_
 ·
  unfold r36_6
  refine R_lss (x := ((k : Nat) : Int)) (y := ((o.tr.length : Nat) : Int)) t25 t24 ?_
  exact R_nil ⟨t1, t23, t24, t25, rfl, h1, h4, h8, trivial⟩
 intro T H ⟨t1, t23, t24, t25, t26, h1, h4, h8, _⟩
 refine W_seq_if (p := ((k : Nat) : Int) < ((o.tr.length : Nat) : Int)) t26 (fun c6 => ?_) (fun c6 => ?_)
 ·
  refine W_seq_skip ?_
  refine W_seq_blockg fun Q7 n7 x7 y7 z7 => ?_
  refine W_seq_regc (fun T H => T 1 = (V.mp 1 1 0 0) ∧ T 3 = (iV ((k : Nat) : Int)) ∧ T 4 = (V.mp 4 (v4 + 1) 0 0) ∧ T 23 = (V.sl (List.map cT (o.tr))) ∧ T 24 = (iV ((o.tr.length : Nat) : Int)) ∧ T 25 = (iV ((k : Nat) : Int)) ∧ H 1 = (⟨1, true, false, 34, 2, [[(iV (o.i)), (V.sl (List.map cT (o.tr)))]]⟩ : Blk) ∧ H 4 = (⟨v4 + 1, true, false, 63, 2, [[(V.sl (List.map cI ((nth (o.tr) (k)).ni))), (V.sl (List.map cI ((nth (o.tr) (k)).no)))]]⟩ : Blk) ∧ H 8 = (⟨0, false, false, 0, 0, []⟩ : Blk) ∧ True) ?_ ?_
  ·
   unfold r36_7
   refine R_mv t25 ?_
   refine R_idx (i := k) t23 t25 (by omega) rfl ?_
   refine R_load_pp (v := (V.agg [(V.sl (List.map cI ((nth (o.tr) (k)).ni))), (V.sl (List.map cI ((nth (o.tr) (k)).no)))])) (@rfl V (V.pp [(V.sl (List.map cI ((nth (o.tr) (k)).ni))), (V.sl (List.map cI ((nth (o.tr) (k)).no)))])) (by first | rfl | simp [ldV]) ?_
   refine R_alloc (i := 4) (n := v4) (m := 2) rfl h4 rfl ?_
   refine R_mv (@rfl V (iV ((k : Nat) : Int))) ?_
   refine R_store (vs := [(V.sl (List.map cI ((nth (o.tr) (k)).ni))), (V.sl (List.map cI ((nth (o.tr) (k)).no)))]) (B' := (⟨v4 + 1, true, false, 63, 2, [[(V.sl (List.map cI ((nth (o.tr) (k)).ni))), (V.sl (List.map cI ((nth (o.tr) (k)).no)))]]⟩ : Blk)) (@rfl V (V.mp 4 (v4 + 1) 0 0)) (@rfl V (V.agg [(V.sl (List.map cI ((nth (o.tr) (k)).ni))), (V.sl (List.map cI ((nth (o.tr) (k)).no)))])) rfl (@rfl Blk (⟨v4 + 1, true, false, 63, 2, [[V.nilsl, V.nilsl]]⟩ : Blk)) (by first | rfl | simp [stB, okB, Blk.own, putAt, V.one]) ?_
   exact R_nil ⟨t1, rfl, rfl, t23, t24, t25, h1, rfl, h8, trivial⟩
  intro T H ⟨t1, t3, t4, t23, t24, t25, h1, h4, h8, _⟩
  refine W_seq_seq ?_
  refine W_seq_regc (fun T H => T 1 = (V.mp 1 1 0 0) ∧ T 3 = (iV ((k : Nat) : Int)) ∧ T 4 = (V.mp 4 (v4 + 1) 0 0) ∧ T 5 = (iV (wchk ((nth (o.tr) (k)).ni) ((o.i)))) ∧ T 23 = (V.sl (List.map cT (o.tr))) ∧ T 24 = (iV ((o.tr.length : Nat) : Int)) ∧ T 25 = (iV ((k : Nat) : Int)) ∧ H 1 = (⟨1, true, false, 34, 2, [[(iV (o.i)), (V.sl (List.map cT (o.tr)))]]⟩ : Blk) ∧ H 4 = (⟨v4 + 1, true, false, 63, 2, [[(V.sl (List.map cI ((nth (o.tr) (k)).ni))), (V.sl (List.map cI ((nth (o.tr) (k)).no)))]]⟩ : Blk) ∧ H 8 = (⟨0, false, false, 0, 0, []⟩ : Blk) ∧ True) ?_ ?_
  ·
   unfold r36_8
   refine R_fld_mp (o' := 0) t4 h4 (by first | rfl | simp [okB, Blk.own]) rfl ?_
   refine R_load_mp (v := (V.sl (List.map cI ((nth (o.tr) (k)).ni)))) (@rfl V (V.mp 4 (v4 + 1) 0 0)) h4 (by first | rfl | simp [ldB, ldV, Blk.own, V.one]) ?_
   refine R_fld_mp (o' := 0) t1 h1 (by first | rfl | simp [okB, Blk.own]) rfl ?_
   refine R_load_mp (v := (iV (o.i))) (@rfl V (V.mp 1 1 0 0)) h1 (by first | rfl | simp [ldB, ldV, Blk.own, V.one]) ?_
   refine R_call (evcons (@rfl V (V.sl (List.map cI ((nth (o.tr) (k)).ni)))) (evcons (@rfl V (iV (o.i))) evnil)) (check_pure ((nth (o.tr) (k)).ni) ((o.i))) (fzv_mapcanon _ _ (by simp [-List.map_take, -List.map_drop, -List.map_append, -List.map_reverse])) (by simp [-List.map_take, -List.map_drop, -List.map_append, -List.map_reverse]) (Or.inl (by simp [-List.map_take, -List.map_drop, -List.map_append, -List.map_reverse])) ?_
   refine R_mv (@rfl V (iV (wchk ((nth (o.tr) (k)).ni) ((o.i))))) ?_
   exact R_nil ⟨t1, t3, t4, rfl, t23, t24, t25, h1, h4, h8, trivial⟩
  intro T H ⟨t1, t3, t4, t5, t23, t24, t25, h1, h4, h8, _⟩
  refine W_seq_seq ?_
  refine W_seq_regc (fun T H => T 1 = (V.mp 1 1 0 0) ∧ T 3 = (iV ((k : Nat) : Int)) ∧ T 4 = (V.mp 4 (v4 + 1) 0 0) ∧ T 5 = (iV (wchk ((nth (o.tr) (k)).ni) ((o.i)))) ∧ T 23 = (V.sl (List.map cT (o.tr))) ∧ T 24 = (iV ((o.tr.length : Nat) : Int)) ∧ T 25 = (iV ((k : Nat) : Int)) ∧ T 36 = (V.bool (decide ((wchk ((nth (o.tr) (k)).ni) ((o.i))) ≠ (0 : Int)))) ∧ H 1 = (⟨1, true, false, 34, 2, [[(iV (o.i)), (V.sl (List.map cT (o.tr)))]]⟩ : Blk) ∧ H 4 = (⟨v4 + 1, true, false, 63, 2, [[(V.sl (List.map cI ((nth (o.tr) (k)).ni))), (V.sl (List.map cI ((nth (o.tr) (k)).no)))]]⟩ : Blk) ∧ H 8 = (⟨0, false, false, 0, 0, []⟩ : Blk) ∧ True) ?_ ?_
  ·
   unfold r36_9
   refine R_mv t5 ?_
   refine R_neq (x := (wchk ((nth (o.tr) (k)).ni) ((o.i)))) (y := (0 : Int)) (@rfl V (iV (wchk ((nth (o.tr) (k)).ni) ((o.i))))) (@rfl V (iV (0 : Int))) ?_
   exact R_nil ⟨t1, t3, t4, t5, t23, t24, t25, rfl, h1, h4, h8, trivial⟩
  intro T H ⟨t1, t3, t4, t5, t23, t24, t25, t36, h1, h4, h8, _⟩
  refine W_seq_if (p := (wchk ((nth (o.tr) (k)).ni) ((o.i))) ≠ (0 : Int)) t36 (fun c8 => ?_) (fun c8 => ?_)
  ·
   refine W_seq_seq ?_
   refine W_seq_regc (fun T H => T 2 = (iV (wchk ((nth (o.tr) (k)).ni) ((o.i)))) ∧ H 1 = (⟨1, true, false, 34, 2, [[(iV (o.i)), (V.sl (List.map cT (o.tr)))]]⟩ : Blk) ∧ H 4 = (⟨v4 + 1, true, false, 63, 2, [[(V.sl (List.map cI ((nth (o.tr) (k)).ni))), (V.sl (List.map cI ((nth (o.tr) (k)).no)))]]⟩ : Blk) ∧ H 8 = (⟨0, false, false, 0, 0, []⟩ : Blk) ∧ True) ?_ ?_
   ·
    unfold r36_10
    refine R_mv t5 ?_
    refine R_mv (@rfl V (iV (wchk ((nth (o.tr) (k)).ni) ((o.i))))) ?_
    exact R_nil ⟨rfl, h1, h4, h8, trivial⟩
   intro T H ⟨t2, h1, h4, h8, _⟩
   refine W_seq_ret ?_
   refine y7 _ _ ?_
   refine p25 _ _ ?_
   refine y4 _ _ ?_
   refine Ret_1 t2 (fz_int ?_)
   · have e : trE o k = wchk (nth o.tr k).ni o.i := by rw [trE, if_pos (by omega)]
     have e2 : fe (trE o) 0 o.tr.length = trE o k := by rw [hc]; exact fe_hit (by omega) (by omega)
     rw [oval, if_neg (by omega), if_neg (by omega), if_pos (by omega)]; omega
  refine W_seq_skip ?_
  refine W_seq_seq ?_
  refine W_seq_regc (fun T H => T 1 = (V.mp 1 1 0 0) ∧ T 3 = (iV ((k : Nat) : Int)) ∧ T 4 = (V.mp 4 (v4 + 1) 0 0) ∧ T 23 = (V.sl (List.map cT (o.tr))) ∧ T 24 = (iV ((o.tr.length : Nat) : Int)) ∧ T 25 = (iV ((k : Nat) : Int)) ∧ T 41 = (V.bool (decide (((((nth (o.tr) (k)).ni).length : Nat) : Int) = (0 : Int)))) ∧ H 1 = (⟨1, true, false, 34, 2, [[(iV (o.i)), (V.sl (List.map cT (o.tr)))]]⟩ : Blk) ∧ H 4 = (⟨v4 + 1, true, false, 63, 2, [[(V.sl (List.map cI ((nth (o.tr) (k)).ni))), (V.sl (List.map cI ((nth (o.tr) (k)).no)))]]⟩ : Blk) ∧ H 8 = (⟨0, false, false, 0, 0, []⟩ : Blk) ∧ True) ?_ ?_
  ·
   unfold r36_11
   refine R_fld_mp (o' := 0) t4 h4 (by first | rfl | simp [okB, Blk.own]) rfl ?_
   refine R_load_mp (v := (V.sl (List.map cI ((nth (o.tr) (k)).ni)))) (@rfl V (V.mp 4 (v4 + 1) 0 0)) h4 (by first | rfl | simp [ldB, ldV, Blk.own, V.one]) ?_
   refine R_len (@rfl V (V.sl (List.map cI ((nth (o.tr) (k)).ni)))) ?_
   refine R_eql (x := ((((nth (o.tr) (k)).ni).length : Nat) : Int)) (y := (0 : Int)) (@rfl V (iV ((((nth (o.tr) (k)).ni).length : Nat) : Int))) (@rfl V (iV (0 : Int))) ?_
   exact R_nil ⟨t1, t3, t4, t23, t24, t25, rfl, h1, h4, h8, trivial⟩
  intro T H ⟨t1, t3, t4, t23, t24, t25, t41, h1, h4, h8, _⟩
  refine W_seq_if (p := ((((nth (o.tr) (k)).ni).length : Nat) : Int) = (0 : Int)) t41 (fun c9 => ?_) (fun c9 => ?_)
  ·
   refine W_seq_seq ?_
   refine W_seq_regc (fun T H => T 2 = (iV (19 : Int)) ∧ H 1 = (⟨1, true, false, 34, 2, [[(iV (o.i)), (V.sl (List.map cT (o.tr)))]]⟩ : Blk) ∧ H 4 = (⟨v4 + 1, true, false, 63, 2, [[(V.sl (List.map cI ((nth (o.tr) (k)).ni))), (V.sl (List.map cI ((nth (o.tr) (k)).no)))]]⟩ : Blk) ∧ H 8 = (⟨0, false, false, 0, 0, []⟩ : Blk) ∧ True) ?_ ?_
   ·
    unfold r36_12
    refine R_mv (@rfl V (iV (19 : Int))) ?_
    exact R_nil ⟨rfl, h1, h4, h8, trivial⟩
   intro T H ⟨t2, h1, h4, h8, _⟩
   refine W_seq_ret ?_
   refine y7 _ _ ?_
   refine p25 _ _ ?_
   refine y4 _ _ ?_
   refine Ret_1 t2 (fz_int ?_)
   · have e : trE o k = 19 := by rw [trE, if_neg (by omega), if_pos (by omega)]
     have e2 : fe (trE o) 0 o.tr.length = trE o k := by rw [hc]; exact fe_hit (by omega) (by omega)
     rw [oval, if_neg (by omega), if_neg (by omega), if_pos (by omega)]; omega
  refine W_seq_skip ?_
  refine W_seq_seq ?_
  refine W_seq_regc (fun T H => T 1 = (V.mp 1 1 0 0) ∧ T 3 = (iV ((k : Nat) : Int)) ∧ T 4 = (V.mp 4 (v4 + 1) 0 0) ∧ T 6 = (iV (prE ((nth (o.tr) (k))) ((o.i)))) ∧ T 23 = (V.sl (List.map cT (o.tr))) ∧ T 24 = (iV ((o.tr.length : Nat) : Int)) ∧ T 25 = (iV ((k : Nat) : Int)) ∧ H 1 = (⟨1, true, false, 34, 2, [[(iV (o.i)), (V.sl (List.map cT (o.tr)))]]⟩ : Blk) ∧ H 4 = (⟨v4 + 1, true, false, 63, 2, [[(V.sl (List.map cI ((nth (o.tr) (k)).ni))), (V.sl (List.map cI ((nth (o.tr) (k)).no)))]]⟩ : Blk) ∧ H 8 = (⟨0, false, false, 0, 0, []⟩ : Blk) ∧ True) ?_ ?_
  ·
   unfold r36_13
   refine R_load_mp (v := (V.agg [(V.sl (List.map cI ((nth (o.tr) (k)).ni))), (V.sl (List.map cI ((nth (o.tr) (k)).no)))])) t4 h4 (by first | rfl | simp [ldB, ldV, Blk.own, V.one]) ?_
   refine R_fld_mp (o' := 0) t1 h1 (by first | rfl | simp [okB, Blk.own]) rfl ?_
   refine R_load_mp (v := (iV (o.i))) (@rfl V (V.mp 1 1 0 0)) h1 (by first | rfl | simp [ldB, ldV, Blk.own, V.one]) ?_
   refine R_call (evcons (@rfl V (V.agg [(V.sl (List.map cI ((nth (o.tr) (k)).ni))), (V.sl (List.map cI ((nth (o.tr) (k)).no)))])) (evcons (@rfl V (iV (o.i))) evnil)) (proper_pure ((nth (o.tr) (k))) ((o.i))) (fzv_mapcanon _ _ (by simp [-List.map_take, -List.map_drop, -List.map_append, -List.map_reverse])) (by simp [-List.map_take, -List.map_drop, -List.map_append, -List.map_reverse]) (Or.inl (by simp [-List.map_take, -List.map_drop, -List.map_append, -List.map_reverse])) ?_
   refine R_mv (@rfl V (iV (prE ((nth (o.tr) (k))) ((o.i))))) ?_
   exact R_nil ⟨t1, t3, t4, rfl, t23, t24, t25, h1, h4, h8, trivial⟩
  intro T H ⟨t1, t3, t4, t6, t23, t24, t25, h1, h4, h8, _⟩
  refine W_seq_seq ?_
  refine W_seq_regc (fun T H => T 1 = (V.mp 1 1 0 0) ∧ T 3 = (iV ((k : Nat) : Int)) ∧ T 4 = (V.mp 4 (v4 + 1) 0 0) ∧ T 6 = (iV (prE ((nth (o.tr) (k))) ((o.i)))) ∧ T 23 = (V.sl (List.map cT (o.tr))) ∧ T 24 = (iV ((o.tr.length : Nat) : Int)) ∧ T 25 = (iV ((k : Nat) : Int)) ∧ T 47 = (V.bool (decide ((prE ((nth (o.tr) (k))) ((o.i))) ≠ (0 : Int)))) ∧ H 1 = (⟨1, true, false, 34, 2, [[(iV (o.i)), (V.sl (List.map cT (o.tr)))]]⟩ : Blk) ∧ H 4 = (⟨v4 + 1, true, false, 63, 2, [[(V.sl (List.map cI ((nth (o.tr) (k)).ni))), (V.sl (List.map cI ((nth (o.tr) (k)).no)))]]⟩ : Blk) ∧ H 8 = (⟨0, false, false, 0, 0, []⟩ : Blk) ∧ True) ?_ ?_
  ·
   unfold r36_14
   refine R_mv t6 ?_
   refine R_neq (x := (prE ((nth (o.tr) (k))) ((o.i)))) (y := (0 : Int)) (@rfl V (iV (prE ((nth (o.tr) (k))) ((o.i))))) (@rfl V (iV (0 : Int))) ?_
   exact R_nil ⟨t1, t3, t4, t6, t23, t24, t25, rfl, h1, h4, h8, trivial⟩
  intro T H ⟨t1, t3, t4, t6, t23, t24, t25, t47, h1, h4, h8, _⟩
  refine W_seq_if (p := (prE ((nth (o.tr) (k))) ((o.i))) ≠ (0 : Int)) t47 (fun c10 => ?_) (fun c10 => ?_)
  ·
   refine W_seq_seq ?_
   refine W_seq_regc (fun T H => T 2 = (iV (prE ((nth (o.tr) (k))) ((o.i)))) ∧ H 1 = (⟨1, true, false, 34, 2, [[(iV (o.i)), (V.sl (List.map cT (o.tr)))]]⟩ : Blk) ∧ H 4 = (⟨v4 + 1, true, false, 63, 2, [[(V.sl (List.map cI ((nth (o.tr) (k)).ni))), (V.sl (List.map cI ((nth (o.tr) (k)).no)))]]⟩ : Blk) ∧ H 8 = (⟨0, false, false, 0, 0, []⟩ : Blk) ∧ True) ?_ ?_
   ·
    unfold r36_15
    refine R_mv t6 ?_
    refine R_mv (@rfl V (iV (prE ((nth (o.tr) (k))) ((o.i))))) ?_
    exact R_nil ⟨rfl, h1, h4, h8, trivial⟩
   intro T H ⟨t2, h1, h4, h8, _⟩
   refine W_seq_ret ?_
   refine y7 _ _ ?_
   refine p25 _ _ ?_
   refine y4 _ _ ?_
   refine Ret_1 t2 (fz_int ?_)
   · have e : trE o k = prE (nth o.tr k) o.i := by rw [trE, if_neg (by omega), if_neg (by omega), if_pos (by omega)]
     have e2 : fe (trE o) 0 o.tr.length = trE o k := by rw [hc]; exact fe_hit (by omega) (by omega)
     rw [oval, if_neg (by omega), if_neg (by omega), if_pos (by omega)]; rw [e2, e]
  refine W_seq_skip ?_
  refine W_seq_regc (fun T H => T 1 = (V.mp 1 1 0 0) ∧ T 23 = (V.sl (List.map cT (o.tr))) ∧ T 24 = (iV ((o.tr.length : Nat) : Int)) ∧ T 25 = (iV ((k : Nat) : Int)) ∧ T 61 = (V.bool (decide (((0 : Int) < ((k : Nat) : Int)) ∧ ((0 : Int) ≤ (slx ((nth (o.tr) (((k : Nat) : Int) - (1 : Int)).toNat)).ni ((nth (o.tr) (k))).ni))))) ∧ H 1 = (⟨1, true, false, 34, 2, [[(iV (o.i)), (V.sl (List.map cT (o.tr)))]]⟩ : Blk) ∧ H 4 = (⟨v4 + 1, true, false, 63, 2, [[(V.sl (List.map cI ((nth (o.tr) (k)).ni))), (V.sl (List.map cI ((nth (o.tr) (k)).no)))]]⟩ : Blk) ∧ H 8 = (⟨0, false, false, 0, 0, []⟩ : Blk) ∧ True) ?_ ?_
  ·
   unfold r36_16
   refine R_mv t3 ?_
   refine R_gtr (x := ((k : Nat) : Int)) (y := (0 : Int)) (@rfl V (iV ((k : Nat) : Int))) (@rfl V (iV (0 : Int))) ?_
   refine R_mv (@rfl V (V.bool (decide ((0 : Int) < ((k : Nat) : Int))))) ?_
   refine Ops_seg 10 (fun T H => T 1 = (V.mp 1 1 0 0) ∧ T 23 = (V.sl (List.map cT (o.tr))) ∧ T 24 = (iV ((o.tr.length : Nat) : Int)) ∧ T 25 = (iV ((k : Nat) : Int)) ∧ T 61 = (V.bool (decide (((0 : Int) < ((k : Nat) : Int)) ∧ ((0 : Int) ≤ (slx ((nth (o.tr) (((k : Nat) : Int) - (1 : Int)).toNat)).ni ((nth (o.tr) (k))).ni))))) ∧ H 1 = (⟨1, true, false, 34, 2, [[(iV (o.i)), (V.sl (List.map cT (o.tr)))]]⟩ : Blk) ∧ H 4 = (⟨v4 + 1, true, false, 63, 2, [[(V.sl (List.map cI ((nth (o.tr) (k)).ni))), (V.sl (List.map cI ((nth (o.tr) (k)).no)))]]⟩ : Blk) ∧ H 8 = (⟨0, false, false, 0, 0, []⟩ : Blk) ∧ True) ?_ ?_
   ·
    by_cases g11 : (0 : Int) < ((k : Nat) : Int)
    ·
     refine G_yes (Eq.trans (@rfl V (V.bool (decide ((0 : Int) < ((k : Nat) : Int))))) (bdT g11)) ?_
     refine R_fld_mp (o' := 1) t1 h1 (by first | rfl | simp [okB, Blk.own]) rfl ?_
     refine G_yes (Eq.trans (@rfl V (V.bool (decide ((0 : Int) < ((k : Nat) : Int))))) (bdT g11)) ?_
     refine R_load_mp (v := (V.sl (List.map cT (o.tr)))) (@rfl V (V.mp 1 1 0 1)) h1 (by first | rfl | simp [ldB, ldV, Blk.own, V.one]) ?_
     refine G_yes (Eq.trans (@rfl V (V.bool (decide ((0 : Int) < ((k : Nat) : Int))))) (bdT g11)) ?_
     refine R_mv t3 ?_
     refine G_yes (Eq.trans (@rfl V (V.bool (decide ((0 : Int) < ((k : Nat) : Int))))) (bdT g11)) ?_
     refine R_sub (x := ((k : Nat) : Int)) (y := (1 : Int)) (@rfl V (iV ((k : Nat) : Int))) (@rfl V (iV (1 : Int))) (by omega) (by omega) ?_
     refine G_yes (Eq.trans (@rfl V (V.bool (decide ((0 : Int) < ((k : Nat) : Int))))) (bdT g11)) ?_
     refine R_idxI (i := (((k : Nat) : Int) - (1 : Int))) (@rfl V (V.sl (List.map cT (o.tr)))) (@rfl V (iV (((k : Nat) : Int) - (1 : Int)))) (by omega) (by omega) rfl ?_
     refine G_yes (Eq.trans (@rfl V (V.bool (decide ((0 : Int) < ((k : Nat) : Int))))) (bdT g11)) ?_
     refine R_load_pp (v := (V.agg [(V.sl (List.map cI ((nth (o.tr) (((k : Nat) : Int) - (1 : Int)).toNat).ni))), (V.sl (List.map cI ((nth (o.tr) (((k : Nat) : Int) - (1 : Int)).toNat).no)))])) (@rfl V (V.pp [(V.sl (List.map cI ((nth (o.tr) (((k : Nat) : Int) - (1 : Int)).toNat).ni))), (V.sl (List.map cI ((nth (o.tr) (((k : Nat) : Int) - (1 : Int)).toNat).no)))])) (by first | rfl | simp [ldV]) ?_
     refine G_yes (Eq.trans (@rfl V (V.bool (decide ((0 : Int) < ((k : Nat) : Int))))) (bdT g11)) ?_
     refine R_load_mp (v := (V.agg [(V.sl (List.map cI ((nth (o.tr) (k)).ni))), (V.sl (List.map cI ((nth (o.tr) (k)).no)))])) t4 h4 (by first | rfl | simp [ldB, ldV, Blk.own, V.one]) ?_
     refine G_yes (Eq.trans (@rfl V (V.bool (decide ((0 : Int) < ((k : Nat) : Int))))) (bdT g11)) ?_
     refine R_call (evcons (@rfl V (V.agg [(V.sl (List.map cI ((nth (o.tr) (((k : Nat) : Int) - (1 : Int)).toNat).ni))), (V.sl (List.map cI ((nth (o.tr) (((k : Nat) : Int) - (1 : Int)).toNat).no)))])) (evcons (@rfl V (V.agg [(V.sl (List.map cI ((nth (o.tr) (k)).ni))), (V.sl (List.map cI ((nth (o.tr) (k)).no)))])) evnil)) (order_pure ((nth (o.tr) (((k : Nat) : Int) - (1 : Int)).toNat)) ((nth (o.tr) (k)))) (fzv_mapcanon _ _ (by simp [-List.map_take, -List.map_drop, -List.map_append, -List.map_reverse])) (by simp [-List.map_take, -List.map_drop, -List.map_append, -List.map_reverse]) (Or.inl (by simp [-List.map_take, -List.map_drop, -List.map_append, -List.map_reverse])) ?_
     refine G_yes (Eq.trans (@rfl V (V.bool (decide ((0 : Int) < ((k : Nat) : Int))))) (bdT g11)) ?_
     refine R_geq (x := (slx ((nth (o.tr) (((k : Nat) : Int) - (1 : Int)).toNat)).ni ((nth (o.tr) (k))).ni)) (y := (0 : Int)) (@rfl V (iV (slx ((nth (o.tr) (((k : Nat) : Int) - (1 : Int)).toNat)).ni ((nth (o.tr) (k))).ni))) (@rfl V (iV (0 : Int))) ?_
     refine R_pickT (Eq.trans (@rfl V (V.bool (decide ((0 : Int) < ((k : Nat) : Int))))) (bdT g11)) (@rfl V (V.bool (decide ((0 : Int) ≤ (slx ((nth (o.tr) (((k : Nat) : Int) - (1 : Int)).toNat)).ni ((nth (o.tr) (k))).ni))))) ?_
     exact ⟨t1, t23, t24, t25, (Eq.trans (@rfl V (V.bool (decide ((0 : Int) ≤ (slx ((nth (o.tr) (((k : Nat) : Int) - (1 : Int)).toNat)).ni ((nth (o.tr) (k))).ni))))) (dec_andT g11)), h1, h4, h8, trivial⟩
    ·
     refine G_no (Eq.trans (@rfl V (V.bool (decide ((0 : Int) < ((k : Nat) : Int))))) (bdF g11)) (by decide) ?_
     refine G_no (Eq.trans (@rfl V (V.bool (decide ((0 : Int) < ((k : Nat) : Int))))) (bdF g11)) (by decide) ?_
     refine G_no (Eq.trans (@rfl V (V.bool (decide ((0 : Int) < ((k : Nat) : Int))))) (bdF g11)) (by decide) ?_
     refine G_no (Eq.trans (@rfl V (V.bool (decide ((0 : Int) < ((k : Nat) : Int))))) (bdF g11)) (by decide) ?_
     refine G_no (Eq.trans (@rfl V (V.bool (decide ((0 : Int) < ((k : Nat) : Int))))) (bdF g11)) (by decide) ?_
     refine G_no (Eq.trans (@rfl V (V.bool (decide ((0 : Int) < ((k : Nat) : Int))))) (bdF g11)) (by decide) ?_
     refine G_no (Eq.trans (@rfl V (V.bool (decide ((0 : Int) < ((k : Nat) : Int))))) (bdF g11)) (by decide) ?_
     refine G_no (Eq.trans (@rfl V (V.bool (decide ((0 : Int) < ((k : Nat) : Int))))) (bdF g11)) (by decide) ?_
     refine G_no (Eq.trans (@rfl V (V.bool (decide ((0 : Int) < ((k : Nat) : Int))))) (bdF g11)) (by decide) ?_
     refine R_pickF (Eq.trans (@rfl V (V.bool (decide ((0 : Int) < ((k : Nat) : Int))))) (bdF g11)) (@rfl V (V.bool false)) ?_
     exact ⟨t1, t23, t24, t25, (Eq.trans (@rfl V (V.bool false)) (dec_andF g11)), h1, h4, h8, trivial⟩
   intro T H ⟨t1, t23, t24, t25, t61, h1, h4, h8, _⟩
   exact R_nil ⟨t1, t23, t24, t25, t61, h1, h4, h8, trivial⟩
  intro T H ⟨t1, t23, t24, t25, t61, h1, h4, h8, _⟩
  refine W_if (p := ((0 : Int) < ((k : Nat) : Int)) ∧ ((0 : Int) ≤ (slx ((nth (o.tr) (((k : Nat) : Int) - (1 : Int)).toNat)).ni ((nth (o.tr) (k))).ni))) t61 (fun c12 => ?_) (fun c12 => ?_)
  ·
   rw [show (((k : Nat) : Int) - (1)).toNat = k - 1 by omega] at c12
   refine W_seq_regc (fun T H => T 2 = (iV (10 : Int)) ∧ H 1 = (⟨1, true, false, 34, 2, [[(iV (o.i)), (V.sl (List.map cT (o.tr)))]]⟩ : Blk) ∧ H 4 = (⟨v4 + 1, true, false, 63, 2, [[(V.sl (List.map cI ((nth (o.tr) (k)).ni))), (V.sl (List.map cI ((nth (o.tr) (k)).no)))]]⟩ : Blk) ∧ H 8 = (⟨0, false, false, 0, 0, []⟩ : Blk) ∧ True) ?_ ?_
   ·
    unfold r36_17
    refine R_mv (@rfl V (iV (10 : Int))) ?_
    exact R_nil ⟨rfl, h1, h4, h8, trivial⟩
   intro T H ⟨t2, h1, h4, h8, _⟩
   refine W_ret ?_
   refine y7 _ _ ?_
   refine p25 _ _ ?_
   refine y4 _ _ ?_
   refine Ret_1 t2 (fz_int ?_)
   · have e : trE o k = 10 := by rw [trE, if_neg (by omega), if_neg (by omega), if_neg (by omega), if_pos (by omega)]
     have e2 : fe (trE o) 0 o.tr.length = trE o k := by rw [hc]; exact fe_hit (by omega) (by omega)
     rw [oval, if_neg (by omega), if_neg (by omega), if_pos (by omega)]; omega
  rw [show (((k : Nat) : Int) - (1)).toNat = k - 1 by omega] at c12
  have d4 := c12
  refine W_skip ?_
  refine n7 _ _ ?_
  refine .done ?_
  refine W_regc (fun T H => T 1 = (V.mp 1 1 0 0) ∧ T 23 = (V.sl (List.map cT (o.tr))) ∧ T 24 = (iV ((o.tr.length : Nat) : Int)) ∧ T 25 = (iV ((k + 1 : Nat) : Int)) ∧ H 1 = (⟨1, true, false, 34, 2, [[(iV (o.i)), (V.sl (List.map cT (o.tr)))]]⟩ : Blk) ∧ H 4 = (⟨v4 + 1, true, false, 63, 2, [[(V.sl (List.map cI ((nth (o.tr) (k)).ni))), (V.sl (List.map cI ((nth (o.tr) (k)).no)))]]⟩ : Blk) ∧ H 8 = (⟨0, false, false, 0, 0, []⟩ : Blk) ∧ True) ?_ ?_
  ·
   unfold r36_18
   refine R_addN (m := k) (n := 1) t25 (@rfl V (iV ((1 : Nat) : Int))) (by omega) ?_
   refine R_mv (@rfl V (iV ((k + 1 : Nat) : Int))) ?_
   exact R_nil ⟨t1, t23, t24, rfl, h1, h4, h8, trivial⟩
  intro T H ⟨t1, t23, t24, t25, h1, h4, h8, _⟩
  refine p15 _ _ _ ?_ ⟨(k + 1), (v4 + 1), rfl, t1, t23, t24, (Eq.trans t25 (by first | rfl | simp)), h1, (congrArg Blk.ver h4), h8, ?_, ?_, ?_, ?_, ?_⟩
  · omega
  · omega
  · omega
  · have e : trE o k = 0 := by rw [trE, if_neg (by omega), if_neg (by omega), if_neg (by omega), if_neg (by omega)]
    rw [hc]; exact fe_skip e (by omega)
  · intro j hj
    by_cases e : j = k
    · subst e; exact (prE_ok (n := o.i) (by omega)).len
    · exact hpl j (by omega)
  · intro j hj
    by_cases e : j + 1 < k
    · exact hlt j e
    · have e2 : j = k - 1 := by omega
      subst e2; rw [show k - 1 + 1 = k by omega]; omega
 have f0 : fe (trE o) 0 o.tr.length = 0 := by rw [hc, fe_end (by omega)]
 have f1 : ∀ a ∈ o.tr, a.no.length = a.ni.length := fun a ha => by obtain ⟨j, hj, rfl⟩ := mem_nth ha; exact hpl j (by omega)
 have f2 : ∀ j, j + 1 < o.tr.length → slx (nth o.tr j).ni (nth o.tr (j + 1)).ni < 0 := fun j hj => hlt j (by omega)
 have f3 := tr_inj f2
 clear hc hpl hlt hk
 refine W_seq_exit ?_
 refine p35 _ _ _ ?_
 refine x4 _ _ ?_
 refine .done ?_
 refine W_seq_seq ?_
 refine W_seq_regc (fun T H => T 1 = (V.mp 1 1 0 0) ∧ T 65 = (V.bool (fitB o.tr)) ∧ H 1 = (⟨1, true, false, 34, 2, [[(iV (o.i)), (V.sl (List.map cT (o.tr)))]]⟩ : Blk) ∧ (H 4).ver = v4 ∧ H 8 = (⟨0, false, false, 0, 0, []⟩ : Blk) ∧ True) ?_ ?_
 ·
  unfold r36_19
  refine R_fld_mp (o' := 1) t1 h1 (by first | rfl | simp [okB, Blk.own]) rfl ?_
  refine R_load_mp (v := (V.sl (List.map cT (o.tr)))) (@rfl V (V.mp 1 1 0 1)) h1 (by first | rfl | simp [ldB, ldV, Blk.own, V.one]) ?_
  refine R_call (evcons (@rfl V (V.sl (List.map cT (o.tr)))) evnil) (fits_pure o.tr (by omega) f3 f1) (fzv_mapcanon _ _ (by simp [-List.map_take, -List.map_drop, -List.map_append, -List.map_reverse])) (by simp [-List.map_take, -List.map_drop, -List.map_append, -List.map_reverse]) (Or.inl (by simp [-List.map_take, -List.map_drop, -List.map_append, -List.map_reverse])) ?_
  exact R_nil ⟨t1, rfl, h1, h4, h8, trivial⟩
 intro T H ⟨t1, t65, h1, h4, h8, _⟩
 refine W_seq_ifb t65 (fun c13 => ?_) (fun c13 => ?_)
 ·
  have d3 := c13
  refine W_seq_seq ?_
  refine W_seq_regc (fun T H => T 2 = (iV (0 : Int)) ∧ H 1 = (⟨1, true, false, 34, 2, [[(iV (o.i)), (V.sl (List.map cT (o.tr)))]]⟩ : Blk) ∧ (H 4).ver = v4 ∧ H 8 = (⟨0, false, false, 0, 0, []⟩ : Blk) ∧ True) ?_ ?_
  ·
   unfold r36_20
   refine R_mv (@rfl V (iV (0 : Int))) ?_
   exact R_nil ⟨rfl, h1, h4, h8, trivial⟩
  intro T H ⟨t2, h1, h4, h8, _⟩
  refine W_seq_ret ?_
  refine Ret_1 t2 (fz_int ?_)
  · rw [oval, if_neg (by omega), if_neg (by omega), if_neg (by omega), fit_ap f2 d3]
 refine W_seq_skip ?_
 refine W_seq_seq ?_
 refine W_seq_regc (fun T H => T 1 = (V.mp 1 1 0 0) ∧ T 67 = (V.sl (List.map cT (o.tr))) ∧ T 68 = (iV ((o.tr.length : Nat) : Int)) ∧ T 69 = (iV (0 : Int)) ∧ H 1 = (⟨1, true, false, 34, 2, [[(iV (o.i)), (V.sl (List.map cT (o.tr)))]]⟩ : Blk) ∧ (H 4).ver = v4 ∧ H 8 = (⟨0, false, false, 0, 0, []⟩ : Blk) ∧ True) ?_ ?_
 ·
  unfold r36_21
  refine R_fld_mp (o' := 1) t1 h1 (by first | rfl | simp [okB, Blk.own]) rfl ?_
  refine R_load_mp (v := (V.sl (List.map cT (o.tr)))) (@rfl V (V.mp 1 1 0 1)) h1 (by first | rfl | simp [ldB, ldV, Blk.own, V.one]) ?_
  refine R_len (@rfl V (V.sl (List.map cT (o.tr)))) ?_
  refine R_mv (@rfl V (iV (0 : Int))) ?_
  exact R_nil ⟨t1, rfl, rfl, rfl, h1, h4, h8, trivial⟩
 intro T H ⟨t1, t67, t68, t69, h1, h4, h8, _⟩
 refine W_seq_blockg fun Q14 n14 x14 y14 z14 => ?_
 refine W_loop (fun mm T H => ∃ (k : Nat) (v8 : Nat), mm = o.tr.length - k ∧ T 1 = (V.mp 1 1 0 0) ∧ T 67 = (V.sl (List.map cT (o.tr))) ∧ T 68 = (iV ((o.tr.length : Nat) : Int)) ∧ T 69 = (iV ((k : Nat) : Int)) ∧ H 1 = (⟨1, true, false, 34, 2, [[(iV (o.i)), (V.sl (List.map cT (o.tr)))]]⟩ : Blk) ∧ (H 4).ver = v4 ∧ (H 8).ver = v8 ∧ (k ≤ o.tr.length) ∧ (fe (apE o) 0 o.tr.length = fe (apE o) k (o.tr.length - k))) ?_ ?_
 ·
  refine ⟨_, 0, 0, rfl, t1, t67, t68, (Eq.trans t69 (by first | rfl | simp)), h1, h4, (congrArg Blk.ver h8), ?_, ?_⟩
  · omega
  · rfl
 intro mm T H ⟨k, v8, hmm, t1, t67, t68, t69, h1, h4, h8, hk, hd⟩ Q15 p115 p215 p315
 unfold b36_1
 refine W_seq_regc (fun T H => T 1 = (V.mp 1 1 0 0) ∧ T 67 = (V.sl (List.map cT (o.tr))) ∧ T 68 = (iV ((o.tr.length : Nat) : Int)) ∧ T 69 = (iV ((k : Nat) : Int)) ∧ T 70 = (V.bool (decide (((k : Nat) : Int) < ((o.tr.length : Nat) : Int)))) ∧ H 1 = (⟨1, true, false, 34, 2, [[(iV (o.i)), (V.sl (List.map cT (o.tr)))]]⟩ : Blk) ∧ (H 4).ver = v4 ∧ (H 8).ver = v8 ∧ True) ?_ ?_
 ·
  unfold r36_22
  refine R_lss (x := ((k : Nat) : Int)) (y := ((o.tr.length : Nat) : Int)) t69 t68 ?_
  exact R_nil ⟨t1, t67, t68, t69, rfl, h1, h4, h8, trivial⟩
 intro T H ⟨t1, t67, t68, t69, t70, h1, h4, h8, _⟩
 refine W_seq_if (p := ((k : Nat) : Int) < ((o.tr.length : Nat) : Int)) t70 (fun c16 => ?_) (fun c16 => ?_)
 ·
  have g1 : exB (preB o k) (k + 1) (o.tr.length - (k + 1)) = true ↔ _ := (fi_exB (p := fun u => hp u.ni (nth o.tr k).ni) (l := o.tr) (m := k + 1)).symm
  have g2 : exB (claB o k) (k + 1) (o.tr.length - (k + 1)) = true ↔ _ := (fi_exB (p := fun u => decide (0 ≤ df (nth o.tr k) u)) (l := o.tr) (m := k + 1)).symm
  refine W_seq_skip ?_
  refine W_seq_blockg fun Q17 n17 x17 y17 z17 => ?_
  refine W_seq_regc (fun T H => T 1 = (V.mp 1 1 0 0) ∧ T 7 = (iV ((k : Nat) : Int)) ∧ T 8 = (V.mp 8 (v8 + 1) 0 0) ∧ T 67 = (V.sl (List.map cT (o.tr))) ∧ T 68 = (iV ((o.tr.length : Nat) : Int)) ∧ T 69 = (iV ((k : Nat) : Int)) ∧ H 1 = (⟨1, true, false, 34, 2, [[(iV (o.i)), (V.sl (List.map cT (o.tr)))]]⟩ : Blk) ∧ (H 4).ver = v4 ∧ H 8 = (⟨v8 + 1, true, false, 63, 2, [[(V.sl (List.map cI ((nth (o.tr) (k)).ni))), (V.sl (List.map cI ((nth (o.tr) (k)).no)))]]⟩ : Blk) ∧ True) ?_ ?_
  ·
   unfold r36_23
   refine R_mv t69 ?_
   refine R_idx (i := k) t67 t69 (by omega) rfl ?_
   refine R_load_pp (v := (V.agg [(V.sl (List.map cI ((nth (o.tr) (k)).ni))), (V.sl (List.map cI ((nth (o.tr) (k)).no)))])) (@rfl V (V.pp [(V.sl (List.map cI ((nth (o.tr) (k)).ni))), (V.sl (List.map cI ((nth (o.tr) (k)).no)))])) (by first | rfl | simp [ldV]) ?_
   refine R_alloc (i := 8) (n := v8) (m := 2) rfl h8 rfl ?_
   refine R_mv (@rfl V (iV ((k : Nat) : Int))) ?_
   refine R_store (vs := [(V.sl (List.map cI ((nth (o.tr) (k)).ni))), (V.sl (List.map cI ((nth (o.tr) (k)).no)))]) (B' := (⟨v8 + 1, true, false, 63, 2, [[(V.sl (List.map cI ((nth (o.tr) (k)).ni))), (V.sl (List.map cI ((nth (o.tr) (k)).no)))]]⟩ : Blk)) (@rfl V (V.mp 8 (v8 + 1) 0 0)) (@rfl V (V.agg [(V.sl (List.map cI ((nth (o.tr) (k)).ni))), (V.sl (List.map cI ((nth (o.tr) (k)).no)))])) rfl (@rfl Blk (⟨v8 + 1, true, false, 63, 2, [[V.nilsl, V.nilsl]]⟩ : Blk)) (by first | rfl | simp [stB, okB, Blk.own, putAt, V.one]) ?_
   exact R_nil ⟨t1, rfl, rfl, t67, t68, t69, h1, h4, rfl, trivial⟩
  intro T H ⟨t1, t7, t8, t67, t68, t69, h1, h4, h8, _⟩
  refine W_seq_regc (fun T H => T 1 = (V.mp 1 1 0 0) ∧ T 8 = (V.mp 8 (v8 + 1) 0 0) ∧ T 9 = (V.sl (List.map cT (List.drop (k + 1) (o.tr)))) ∧ T 67 = (V.sl (List.map cT (o.tr))) ∧ T 68 = (iV ((o.tr.length : Nat) : Int)) ∧ T 69 = (iV ((k : Nat) : Int)) ∧ H 1 = (⟨1, true, false, 34, 2, [[(iV (o.i)), (V.sl (List.map cT (o.tr)))]]⟩ : Blk) ∧ (H 4).ver = v4 ∧ H 8 = (⟨v8 + 1, true, false, 63, 2, [[(V.sl (List.map cI ((nth (o.tr) (k)).ni))), (V.sl (List.map cI ((nth (o.tr) (k)).no)))]]⟩ : Blk) ∧ True) ?_ ?_
  ·
   unfold r36_24
   refine R_fld_mp (o' := 1) t1 h1 (by first | rfl | simp [okB, Blk.own]) rfl ?_
   refine R_load_mp (v := (V.sl (List.map cT (o.tr)))) (@rfl V (V.mp 1 1 0 1)) h1 (by first | rfl | simp [ldB, ldV, Blk.own, V.one]) ?_
   refine R_mv t7 ?_
   refine R_addN (m := k) (n := 1) (@rfl V (iV ((k : Nat) : Int))) (@rfl V (iV ((1 : Nat) : Int))) (by omega) ?_
   refine R_slice_lo (n := (k + 1)) (@rfl V (V.sl (List.map cT (o.tr)))) (@rfl V (iV ((k + 1 : Nat) : Int))) (by omega) (fun _ => rfl) ?_
   refine R_mv (@rfl V (V.sl (List.map cT (List.drop (k + 1) (o.tr))))) ?_
   exact R_nil ⟨t1, t8, rfl, t67, t68, t69, h1, h4, h8, trivial⟩
  intro T H ⟨t1, t8, t9, t67, t68, t69, h1, h4, h8, _⟩
  refine W_seq_seq ?_
  refine W_seq_regc (fun T H => T 1 = (V.mp 1 1 0 0) ∧ T 8 = (V.mp 8 (v8 + 1) 0 0) ∧ T 9 = (V.sl (List.map cT (List.drop (k + 1) (o.tr)))) ∧ T 67 = (V.sl (List.map cT (o.tr))) ∧ T 68 = (iV ((o.tr.length : Nat) : Int)) ∧ T 69 = (iV ((k : Nat) : Int)) ∧ T 81 = (V.bool (decide (0 ≤ fi (fun j => (fun u => hp u.ni (nth o.tr k).ni) (nth (List.drop (k + 1) (o.tr)) j)) 0 (List.drop (k + 1) (o.tr)).length))) ∧ H 1 = (⟨1, true, false, 34, 2, [[(iV (o.i)), (V.sl (List.map cT (o.tr)))]]⟩ : Blk) ∧ (H 4).ver = v4 ∧ H 8 = (⟨v8 + 1, true, false, 63, 2, [[(V.sl (List.map cI ((nth (o.tr) (k)).ni))), (V.sl (List.map cI ((nth (o.tr) (k)).no)))]]⟩ : Blk) ∧ True) ?_ ?_
  ·
   unfold r36_25
   refine R_mv t9 ?_
   refine R_mkf (evcons t8 evnil) ?_
   refine R_call (evcons (@rfl V (V.sl (List.map cT (List.drop (k + 1) (o.tr))))) (evcons (@rfl V (V.fn 82 [] [(V.mp 8 (v8 + 1) 0 0)])) evnil)) (cont_pure (fun u => hp u.ni (nth o.tr k).ni) (List.drop (k + 1) (o.tr)) 82 ([(V.pp [(V.sl (List.map cI ((nth (o.tr) (k)).ni))), (V.sl (List.map cI ((nth (o.tr) (k)).no)))])]) (by simp) (by simp) (fun j _ => valid1_pure (nth (List.drop (k + 1) o.tr) j) (nth o.tr k))) (mcons (fzv_canon 6 _ (by simp [-List.map_take, -List.map_drop, -List.map_append, -List.map_reverse])) (mcons (by simp [fzv, Blk.own, h1, h8]) rfl)) (by simp [-List.map_take, -List.map_drop, -List.map_append, -List.map_reverse]) (Or.inr rfl) ?_
   exact R_nil ⟨t1, t8, t9, t67, t68, t69, rfl, h1, h4, h8, trivial⟩
  intro T H ⟨t1, t8, t9, t67, t68, t69, t81, h1, h4, h8, _⟩
  refine W_seq_if (p := 0 ≤ fi (fun j => (fun u => hp u.ni (nth o.tr k).ni) (nth (List.drop (k + 1) (o.tr)) j)) 0 (List.drop (k + 1) (o.tr)).length) t81 (fun c18 => ?_) (fun c18 => ?_)
  ·
   have d1 := c18
   refine W_seq_seq ?_
   refine W_seq_regc (fun T H => T 2 = (iV (7 : Int)) ∧ H 1 = (⟨1, true, false, 34, 2, [[(iV (o.i)), (V.sl (List.map cT (o.tr)))]]⟩ : Blk) ∧ (H 4).ver = v4 ∧ H 8 = (⟨v8 + 1, true, false, 63, 2, [[(V.sl (List.map cI ((nth (o.tr) (k)).ni))), (V.sl (List.map cI ((nth (o.tr) (k)).no)))]]⟩ : Blk) ∧ True) ?_ ?_
   ·
    unfold r36_26
    refine R_mv (@rfl V (iV (7 : Int))) ?_
    exact R_nil ⟨rfl, h1, h4, h8, trivial⟩
   intro T H ⟨t2, h1, h4, h8, _⟩
   refine W_seq_ret ?_
   refine y17 _ _ ?_
   refine p215 _ _ ?_
   refine y14 _ _ ?_
   refine Ret_1 t2 (fz_int ?_)
   · rw [oval, if_neg (by omega), if_neg (by omega), if_neg (by omega), hd, fe_hit (by rw [apE, if_pos (g1.2 d1)]; decide) (by omega), apE, if_pos (g1.2 d1)]
  have d1 := c18
  refine W_seq_skip ?_
  refine W_seq_regc (fun T H => T 1 = (V.mp 1 1 0 0) ∧ T 67 = (V.sl (List.map cT (o.tr))) ∧ T 68 = (iV ((o.tr.length : Nat) : Int)) ∧ T 69 = (iV ((k : Nat) : Int)) ∧ T 84 = (V.bool (decide (0 ≤ fi (fun j => (fun u => decide (0 ≤ df (nth o.tr k) u)) (nth (List.drop (k + 1) (o.tr)) j)) 0 (List.drop (k + 1) (o.tr)).length))) ∧ H 1 = (⟨1, true, false, 34, 2, [[(iV (o.i)), (V.sl (List.map cT (o.tr)))]]⟩ : Blk) ∧ (H 4).ver = v4 ∧ H 8 = (⟨v8 + 1, true, false, 63, 2, [[(V.sl (List.map cI ((nth (o.tr) (k)).ni))), (V.sl (List.map cI ((nth (o.tr) (k)).no)))]]⟩ : Blk) ∧ True) ?_ ?_
  ·
   unfold r36_27
   refine R_mv t9 ?_
   refine R_mkf (evcons t8 evnil) ?_
   refine R_call (evcons (@rfl V (V.sl (List.map cT (List.drop (k + 1) (o.tr))))) (evcons (@rfl V (V.fn 83 [] [(V.mp 8 (v8 + 1) 0 0)])) evnil)) (cont_pure (fun u => decide (0 ≤ df (nth o.tr k) u)) (List.drop (k + 1) (o.tr)) 83 ([(V.pp [(V.sl (List.map cI ((nth (o.tr) (k)).ni))), (V.sl (List.map cI ((nth (o.tr) (k)).no)))])]) (by simp) (by simp) (fun j hj => valid2_pure (nth (List.drop (k + 1) o.tr) j) (nth o.tr k) (f1 _ (List.mem_of_mem_drop (nth_mem hj))) (f1 _ (nth_mem (by omega))))) (mcons (fzv_canon 6 _ (by simp [-List.map_take, -List.map_drop, -List.map_append, -List.map_reverse])) (mcons (by simp [fzv, Blk.own, h1, h8]) rfl)) (by simp [-List.map_take, -List.map_drop, -List.map_append, -List.map_reverse]) (Or.inr rfl) ?_
   exact R_nil ⟨t1, t67, t68, t69, rfl, h1, h4, h8, trivial⟩
  intro T H ⟨t1, t67, t68, t69, t84, h1, h4, h8, _⟩
  refine W_if (p := 0 ≤ fi (fun j => (fun u => decide (0 ≤ df (nth o.tr k) u)) (nth (List.drop (k + 1) (o.tr)) j)) 0 (List.drop (k + 1) (o.tr)).length) t84 (fun c19 => ?_) (fun c19 => ?_)
  ·
   have d2 := c19
   refine W_seq_regc (fun T H => T 2 = (iV (13 : Int)) ∧ H 1 = (⟨1, true, false, 34, 2, [[(iV (o.i)), (V.sl (List.map cT (o.tr)))]]⟩ : Blk) ∧ (H 4).ver = v4 ∧ H 8 = (⟨v8 + 1, true, false, 63, 2, [[(V.sl (List.map cI ((nth (o.tr) (k)).ni))), (V.sl (List.map cI ((nth (o.tr) (k)).no)))]]⟩ : Blk) ∧ True) ?_ ?_
   ·
    unfold r36_28
    refine R_mv (@rfl V (iV (13 : Int))) ?_
    exact R_nil ⟨rfl, h1, h4, h8, trivial⟩
   intro T H ⟨t2, h1, h4, h8, _⟩
   refine W_ret ?_
   refine y17 _ _ ?_
   refine p215 _ _ ?_
   refine y14 _ _ ?_
   refine Ret_1 t2 (fz_int ?_)
   · rw [oval, if_neg (by omega), if_neg (by omega), if_neg (by omega), hd, fe_hit (by rw [apE, if_neg (fun e => d1 (g1.1 e)), if_pos (g2.2 d2)]; decide) (by omega), apE, if_neg (fun e => d1 (g1.1 e)), if_pos (g2.2 d2)]
  have d2 := c19
  refine W_skip ?_
  refine n17 _ _ ?_
  refine .done ?_
  refine W_regc (fun T H => T 1 = (V.mp 1 1 0 0) ∧ T 67 = (V.sl (List.map cT (o.tr))) ∧ T 68 = (iV ((o.tr.length : Nat) : Int)) ∧ T 69 = (iV ((k + 1 : Nat) : Int)) ∧ H 1 = (⟨1, true, false, 34, 2, [[(iV (o.i)), (V.sl (List.map cT (o.tr)))]]⟩ : Blk) ∧ (H 4).ver = v4 ∧ H 8 = (⟨v8 + 1, true, false, 63, 2, [[(V.sl (List.map cI ((nth (o.tr) (k)).ni))), (V.sl (List.map cI ((nth (o.tr) (k)).no)))]]⟩ : Blk) ∧ True) ?_ ?_
  ·
   unfold r36_29
   refine R_addN (m := k) (n := 1) t69 (@rfl V (iV ((1 : Nat) : Int))) (by omega) ?_
   refine R_mv (@rfl V (iV ((k + 1 : Nat) : Int))) ?_
   exact R_nil ⟨t1, t67, t68, rfl, h1, h4, h8, trivial⟩
  intro T H ⟨t1, t67, t68, t69, h1, h4, h8, _⟩
  refine p115 _ _ _ ?_ ⟨(k + 1), (v8 + 1), rfl, t1, t67, t68, (Eq.trans t69 (by first | rfl | simp)), h1, h4, (congrArg Blk.ver h8), ?_, ?_⟩
  · omega
  · omega
  · rw [hd, fe_skip (by rw [apE, if_neg (fun e => d1 (g1.1 e)), if_neg (fun e => d2 (g2.1 e))]) (by omega)]
 refine W_seq_exit ?_
 refine p315 _ _ _ ?_
 refine x14 _ _ ?_
 refine .done ?_
 refine W_seq_regc (fun T H => T 2 = (iV (0 : Int)) ∧ H 1 = (⟨1, true, false, 34, 2, [[(iV (o.i)), (V.sl (List.map cT (o.tr)))]]⟩ : Blk) ∧ (H 4).ver = v4 ∧ (H 8).ver = v8 ∧ True) ?_ ?_
 ·
  unfold r36_30
  refine R_mv (@rfl V (iV (0 : Int))) ?_
  exact R_nil ⟨rfl, h1, h4, h8, trivial⟩
 intro T H ⟨t2, h1, h4, h8, _⟩
 refine W_ret ?_
 refine Ret_1 t2 (fz_int ?_)
 · rw [oval, if_neg (by omega), if_neg (by omega), if_neg (by omega), hd, fe_end (by omega)]
end Go.Proofs.Ytngkckefanbhgaa

namespace Go.Proofs.Ytngkckefanbhgaa
open Go Go.Proofs
def r38_0 : List SO := [
  ⟨none, some 1, .box 63 2 (.t 0)⟩,
  ⟨none, some 2, .mv (.c (.bool false))⟩]
def r38_1 : List SO := [
  ⟨none, some 3, .fld 0 (.t 1)⟩,
  ⟨none, some 4, .load false 1 (.t 3)⟩,
  ⟨none, some 5, .len (.t 4)⟩,
  ⟨none, some 6, .bin .gtr (.t 5) (.c (.int .i64 1100))⟩,
  ⟨none, some 7, .mv (.t 6)⟩,
  ⟨some (7, false), some 8, .fld 1 (.t 1)⟩,
  ⟨some (7, false), some 9, .load false 1 (.t 8)⟩,
  ⟨some (7, false), some 10, .len (.t 9)⟩,
  ⟨some (7, false), some 11, .bin .gtr (.t 10) (.c (.int .i64 1100))⟩,
  ⟨none, some 12, .pick (.t 7) (.c (.bool true)) (.t 11)⟩,
  ⟨none, some 2, .mv (.t 12)⟩]
def s38 : SF := ⟨13, [.tmp 2], .seq (.reg r38_0) (.seq (.reg r38_1) (.ret))⟩
theorem s38_ok : slimF Try.prog ⟨[94, 102, 103, 108, 109, 116, 119, 121, 125], []⟩ Try.f38 = some s38 := by kernel_rfl
end Go.Proofs.Ytngkckefanbhgaa

namespace Go.Proofs.Ytngkckefanbhgaa
open Go Go.Proofs
theorem long16_pure (t : Tr) : PureC Try.prog 38 [(V.agg [(V.sl (List.map cI (t.ni))), (V.sl (List.map cI (t.no)))])] (V.bool (decide ((1100 : Int) < (t.ni.length : Nat) ∨ (1100 : Int) < (t.no.length : Nat)))) := by
 refine pure_of_Wb true 6 Try.func38 s38_ok (by kernel_rfl) (by simp [s38]) (by simp) (by simp) fun hB => ?_
 simp only [bnd_map, bnd_int, bnd_bool, bnd_str, bnd_agg, bnd_pp, bnd_nil, bnd_cons, implies_true, and_true, true_and] at hB
 unfold s38
 dsimp only
 refine W_seq_regc (fun T H => T 1 = (V.mp 1 1 0 0) ∧ H 1 = (⟨1, true, false, 63, 2, [[(V.sl (List.map cI (t.ni))), (V.sl (List.map cI (t.no)))]]⟩ : Blk) ∧ True) ?_ ?_
 ·
  unfold r38_0
  refine R_box (i := 1) (n := 0) (m := 2) (cs := [(V.sl (List.map cI (t.ni))), (V.sl (List.map cI (t.no)))]) rfl (congrArg Blk.ver rfl) (@rfl V (V.agg [(V.sl (List.map cI (t.ni))), (V.sl (List.map cI (t.no)))])) rfl rfl ?_
  refine R_mv (@rfl V (V.bool false)) ?_
  exact R_nil ⟨rfl, rfl, trivial⟩
 intro T H ⟨t1, h1, _⟩
 refine W_seq_regc (fun T H => T 2 = (V.bool (decide (((1100 : Int) < ((t.ni.length : Nat) : Int)) ∨ ((1100 : Int) < ((t.no.length : Nat) : Int))))) ∧ H 1 = (⟨1, true, false, 63, 2, [[(V.sl (List.map cI (t.ni))), (V.sl (List.map cI (t.no)))]]⟩ : Blk) ∧ True) ?_ ?_
 ·
  unfold r38_1
  refine R_fld_mp (o' := 0) t1 h1 (by first | rfl | simp [okB, Blk.own]) rfl ?_
  refine R_load_mp (v := (V.sl (List.map cI (t.ni)))) (@rfl V (V.mp 1 1 0 0)) h1 (by first | rfl | simp [ldB, ldV, Blk.own, V.one]) ?_
  refine R_len (@rfl V (V.sl (List.map cI (t.ni)))) ?_
  refine R_gtr (x := ((t.ni.length : Nat) : Int)) (y := (1100 : Int)) (@rfl V (iV ((t.ni.length : Nat) : Int))) (@rfl V (iV (1100 : Int))) ?_
  refine R_mv (@rfl V (V.bool (decide ((1100 : Int) < ((t.ni.length : Nat) : Int))))) ?_
  refine Ops_seg 5 (fun T H => T 12 = (V.bool (decide (((1100 : Int) < ((t.ni.length : Nat) : Int)) ∨ ((1100 : Int) < ((t.no.length : Nat) : Int))))) ∧ H 1 = (⟨1, true, false, 63, 2, [[(V.sl (List.map cI (t.ni))), (V.sl (List.map cI (t.no)))]]⟩ : Blk) ∧ True) ?_ ?_
  ·
   by_cases g1 : (1100 : Int) < ((t.ni.length : Nat) : Int)
   ·
    refine G_no (Eq.trans (@rfl V (V.bool (decide ((1100 : Int) < ((t.ni.length : Nat) : Int))))) (bdT g1)) (by decide) ?_
    refine G_no (Eq.trans (@rfl V (V.bool (decide ((1100 : Int) < ((t.ni.length : Nat) : Int))))) (bdT g1)) (by decide) ?_
    refine G_no (Eq.trans (@rfl V (V.bool (decide ((1100 : Int) < ((t.ni.length : Nat) : Int))))) (bdT g1)) (by decide) ?_
    refine G_no (Eq.trans (@rfl V (V.bool (decide ((1100 : Int) < ((t.ni.length : Nat) : Int))))) (bdT g1)) (by decide) ?_
    refine R_pickT (Eq.trans (@rfl V (V.bool (decide ((1100 : Int) < ((t.ni.length : Nat) : Int))))) (bdT g1)) (@rfl V (V.bool true)) ?_
    exact ⟨(Eq.trans (@rfl V (V.bool true)) (dec_orT g1)), h1, trivial⟩
   ·
    refine G_yes (Eq.trans (@rfl V (V.bool (decide ((1100 : Int) < ((t.ni.length : Nat) : Int))))) (bdF g1)) ?_
    refine R_fld_mp (o' := 1) t1 h1 (by first | rfl | simp [okB, Blk.own]) rfl ?_
    refine G_yes (Eq.trans (@rfl V (V.bool (decide ((1100 : Int) < ((t.ni.length : Nat) : Int))))) (bdF g1)) ?_
    refine R_load_mp (v := (V.sl (List.map cI (t.no)))) (@rfl V (V.mp 1 1 0 1)) h1 (by first | rfl | simp [ldB, ldV, Blk.own, V.one]) ?_
    refine G_yes (Eq.trans (@rfl V (V.bool (decide ((1100 : Int) < ((t.ni.length : Nat) : Int))))) (bdF g1)) ?_
    refine R_len (@rfl V (V.sl (List.map cI (t.no)))) ?_
    refine G_yes (Eq.trans (@rfl V (V.bool (decide ((1100 : Int) < ((t.ni.length : Nat) : Int))))) (bdF g1)) ?_
    refine R_gtr (x := ((t.no.length : Nat) : Int)) (y := (1100 : Int)) (@rfl V (iV ((t.no.length : Nat) : Int))) (@rfl V (iV (1100 : Int))) ?_
    refine R_pickF (Eq.trans (@rfl V (V.bool (decide ((1100 : Int) < ((t.ni.length : Nat) : Int))))) (bdF g1)) (@rfl V (V.bool (decide ((1100 : Int) < ((t.no.length : Nat) : Int))))) ?_
    exact ⟨(Eq.trans (@rfl V (V.bool (decide ((1100 : Int) < ((t.no.length : Nat) : Int))))) (dec_orF g1)), h1, trivial⟩
  intro T H ⟨t12, h1, _⟩
  refine R_mv t12 ?_
  exact R_nil ⟨rfl, h1, trivial⟩
 intro T H ⟨t2, h1, _⟩
 refine W_ret ?_
 refine Ret_1 t2 (fz_bool ?_)
 · first | rfl | simp
end Go.Proofs.Ytngkckefanbhgaa

namespace Go.Proofs.Ytngkckefanbhgaa
open Go Go.Proofs
def r39_0 : List SO := [
  ⟨none, some 0, .mv (.c (.bool false))⟩]
def r39_1 : List SO := [
  ⟨none, some 13, .call false 50 [.c (.int .i64 2)]⟩,
  ⟨none, some 12, .mv (.t 13)⟩,
  ⟨none, some 14, .ext (.t 12) 0⟩,
  ⟨none, some 15, .ext (.t 12) 1⟩,
  ⟨none, some 1, .alloc 34 [.int .i64 0, .nilsl]⟩,
  ⟨none, none, .store 2 (.t 1) (.t 14)⟩,
  ⟨none, some 2, .mv (.t 15)⟩]
def r39_2 : List SO := [
  ⟨none, some 17, .load true 2 (.t 1)⟩,
  ⟨none, some 18, .bslice 3 1 false [.int .i64 0] 2 [(0, .c (.int .i64 0)), (1, .c (.int .i64 1))]⟩,
  ⟨none, some 19, .bslice 3 1 false [.int .i64 0] 2 [(0, .c (.int .i64 1)), (1, .c (.int .i64 2))]⟩,
  ⟨none, some 20, .build [.nilsl, .nilsl] [(0, 1, .t 18), (1, 1, .t 19)]⟩,
  ⟨none, some 21, .call false 45 [.t 17, .t 20]⟩,
  ⟨none, some 16, .mv (.t 21)⟩,
  ⟨none, some 22, .ext (.t 16) 0⟩,
  ⟨none, some 23, .ext (.t 16) 1⟩,
  ⟨none, none, .store 2 (.t 1) (.t 22)⟩,
  ⟨none, some 3, .mv (.t 23)⟩]
def r39_3 : List SO := [
  ⟨none, some 25, .load true 2 (.t 1)⟩,
  ⟨none, some 26, .bslice 3 1 false [.int .i64 0] 1 [(0, .c (.int .i64 0))]⟩,
  ⟨none, some 27, .bslice 3 1 false [.int .i64 0] 1 [(0, .c (.int .i64 1))]⟩,
  ⟨none, some 28, .build [.nilsl, .nilsl] [(0, 1, .t 26), (1, 1, .t 27)]⟩,
  ⟨none, some 29, .call false 45 [.t 25, .t 28]⟩,
  ⟨none, some 24, .mv (.t 29)⟩,
  ⟨none, some 30, .ext (.t 24) 0⟩,
  ⟨none, some 31, .ext (.t 24) 1⟩,
  ⟨none, none, .store 2 (.t 1) (.t 30)⟩,
  ⟨none, some 4, .mv (.t 31)⟩]
def r39_4 : List SO := [
  ⟨none, some 33, .load true 2 (.t 1)⟩,
  ⟨none, some 34, .bslice 3 1 false [.int .i64 0] 2 [(0, .c (.int .i64 0)), (1, .c (.int .i64 1))]⟩,
  ⟨none, some 35, .bslice 3 1 false [.int .i64 0] 2 [(0, .c (.int .i64 1)), (1, .c (.int .i64 0))]⟩,
  ⟨none, some 36, .build [.nilsl, .nilsl] [(0, 1, .t 34), (1, 1, .t 35)]⟩,
  ⟨none, some 37, .call false 45 [.t 33, .t 36]⟩,
  ⟨none, some 32, .mv (.t 37)⟩,
  ⟨none, some 38, .ext (.t 32) 0⟩,
  ⟨none, some 39, .ext (.t 32) 1⟩,
  ⟨none, some 5, .alloc 34 [.int .i64 0, .nilsl]⟩,
  ⟨none, none, .store 2 (.t 5) (.t 38)⟩,
  ⟨none, some 6, .mv (.t 39)⟩]
def r39_5 : List SO := [
  ⟨none, some 41, .load true 2 (.t 1)⟩,
  ⟨none, some 42, .bslice 3 1 false [.int .i64 0] 2 [(0, .c (.int .i64 0)), (1, .c (.int .i64 1))]⟩,
  ⟨none, some 43, .bslice 3 1 false [.int .i64 0] 2 [(0, .c (.int .i64 1)), (1, .c (.int .i64 0))]⟩,
  ⟨none, some 44, .build [.nilsl, .nilsl] [(0, 1, .t 42), (1, 1, .t 43)]⟩,
  ⟨none, some 45, .call false 41 [.t 41, .t 44]⟩,
  ⟨none, some 40, .mv (.t 45)⟩,
  ⟨none, some 46, .ext (.t 40) 0⟩,
  ⟨none, some 47, .ext (.t 40) 1⟩,
  ⟨none, some 7, .alloc 67 [.nilsl, .int .i64 0, .int .i64 0]⟩,
  ⟨none, none, .store 3 (.t 7) (.t 46)⟩,
  ⟨none, some 8, .mv (.t 47)⟩]
def r39_6 : List SO := [
  ⟨none, some 48, .load true 2 (.t 1)⟩,
  ⟨none, some 49, .bslice 3 1 false [.int .i64 0] 2 [(0, .c (.int .i64 0)), (1, .c (.int .i64 0))]⟩,
  ⟨none, some 50, .call false 43 [.t 48, .t 49]⟩,
  ⟨none, some 9, .mv (.t 50)⟩]
def r39_7 : List SO := [
  ⟨none, some 51, .mv (.t 2)⟩,
  ⟨none, some 52, .bin .neq (.t 51) (.c (.int .i64 0))⟩,
  ⟨none, some 53, .mv (.t 52)⟩,
  ⟨some (53, false), some 54, .mv (.t 3)⟩,
  ⟨some (53, false), some 55, .bin .neq (.t 54) (.c (.int .i64 0))⟩,
  ⟨none, some 56, .pick (.t 53) (.c (.bool true)) (.t 55)⟩,
  ⟨none, some 57, .mv (.t 56)⟩,
  ⟨some (57, false), some 58, .mv (.t 4)⟩,
  ⟨some (57, false), some 59, .bin .neq (.t 58) (.c (.int .i64 0))⟩,
  ⟨none, some 60, .pick (.t 57) (.c (.bool true)) (.t 59)⟩,
  ⟨none, some 61, .mv (.t 60)⟩,
  ⟨some (61, false), some 62, .mv (.t 6)⟩,
  ⟨some (61, false), some 63, .bin .neq (.t 62) (.c (.int .i64 13))⟩,
  ⟨none, some 64, .pick (.t 61) (.c (.bool true)) (.t 63)⟩,
  ⟨none, some 65, .mv (.t 64)⟩,
  ⟨some (65, false), some 66, .mv (.t 8)⟩,
  ⟨some (65, false), some 67, .un .not (.t 66)⟩,
  ⟨none, some 68, .pick (.t 65) (.c (.bool true)) (.t 67)⟩,
  ⟨none, some 69, .mv (.t 68)⟩,
  ⟨some (69, false), some 70, .fld 1 (.t 7)⟩,
  ⟨some (69, false), some 71, .load false 1 (.t 70)⟩,
  ⟨some (69, false), some 72, .bin .neq (.t 71) (.c (.int .i64 2))⟩,
  ⟨none, some 73, .pick (.t 69) (.c (.bool true)) (.t 72)⟩,
  ⟨none, some 74, .mv (.t 73)⟩,
  ⟨some (74, false), some 75, .fld 2 (.t 7)⟩,
  ⟨some (74, false), some 76, .load false 1 (.t 75)⟩,
  ⟨some (74, false), some 77, .bin .neq (.t 76) (.c (.int .i64 0))⟩,
  ⟨none, some 78, .pick (.t 74) (.c (.bool true)) (.t 77)⟩,
  ⟨none, some 79, .mv (.t 78)⟩,
  ⟨some (79, false), some 80, .fld 0 (.t 7)⟩,
  ⟨some (79, false), some 81, .load false 1 (.t 80)⟩,
  ⟨some (79, false), some 82, .len (.t 81)⟩,
  ⟨some (79, false), some 83, .bin .neq (.t 82) (.c (.int .i64 2))⟩,
  ⟨none, some 84, .pick (.t 79) (.c (.bool true)) (.t 83)⟩,
  ⟨none, some 85, .mv (.t 84)⟩,
  ⟨some (85, false), some 86, .fld 1 (.t 1)⟩,
  ⟨some (85, false), some 87, .load false 1 (.t 86)⟩,
  ⟨some (85, false), some 88, .len (.t 87)⟩,
  ⟨some (85, false), some 89, .bin .neq (.t 88) (.c (.int .i64 1))⟩,
  ⟨none, some 90, .pick (.t 85) (.c (.bool true)) (.t 89)⟩,
  ⟨none, some 91, .mv (.t 90)⟩,
  ⟨some (91, false), some 92, .mv (.t 9)⟩,
  ⟨some (91, false), some 93, .bin .neq (.t 92) (.c (.int .i64 1))⟩,
  ⟨none, some 94, .pick (.t 91) (.c (.bool true)) (.t 93)⟩]
def r39_8 : List SO := [
  ⟨none, some 0, .mv (.c (.bool false))⟩]
def r39_9 : List SO := [
  ⟨none, some 96, .load true 2 (.t 1)⟩,
  ⟨none, some 97, .bslice 3 1 false [.int .i64 0] 1 [(0, .c (.int .i64 1))]⟩,
  ⟨none, some 98, .bslice 3 1 false [.int .i64 0] 1 [(0, .c (.int .i64 0))]⟩,
  ⟨none, some 99, .build [.nilsl, .nilsl] [(0, 1, .t 97), (1, 1, .t 98)]⟩,
  ⟨none, some 100, .call false 45 [.t 96, .t 99]⟩,
  ⟨none, some 95, .mv (.t 100)⟩,
  ⟨none, some 101, .ext (.t 95) 0⟩,
  ⟨none, some 102, .ext (.t 95) 1⟩,
  ⟨none, none, .store 2 (.t 1) (.t 101)⟩,
  ⟨none, some 3, .mv (.t 102)⟩]
def r39_10 : List SO := [
  ⟨none, some 104, .load true 2 (.t 1)⟩,
  ⟨none, some 105, .bslice 3 1 false [.int .i64 0] 2 [(0, .c (.int .i64 0)), (1, .c (.int .i64 1))]⟩,
  ⟨none, some 106, .call false 34 [.t 104, .t 105]⟩,
  ⟨none, some 103, .mv (.t 106)⟩,
  ⟨none, some 107, .ext (.t 103) 0⟩,
  ⟨none, some 108, .ext (.t 103) 1⟩,
  ⟨none, some 10, .mv (.t 107)⟩,
  ⟨none, some 11, .mv (.t 108)⟩]
def r39_11 : List SO := [
  ⟨none, some 109, .mv (.t 3)⟩,
  ⟨none, some 110, .bin .eql (.t 109) (.c (.int .i64 0))⟩,
  ⟨none, some 111, .mv (.t 110)⟩,
  ⟨some (111, true), some 112, .fld 1 (.t 1)⟩,
  ⟨some (111, true), some 113, .load false 1 (.t 112)⟩,
  ⟨some (111, true), some 114, .len (.t 113)⟩,
  ⟨some (111, true), some 115, .bin .eql (.t 114) (.c (.int .i64 2))⟩,
  ⟨none, some 116, .pick (.t 111) (.t 115) (.c (.bool false))⟩,
  ⟨none, some 117, .mv (.t 116)⟩,
  ⟨some (117, true), some 118, .fld 1 (.t 1)⟩,
  ⟨some (117, true), some 119, .load false 1 (.t 118)⟩,
  ⟨some (117, true), some 120, .idx 2 (.t 119) (.c (.int .i64 0))⟩,
  ⟨some (117, true), some 121, .fld 0 (.t 120)⟩,
  ⟨some (117, true), some 122, .load false 1 (.t 121)⟩,
  ⟨some (117, true), some 123, .len (.t 122)⟩,
  ⟨some (117, true), some 124, .bin .eql (.t 123) (.c (.int .i64 1))⟩,
  ⟨none, some 125, .pick (.t 117) (.t 124) (.c (.bool false))⟩,
  ⟨none, some 126, .mv (.t 125)⟩,
  ⟨some (126, true), some 127, .mv (.t 11)⟩,
  ⟨none, some 128, .pick (.t 126) (.t 127) (.c (.bool false))⟩,
  ⟨none, some 129, .mv (.t 128)⟩,
  ⟨some (129, true), some 130, .mv (.t 10)⟩,
  ⟨some (129, true), some 131, .bslice 3 1 false [.int .i64 0] 2 [(0, .c (.int .i64 1)), (1, .c (.int .i64 2))]⟩,
  ⟨some (129, true), some 132, .call false 25 [.t 130, .t 131]⟩,
  ⟨none, some 133, .pick (.t 129) (.t 132) (.c (.bool false))⟩,
  ⟨none, some 134, .mv (.t 133)⟩,
  ⟨some (134, true), some 135, .load true 2 (.t 1)⟩,
  ⟨some (134, true), some 136, .call false 36 [.t 135]⟩,
  ⟨some (134, true), some 137, .bin .eql (.t 136) (.c (.int .i64 0))⟩,
  ⟨none, some 138, .pick (.t 134) (.t 137) (.c (.bool false))⟩,
  ⟨none, some 0, .mv (.t 138)⟩]
def s39 : SF := ⟨139, [.tmp 0], .seq (.reg r39_0) (.seq (.reg r39_1) (.seq (.reg r39_2) (.seq (.reg r39_3) (.seq (.reg r39_4) (.seq (.reg r39_5) (.seq (.reg r39_6) (.seq (.seq (.reg r39_7) (.cond (.t 94) (.seq (.reg r39_8) (.ret)) (.skip))) (.seq (.reg r39_9) (.seq (.reg r39_10) (.seq (.reg r39_11) (.ret)))))))))))⟩
theorem s39_ok : slimF Try.prog ⟨[94, 102, 103, 108, 109, 116, 119, 121, 125], []⟩ Try.f39 = some s39 := by kernel_rfl
end Go.Proofs.Ytngkckefanbhgaa

namespace Go.Proofs.Ytngkckefanbhgaa
open Go Go.Proofs
def r41_0 : List SO := [
  ⟨none, some 2, .box 34 2 (.t 0)⟩,
  ⟨none, some 3, .box 63 2 (.t 1)⟩,
  ⟨none, some 4, .alloc 67 [.nilsl, .int .i64 0, .int .i64 0]⟩,
  ⟨none, some 5, .mv (.c (.bool false))⟩]
def r41_1 : List SO := [
  ⟨none, some 11, .load true 2 (.t 3)⟩,
  ⟨none, some 12, .fld 0 (.t 2)⟩,
  ⟨none, some 13, .load false 1 (.t 12)⟩,
  ⟨none, some 14, .call false 78 [.t 11, .t 13]⟩,
  ⟨none, some 15, .bin .neq (.t 14) (.c (.int .i64 0))⟩]
def r41_2 : List SO := [
  ⟨none, some 16, .build [.nilsl, .int .i64 0, .int .i64 0] []⟩,
  ⟨none, none, .store 3 (.t 4) (.t 16)⟩,
  ⟨none, some 5, .mv (.c (.bool false))⟩]
def r41_3 : List SO := [
  ⟨none, some 17, .fld 0 (.t 3)⟩,
  ⟨none, some 18, .load false 1 (.t 17)⟩,
  ⟨none, some 19, .len (.t 18)⟩,
  ⟨none, some 6, .mv (.t 19)⟩,
  ⟨none, some 7, .mv (.c (.int .i64 0))⟩]
def r41_4 : List SO := [
  ⟨none, some 20, .fld 1 (.t 2)⟩,
  ⟨none, some 21, .load false 1 (.t 20)⟩,
  ⟨none, some 22, .len (.t 21)⟩,
  ⟨none, some 23, .mv (.c (.int .i64 0))⟩]
def r41_5 : List SO := [
  ⟨none, some 24, .bin .lss (.t 23) (.t 22)⟩]
def r41_6 : List SO := [
  ⟨none, some 25, .idx 2 (.t 21) (.t 23)⟩,
  ⟨none, some 26, .load true 2 (.t 25)⟩,
  ⟨none, some 9, .alloc 63 [.nilsl, .nilsl]⟩,
  ⟨none, none, .store 2 (.t 9) (.t 26)⟩]
def r41_7 : List SO := [
  ⟨none, some 27, .load true 2 (.t 9)⟩,
  ⟨none, some 28, .load true 2 (.t 3)⟩,
  ⟨none, some 29, .call false 84 [.t 27, .t 28]⟩,
  ⟨none, some 10, .mv (.t 29)⟩]
def r41_8 : List SO := [
  ⟨none, some 30, .mv (.t 10)⟩,
  ⟨none, some 31, .bin .geq (.t 30) (.c (.int .i64 0))⟩,
  ⟨none, some 32, .mv (.t 31)⟩,
  ⟨some (32, true), some 33, .mv (.t 10)⟩,
  ⟨some (32, true), some 34, .mv (.t 6)⟩,
  ⟨some (32, true), some 35, .bin .lss (.t 33) (.t 34)⟩,
  ⟨none, some 36, .pick (.t 32) (.t 35) (.c (.bool false))⟩]
def r41_9 : List SO := [
  ⟨none, some 37, .mv (.t 10)⟩,
  ⟨none, some 38, .fld 1 (.t 9)⟩,
  ⟨none, some 39, .load false 1 (.t 38)⟩,
  ⟨none, some 40, .mv (.t 10)⟩,
  ⟨none, some 41, .idx 1 (.t 39) (.t 40)⟩,
  ⟨none, some 42, .load false 1 (.t 41)⟩,
  ⟨none, some 6, .mv (.t 37)⟩,
  ⟨none, some 7, .mv (.t 42)⟩]
def r41_10 : List SO := [
  ⟨none, some 43, .bin .add (.t 23) (.c (.int .i64 1))⟩,
  ⟨none, some 23, .mv (.t 43)⟩]
def b41_0 : SC := .seq (.reg r41_5) (.seq (.cond (.t 24) (.skip) (.exit 0)) (.seq (.block 1 (.seq (.reg r41_6) (.seq (.reg r41_7) (.seq (.reg r41_8) (.cond (.t 36) (.reg r41_9) (.skip)))))) (.reg r41_10)))
def r41_11 : List SO := [
  ⟨none, some 44, .mv (.t 6)⟩,
  ⟨none, some 45, .fld 0 (.t 3)⟩,
  ⟨none, some 46, .load false 1 (.t 45)⟩,
  ⟨none, some 47, .len (.t 46)⟩,
  ⟨none, some 48, .bin .eql (.t 44) (.t 47)⟩]
def r41_12 : List SO := [
  ⟨none, some 49, .build [.nilsl, .int .i64 0, .int .i64 0] []⟩,
  ⟨none, none, .store 3 (.t 4) (.t 49)⟩,
  ⟨none, some 5, .mv (.c (.bool false))⟩]
def r41_13 : List SO := [
  ⟨none, some 50, .fld 0 (.t 3)⟩,
  ⟨none, some 51, .load false 1 (.t 50)⟩,
  ⟨none, some 52, .mv (.t 6)⟩,
  ⟨none, some 53, .bin .add (.t 52) (.c (.int .i64 1))⟩,
  ⟨none, some 54, .slice 1 (.t 51) none (some (.t 53))⟩,
  ⟨none, some 55, .call false 63 [.t 54]⟩,
  ⟨none, some 56, .mv (.t 7)⟩,
  ⟨none, some 57, .fld 1 (.t 3)⟩,
  ⟨none, some 58, .load false 1 (.t 57)⟩,
  ⟨none, some 59, .mv (.t 6)⟩,
  ⟨none, some 60, .idx 1 (.t 58) (.t 59)⟩,
  ⟨none, some 61, .load false 1 (.t 60)⟩,
  ⟨none, some 62, .build [.nilsl, .int .i64 0, .int .i64 0] [(0, 1, .t 55), (1, 1, .t 56), (2, 1, .t 61)]⟩,
  ⟨none, none, .store 3 (.t 4) (.t 62)⟩,
  ⟨none, some 5, .mv (.c (.bool true))⟩]
def s41 : SF := ⟨63, [.cell 4 true 3, .tmp 5], .seq (.reg r41_0) (.seq (.seq (.reg r41_1) (.cond (.t 15) (.seq (.reg r41_2) (.ret)) (.skip))) (.seq (.reg r41_3) (.seq (.seq (.reg r41_4) (.block 0 (.loop b41_0))) (.seq (.seq (.reg r41_11) (.cond (.t 48) (.seq (.reg r41_12) (.ret)) (.skip))) (.seq (.reg r41_13) (.ret))))))⟩
theorem s41_ok : slimF Try.prog ⟨[94, 102, 103, 108, 109, 116, 119, 121, 125], []⟩ Try.f41 = some s41 := by kernel_rfl
end Go.Proofs.Ytngkckefanbhgaa

namespace Go.Proofs.Ytngkckefanbhgaa
open Go Go.Proofs
def r43_0 : List SO := [
  ⟨none, some 2, .box 34 2 (.t 0)⟩,
  ⟨none, some 4, .mv (.c (.int .i64 0))⟩]
def r43_1 : List SO := [
  ⟨none, some 5, .mv (.c (.int .i64 0))⟩]
def r43_2 : List SO := [
  ⟨none, some 8, .fld 1 (.t 2)⟩,
  ⟨none, some 9, .load false 1 (.t 8)⟩,
  ⟨none, some 10, .len (.t 9)⟩,
  ⟨none, some 11, .mv (.c (.int .i64 0))⟩]
def r43_3 : List SO := [
  ⟨none, some 12, .bin .lss (.t 11) (.t 10)⟩]
def r43_4 : List SO := [
  ⟨none, some 13, .idx 2 (.t 9) (.t 11)⟩,
  ⟨none, some 14, .load true 2 (.t 13)⟩,
  ⟨none, some 7, .alloc 63 [.nilsl, .nilsl]⟩,
  ⟨none, none, .store 2 (.t 7) (.t 14)⟩]
def r43_5 : List SO := [
  ⟨none, some 15, .mv (.t 5)⟩,
  ⟨none, some 16, .fld 0 (.t 7)⟩,
  ⟨none, some 17, .load false 1 (.t 16)⟩,
  ⟨none, some 18, .mv (.t 1)⟩,
  ⟨none, some 19, .call false 69 [.t 17, .t 18]⟩,
  ⟨none, some 20, .mx (.t 15) (.t 19)⟩,
  ⟨none, some 5, .mv (.t 20)⟩]
def r43_6 : List SO := [
  ⟨none, some 21, .bin .add (.t 11) (.c (.int .i64 1))⟩,
  ⟨none, some 11, .mv (.t 21)⟩]
def b43_0 : SC := .seq (.reg r43_3) (.seq (.cond (.t 12) (.skip) (.exit 0)) (.seq (.block 1 (.seq (.reg r43_4) (.reg r43_5))) (.reg r43_6)))
def r43_7 : List SO := [
  ⟨none, some 22, .mv (.t 5)⟩,
  ⟨none, some 4, .mv (.t 22)⟩]
def s43 : SF := ⟨23, [.tmp 4], .seq (.reg r43_0) (.seq (.reg r43_1) (.seq (.seq (.reg r43_2) (.block 0 (.loop b43_0))) (.seq (.reg r43_7) (.ret))))⟩
theorem s43_ok : slimF Try.prog ⟨[94, 102, 103, 108, 109, 116, 119, 121, 125], []⟩ Try.f43 = some s43 := by kernel_rfl
end Go.Proofs.Ytngkckefanbhgaa

namespace Go.Proofs.Ytngkckefanbhgaa
open Go Go.Proofs
def r45_0 : List SO := [
  ⟨none, some 2, .box 34 2 (.t 0)⟩,
  ⟨none, some 3, .box 63 2 (.t 1)⟩,
  ⟨none, some 4, .alloc 34 [.int .i64 0, .nilsl]⟩,
  ⟨none, some 5, .mv (.c (.int .i64 0))⟩]
def r45_1 : List SO := [
  ⟨none, some 6, .load true 2 (.t 2)⟩,
  ⟨none, some 7, .load true 2 (.t 3)⟩,
  ⟨none, some 8, .bslice 63 2 false [.nilsl, .nilsl] 1 [(0, .t 7)]⟩,
  ⟨none, some 9, .call false 73 [.t 6, .t 8]⟩,
  ⟨none, some 10, .ext (.t 9) 0⟩,
  ⟨none, some 11, .ext (.t 9) 1⟩,
  ⟨none, none, .store 2 (.t 4) (.t 10)⟩,
  ⟨none, some 5, .mv (.t 11)⟩]
def s45 : SF := ⟨12, [.cell 4 true 2, .tmp 5], .seq (.reg r45_0) (.seq (.reg r45_1) (.ret))⟩
theorem s45_ok : slimF Try.prog ⟨[94, 102, 103, 108, 109, 116, 119, 121, 125], []⟩ Try.f45 = some s45 := by kernel_rfl
end Go.Proofs.Ytngkckefanbhgaa

namespace Go.Proofs.Ytngkckefanbhgaa
open Go Go.Proofs
def r50_0 : List SO := [
  ⟨none, some 2, .alloc 34 [.int .i64 0, .nilsl]⟩,
  ⟨none, some 3, .mv (.c (.int .i64 0))⟩]
def r50_1 : List SO := [
  ⟨none, some 4, .mv (.t 0)⟩,
  ⟨none, some 5, .bin .lss (.t 4) (.c (.int .i64 1))⟩,
  ⟨none, some 6, .mv (.t 5)⟩,
  ⟨some (6, false), some 7, .mv (.t 0)⟩,
  ⟨some (6, false), some 8, .bin .gtr (.t 7) (.c (.int .i64 64))⟩,
  ⟨none, some 9, .pick (.t 6) (.c (.bool true)) (.t 8)⟩]
def r50_2 : List SO := [
  ⟨none, some 10, .build [.int .i64 0, .nilsl] []⟩,
  ⟨none, none, .store 2 (.t 2) (.t 10)⟩,
  ⟨none, some 3, .mv (.c (.int .i64 2))⟩]
def r50_3 : List SO := [
  ⟨none, some 11, .mv (.t 0)⟩,
  ⟨none, some 12, .build [.int .i64 0, .nilsl] [(0, 1, .t 11)]⟩,
  ⟨none, none, .store 2 (.t 2) (.t 12)⟩,
  ⟨none, some 3, .mv (.c (.int .i64 0))⟩]
def s50 : SF := ⟨13, [.cell 2 true 2, .tmp 3], .seq (.reg r50_0) (.seq (.seq (.reg r50_1) (.cond (.t 9) (.seq (.reg r50_2) (.ret)) (.skip))) (.seq (.reg r50_3) (.ret)))⟩
theorem s50_ok : slimF Try.prog ⟨[94, 102, 103, 108, 109, 116, 119, 121, 125], []⟩ Try.f50 = some s50 := by kernel_rfl
end Go.Proofs.Ytngkckefanbhgaa

namespace Go.Proofs.Ytngkckefanbhgaa
open Go Go.Proofs
def r73_0 : List SO := [
  ⟨none, some 2, .box 34 2 (.t 0)⟩,
  ⟨none, some 4, .alloc 34 [.int .i64 0, .nilsl]⟩,
  ⟨none, some 5, .mv (.c (.int .i64 0))⟩]
def r73_1 : List SO := [
  ⟨none, some 12, .fld 1 (.t 2)⟩,
  ⟨none, some 13, .load false 1 (.t 12)⟩,
  ⟨none, some 14, .call true 102 [.t 13]⟩,
  ⟨none, some 6, .mv (.t 14)⟩]
def r73_2 : List SO := [
  ⟨none, some 15, .mv (.t 1)⟩,
  ⟨none, some 16, .len (.t 15)⟩,
  ⟨none, some 17, .mv (.c (.int .i64 0))⟩]
def r73_3 : List SO := [
  ⟨none, some 18, .bin .lss (.t 17) (.t 16)⟩]
def r73_4 : List SO := [
  ⟨none, some 19, .idx 2 (.t 15) (.t 17)⟩,
  ⟨none, some 20, .load true 2 (.t 19)⟩,
  ⟨none, some 8, .alloc 63 [.nilsl, .nilsl]⟩,
  ⟨none, none, .store 2 (.t 8) (.t 20)⟩]
def r73_5 : List SO := [
  ⟨none, some 21, .load true 2 (.t 8)⟩,
  ⟨none, some 22, .fld 0 (.t 2)⟩,
  ⟨none, some 23, .load false 1 (.t 22)⟩,
  ⟨none, some 24, .call false 78 [.t 21, .t 23]⟩,
  ⟨none, some 9, .mv (.t 24)⟩]
def r73_6 : List SO := [
  ⟨none, some 25, .mv (.t 9)⟩,
  ⟨none, some 26, .bin .neq (.t 25) (.c (.int .i64 0))⟩]
def r73_7 : List SO := [
  ⟨none, some 27, .load true 2 (.t 2)⟩,
  ⟨none, some 28, .mv (.t 9)⟩,
  ⟨none, none, .store 2 (.t 4) (.t 27)⟩,
  ⟨none, some 5, .mv (.t 28)⟩]
def r73_8 : List SO := [
  ⟨none, some 30, .mv (.t 6)⟩,
  ⟨none, some 31, .load true 2 (.t 8)⟩,
  ⟨none, some 32, .call true 103 [.t 30, .t 31]⟩,
  ⟨none, some 29, .mv (.t 32)⟩,
  ⟨none, some 33, .ext (.t 29) 0⟩,
  ⟨none, some 34, .ext (.t 29) 1⟩,
  ⟨none, some 10, .mv (.t 33)⟩,
  ⟨none, some 11, .mv (.t 34)⟩]
def r73_9 : List SO := [
  ⟨none, some 35, .mv (.t 11)⟩,
  ⟨none, some 36, .bin .neq (.t 35) (.c (.int .i64 0))⟩]
def r73_10 : List SO := [
  ⟨none, some 37, .load true 2 (.t 2)⟩,
  ⟨none, some 38, .mv (.t 11)⟩,
  ⟨none, none, .store 2 (.t 4) (.t 37)⟩,
  ⟨none, some 5, .mv (.t 38)⟩]
def r73_11 : List SO := [
  ⟨none, some 39, .mv (.t 10)⟩,
  ⟨none, some 6, .mv (.t 39)⟩]
def r73_12 : List SO := [
  ⟨none, some 40, .bin .add (.t 17) (.c (.int .i64 1))⟩,
  ⟨none, some 17, .mv (.t 40)⟩]
def b73_0 : SC := .seq (.reg r73_3) (.seq (.cond (.t 18) (.skip) (.exit 0)) (.seq (.block 1 (.seq (.reg r73_4) (.seq (.seq (.reg r73_5) (.seq (.reg r73_6) (.cond (.t 26) (.seq (.reg r73_7) (.ret)) (.skip)))) (.seq (.reg r73_8) (.seq (.seq (.reg r73_9) (.cond (.t 36) (.seq (.reg r73_10) (.ret)) (.skip))) (.reg r73_11)))))) (.reg r73_12)))
def r73_13 : List SO := [
  ⟨none, some 41, .fld 0 (.t 2)⟩,
  ⟨none, some 42, .load false 1 (.t 41)⟩,
  ⟨none, some 43, .mv (.t 6)⟩,
  ⟨none, some 44, .build [.int .i64 0, .nilsl] [(0, 1, .t 42), (1, 1, .t 43)]⟩,
  ⟨none, none, .store 2 (.t 4) (.t 44)⟩,
  ⟨none, some 5, .mv (.c (.int .i64 0))⟩]
def s73 : SF := ⟨45, [.cell 4 true 2, .tmp 5], .seq (.reg r73_0) (.seq (.reg r73_1) (.seq (.seq (.reg r73_2) (.block 0 (.loop b73_0))) (.seq (.reg r73_13) (.ret))))⟩
theorem s73_ok : slimF Try.prog ⟨[94, 102, 103, 108, 109, 116, 119, 121, 125], []⟩ Try.f73 = some s73 := by kernel_rfl
end Go.Proofs.Ytngkckefanbhgaa

namespace Go.Proofs.Ytngkckefanbhgaa
open Go Go.Proofs
def r102_0 : List SO := [
  ⟨none, some 2, .mv (.c (.nilsl))⟩]
def r102_1 : List SO := [
  ⟨none, some 6, .mv (.t 0)⟩,
  ⟨none, some 7, .len (.t 6)⟩,
  ⟨none, some 8, .bin .add (.t 7) (.c (.int .i64 1))⟩,
  ⟨none, some 9, .mks 63 2 48 [.nilsl, .nilsl] (.c (.int .i64 0)) (.t 8)⟩,
  ⟨none, some 3, .mv (.t 9)⟩]
def r102_2 : List SO := [
  ⟨none, some 10, .mv (.t 0)⟩,
  ⟨none, some 11, .len (.t 10)⟩,
  ⟨none, some 12, .mv (.c (.int .i64 0))⟩]
def r102_3 : List SO := [
  ⟨none, some 13, .bin .lss (.t 12) (.t 11)⟩]
def r102_4 : List SO := [
  ⟨none, some 14, .idx 2 (.t 10) (.t 12)⟩,
  ⟨none, some 15, .load true 2 (.t 14)⟩,
  ⟨none, some 5, .alloc 63 [.nilsl, .nilsl]⟩,
  ⟨none, none, .store 2 (.t 5) (.t 15)⟩]
def r102_5 : List SO := [
  ⟨none, some 16, .mv (.t 3)⟩,
  ⟨none, some 17, .load true 2 (.t 5)⟩,
  ⟨none, some 18, .call false 115 [.t 17]⟩,
  ⟨none, some 19, .bslice 63 2 false [.nilsl, .nilsl] 1 [(0, .t 18)]⟩,
  ⟨none, some 20, .append 63 2 48 (.t 16) (.t 19)⟩,
  ⟨none, some 3, .mv (.t 20)⟩]
def r102_6 : List SO := [
  ⟨none, some 21, .bin .add (.t 12) (.c (.int .i64 1))⟩,
  ⟨none, some 12, .mv (.t 21)⟩]
def b102_0 : SC := .seq (.reg r102_3) (.seq (.cond (.t 13) (.skip) (.exit 0)) (.seq (.block 1 (.seq (.reg r102_4) (.reg r102_5))) (.reg r102_6)))
def r102_7 : List SO := [
  ⟨none, some 22, .mv (.t 3)⟩,
  ⟨none, some 2, .mv (.t 22)⟩]
def s102 : SF := ⟨23, [.tmp 2], .seq (.reg r102_0) (.seq (.reg r102_1) (.seq (.seq (.reg r102_2) (.block 0 (.loop b102_0))) (.seq (.reg r102_7) (.ret))))⟩
theorem s102_ok : slimF Try.prog ⟨[94, 102, 103, 108, 109, 116, 119, 121, 125], []⟩ Try.f102 = some s102 := by kernel_rfl
end Go.Proofs.Ytngkckefanbhgaa

namespace Go.Proofs.Ytngkckefanbhgaa
open Go Go.Proofs
def r103_0 : List SO := [
  ⟨none, some 3, .box 63 2 (.t 1)⟩,
  ⟨none, some 4, .mv (.c (.nilsl))⟩,
  ⟨none, some 5, .mv (.c (.int .i64 0))⟩]
def r103_1 : List SO := [
  ⟨none, some 6, .mv (.c (.bool false))⟩]
def r103_2 : List SO := [
  ⟨none, some 11, .mv (.t 0)⟩,
  ⟨none, some 12, .len (.t 11)⟩,
  ⟨none, some 13, .mv (.c (.int .i64 0))⟩]
def r103_3 : List SO := [
  ⟨none, some 14, .bin .lss (.t 13) (.t 12)⟩]
def r103_4 : List SO := [
  ⟨none, some 15, .idx 2 (.t 11) (.t 13)⟩,
  ⟨none, some 16, .load true 2 (.t 15)⟩,
  ⟨none, some 8, .alloc 63 [.nilsl, .nilsl]⟩,
  ⟨none, none, .store 2 (.t 8) (.t 16)⟩]
def r103_5 : List SO := [
  ⟨none, some 17, .load true 2 (.t 8)⟩,
  ⟨none, some 18, .load true 2 (.t 3)⟩,
  ⟨none, some 19, .call false 84 [.t 17, .t 18]⟩,
  ⟨none, some 20, .bin .geq (.t 19) (.c (.int .i64 0))⟩]
def r103_6 : List SO := [
  ⟨none, some 4, .mv (.c (.nilsl))⟩,
  ⟨none, some 5, .mv (.c (.int .i64 13))⟩]
def r103_7 : List SO := [
  ⟨none, some 21, .mv (.t 6)⟩,
  ⟨none, some 22, .mv (.t 21)⟩,
  ⟨some (22, false), some 23, .fld 0 (.t 8)⟩,
  ⟨some (22, false), some 24, .load false 1 (.t 23)⟩,
  ⟨some (22, false), some 25, .fld 0 (.t 3)⟩,
  ⟨some (22, false), some 26, .load false 1 (.t 25)⟩,
  ⟨some (22, false), some 27, .call false 76 [.t 24, .t 26]⟩,
  ⟨none, some 28, .pick (.t 22) (.c (.bool true)) (.t 27)⟩,
  ⟨none, some 6, .mv (.t 28)⟩]
def r103_8 : List SO := [
  ⟨none, some 29, .bin .add (.t 13) (.c (.int .i64 1))⟩,
  ⟨none, some 13, .mv (.t 29)⟩]
def b103_0 : SC := .seq (.reg r103_3) (.seq (.cond (.t 14) (.skip) (.exit 0)) (.seq (.block 1 (.seq (.reg r103_4) (.seq (.seq (.reg r103_5) (.cond (.t 20) (.seq (.reg r103_6) (.ret)) (.skip))) (.reg r103_7)))) (.reg r103_8)))
def r103_9 : List SO := [
  ⟨none, some 30, .mv (.t 6)⟩,
  ⟨none, some 31, .mv (.t 30)⟩,
  ⟨some (31, false), some 32, .fld 0 (.t 3)⟩,
  ⟨some (31, false), some 33, .load false 1 (.t 32)⟩,
  ⟨some (31, false), some 34, .len (.t 33)⟩,
  ⟨some (31, false), some 35, .bin .eql (.t 34) (.c (.int .i64 0))⟩,
  ⟨none, some 36, .pick (.t 31) (.c (.bool true)) (.t 35)⟩]
def r103_10 : List SO := [
  ⟨none, some 37, .mv (.t 0)⟩,
  ⟨none, some 4, .mv (.t 37)⟩,
  ⟨none, some 5, .mv (.c (.int .i64 0))⟩]
def r103_11 : List SO := [
  ⟨none, some 38, .mv (.t 0)⟩,
  ⟨none, some 39, .mkf 117 [.t 3]⟩,
  ⟨none, some 40, .call true 116 [.t 38, .t 39]⟩,
  ⟨none, some 0, .mv (.t 40)⟩]
def r103_12 : List SO := [
  ⟨none, some 41, .mv (.t 0)⟩,
  ⟨none, some 42, .len (.t 41)⟩,
  ⟨none, some 43, .bin .eql (.t 42) (.c (.int .i64 10000))⟩]
def r103_13 : List SO := [
  ⟨none, some 4, .mv (.c (.nilsl))⟩,
  ⟨none, some 5, .mv (.c (.int .i64 11))⟩]
def r103_14 : List SO := [
  ⟨none, some 45, .mv (.t 0)⟩,
  ⟨none, some 46, .load true 2 (.t 3)⟩,
  ⟨none, some 47, .call false 118 [.t 45, .t 46, .c (.fn 79 [] [])]⟩,
  ⟨none, some 44, .mv (.t 47)⟩,
  ⟨none, some 48, .ext (.t 44) 0⟩,
  ⟨none, some 49, .ext (.t 44) 1⟩,
  ⟨none, some 9, .mv (.t 48)⟩,
  ⟨none, some 10, .mv (.t 49)⟩]
def r103_15 : List SO := [
  ⟨none, some 50, .mv (.t 0)⟩,
  ⟨none, some 51, .mv (.t 9)⟩,
  ⟨none, some 52, .load true 2 (.t 3)⟩,
  ⟨none, some 53, .call false 115 [.t 52]⟩,
  ⟨none, some 54, .bslice 63 2 true [.nilsl, .nilsl] 1 [(0, .t 53)]⟩,
  ⟨none, some 55, .call true 119 [.t 50, .t 51, .t 54]⟩,
  ⟨none, some 4, .mv (.t 55)⟩,
  ⟨none, some 5, .mv (.c (.int .i64 0))⟩]
def s103 : SF := ⟨56, [.tmp 4, .tmp 5], .seq (.reg r103_0) (.seq (.reg r103_1) (.seq (.seq (.reg r103_2) (.block 0 (.loop b103_0))) (.seq (.seq (.reg r103_9) (.cond (.t 36) (.seq (.reg r103_10) (.ret)) (.skip))) (.seq (.reg r103_11) (.seq (.seq (.reg r103_12) (.cond (.t 43) (.seq (.reg r103_13) (.ret)) (.skip))) (.seq (.reg r103_14) (.seq (.reg r103_15) (.ret))))))))⟩
theorem s103_ok : slimF Try.prog ⟨[94, 102, 103, 108, 109, 116, 119, 121, 125], [54]⟩ Try.f103 = some s103 := by kernel_rfl
end Go.Proofs.Ytngkckefanbhgaa

namespace Go.Proofs.Ytngkckefanbhgaa
open Go Go.Proofs
def r109_0 : List SO := [
  ⟨none, some 5, .mv (.t 0)⟩,
  ⟨none, some 6, .len (.t 5)⟩,
  ⟨none, some 4, .mv (.t 6)⟩]
def r109_1 : List SO := [
  ⟨none, some 7, .mv (.t 0)⟩,
  ⟨none, some 8, .mv (.t 4)⟩,
  ⟨none, some 9, .mv (.t 4)⟩,
  ⟨none, some 10, .conv .u64 (.t 9)⟩,
  ⟨none, some 11, .call false 122 [.t 10]⟩,
  ⟨none, some 12, .mv (.t 1)⟩,
  ⟨none, some 13, .call true 121 [.t 7, .c (.int .i64 0), .t 8, .t 11, .t 12]⟩]
def s109 : SF := ⟨14, [], .seq (.reg r109_0) (.reg r109_1)⟩
theorem s109_ok : slimF Try.prog ⟨[94, 102, 103, 108, 109, 116, 119, 121, 125], []⟩ Try.f109 = some s109 := by kernel_rfl
end Go.Proofs.Ytngkckefanbhgaa

namespace Go.Proofs.Ytngkckefanbhgaa
open Go Go.Proofs
def r115_0 : List SO := [
  ⟨none, some 1, .box 63 2 (.t 0)⟩,
  ⟨none, some 2, .alloc 63 [.nilsl, .nilsl]⟩]
def r115_1 : List SO := [
  ⟨none, some 3, .fld 0 (.t 1)⟩,
  ⟨none, some 4, .load false 1 (.t 3)⟩,
  ⟨none, some 5, .call false 63 [.t 4]⟩,
  ⟨none, some 6, .fld 1 (.t 1)⟩,
  ⟨none, some 7, .load false 1 (.t 6)⟩,
  ⟨none, some 8, .call false 63 [.t 7]⟩,
  ⟨none, some 9, .build [.nilsl, .nilsl] [(0, 1, .t 5), (1, 1, .t 8)]⟩,
  ⟨none, none, .store 2 (.t 2) (.t 9)⟩]
def s115 : SF := ⟨10, [.cell 2 true 2], .seq (.reg r115_0) (.seq (.reg r115_1) (.ret))⟩
theorem s115_ok : slimF Try.prog ⟨[94, 102, 103, 108, 109, 116, 119, 121, 125], []⟩ Try.f115 = some s115 := by kernel_rfl
end Go.Proofs.Ytngkckefanbhgaa

namespace Go.Proofs.Ytngkckefanbhgaa
open Go Go.Proofs
def r116_0 : List SO := [
  ⟨none, some 4, .mv (.c (.nilsl))⟩]
def r116_1 : List SO := [
  ⟨none, some 8, .mv (.t 0)⟩,
  ⟨none, some 9, .mv (.t 1)⟩,
  ⟨none, some 10, .call false 74 [.t 8, .t 9]⟩,
  ⟨none, some 5, .mv (.t 10)⟩]
def r116_2 : List SO := [
  ⟨none, some 11, .mv (.t 5)⟩,
  ⟨none, some 12, .bin .eql (.t 11) (.c (.int .i64 (-1)))⟩]
def r116_3 : List SO := [
  ⟨none, some 13, .mv (.t 0)⟩,
  ⟨none, some 4, .mv (.t 13)⟩]
def r116_4 : List SO := [
  ⟨none, some 14, .mv (.t 5)⟩,
  ⟨none, some 15, .bin .add (.t 14) (.c (.int .i64 1))⟩,
  ⟨none, some 6, .mv (.t 15)⟩]
def r116_5 : List SO := [
  ⟨none, some 16, .mv (.t 6)⟩,
  ⟨none, some 17, .mv (.t 0)⟩,
  ⟨none, some 18, .len (.t 17)⟩,
  ⟨none, some 19, .bin .lss (.t 16) (.t 18)⟩]
def r116_7 : List SO := [
  ⟨none, some 22, .mv (.t 0)⟩,
  ⟨none, some 23, .mv (.t 6)⟩,
  ⟨none, some 24, .idx 2 (.t 22) (.t 23)⟩,
  ⟨none, some 25, .load true 2 (.t 24)⟩,
  ⟨none, some 7, .alloc 63 [.nilsl, .nilsl]⟩,
  ⟨none, none, .store 2 (.t 7) (.t 25)⟩]
def r116_8 : List SO := [
  ⟨none, some 26, .mv (.t 1)⟩,
  ⟨none, some 27, .load true 2 (.t 7)⟩,
  ⟨none, some 28, .callv false (.t 26) [.t 27]⟩,
  ⟨none, some 29, .un .not (.t 28)⟩]
def r116_9 : List SO := [
  ⟨none, some 30, .mv (.t 0)⟩,
  ⟨none, some 31, .mv (.t 5)⟩,
  ⟨none, some 32, .load true 2 (.t 7)⟩,
  ⟨none, some 33, .idx 2 (.t 30) (.t 31)⟩,
  ⟨none, none, .store 2 (.t 33) (.t 32)⟩]
def r116_10 : List SO := [
  ⟨none, some 34, .mv (.t 5)⟩,
  ⟨none, some 35, .bin .add (.t 34) (.c (.int .i64 1))⟩,
  ⟨none, some 5, .mv (.t 35)⟩]
def r116_6 : List SO := [
  ⟨none, some 20, .mv (.t 6)⟩,
  ⟨none, some 21, .bin .add (.t 20) (.c (.int .i64 1))⟩,
  ⟨none, some 6, .mv (.t 21)⟩]
def b116_0 : SC := .seq (.seq (.reg r116_5) (.cond (.t 19) (.skip) (.exit 0))) (.seq (.block 1 (.seq (.reg r116_7) (.seq (.reg r116_8) (.cond (.t 29) (.seq (.reg r116_9) (.reg r116_10)) (.skip))))) (.reg r116_6))
def r116_11 : List SO := [
  ⟨none, some 36, .mv (.t 0)⟩,
  ⟨none, some 37, .mv (.t 5)⟩,
  ⟨none, some 38, .slice 2 (.t 36) (some (.t 37)) none⟩,
  ⟨none, none, .clr [.nilsl, .nilsl] (.t 38)⟩]
def r116_12 : List SO := [
  ⟨none, some 39, .mv (.t 0)⟩,
  ⟨none, some 40, .mv (.t 5)⟩,
  ⟨none, some 41, .slice 2 (.t 39) none (some (.t 40))⟩,
  ⟨none, some 4, .mv (.t 41)⟩]
def s116 : SF := ⟨42, [.tmp 4], .seq (.reg r116_0) (.seq (.reg r116_1) (.seq (.seq (.reg r116_2) (.cond (.t 12) (.seq (.reg r116_3) (.ret)) (.skip))) (.seq (.seq (.reg r116_4) (.block 0 (.loop b116_0))) (.seq (.reg r116_11) (.seq (.reg r116_12) (.ret))))))⟩
theorem s116_ok : slimF Try.prog ⟨[94, 102, 103, 108, 109, 116, 119, 121, 125], []⟩ Try.f116 = some s116 := by kernel_rfl
end Go.Proofs.Ytngkckefanbhgaa

namespace Go.Proofs.Ytngkckefanbhgaa
open Go Go.Proofs
def r117_0 : List SO := [
  ⟨none, some 2, .box 63 2 (.t 0)⟩,
  ⟨none, some 3, .mv (.c (.bool false))⟩]
def r117_1 : List SO := [
  ⟨none, some 4, .fld 0 (.t 1)⟩,
  ⟨none, some 5, .load false 1 (.t 4)⟩,
  ⟨none, some 6, .fld 0 (.t 2)⟩,
  ⟨none, some 7, .load false 1 (.t 6)⟩,
  ⟨none, some 8, .call false 76 [.t 5, .t 7]⟩,
  ⟨none, some 3, .mv (.t 8)⟩]
def s117 : SF := ⟨9, [.tmp 3], .seq (.reg r117_0) (.seq (.reg r117_1) (.ret))⟩
theorem s117_ok : slimF Try.prog ⟨[94, 102, 103, 108, 109, 116, 119, 121, 125], []⟩ Try.f117 = some s117 := by kernel_rfl
end Go.Proofs.Ytngkckefanbhgaa

namespace Go.Proofs.Ytngkckefanbhgaa
open Go Go.Proofs
def r118_0 : List SO := [
  ⟨none, some 4, .box 63 2 (.t 1)⟩,
  ⟨none, some 6, .mv (.c (.int .i64 0))⟩,
  ⟨none, some 7, .mv (.c (.bool false))⟩]
def r118_1 : List SO := [
  ⟨none, some 12, .mv (.t 0)⟩,
  ⟨none, some 13, .len (.t 12)⟩,
  ⟨none, some 8, .mv (.t 13)⟩]
def r118_2 : List SO := [
  ⟨none, some 14, .mv (.t 8)⟩,
  ⟨none, some 9, .mv (.c (.int .i64 0))⟩,
  ⟨none, some 10, .mv (.t 14)⟩]
def r118_3 : List SO := [
  ⟨none, some 15, .mv (.t 9)⟩,
  ⟨none, some 16, .mv (.t 10)⟩,
  ⟨none, some 17, .bin .lss (.t 15) (.t 16)⟩]
def r118_4 : List SO := [
  ⟨none, some 18, .mv (.t 9)⟩,
  ⟨none, some 19, .mv (.t 10)⟩,
  ⟨none, some 20, .bin .add (.t 18) (.t 19)⟩,
  ⟨none, some 21, .conv .u64 (.t 20)⟩,
  ⟨none, some 22, .bin .shr (.t 21) (.c (.int .u64 1))⟩,
  ⟨none, some 23, .conv .i64 (.t 22)⟩,
  ⟨none, some 11, .mv (.t 23)⟩]
def r118_5 : List SO := [
  ⟨none, some 24, .mv (.t 2)⟩,
  ⟨none, some 25, .mv (.t 0)⟩,
  ⟨none, some 26, .mv (.t 11)⟩,
  ⟨none, some 27, .idx 2 (.t 25) (.t 26)⟩,
  ⟨none, some 28, .load true 2 (.t 27)⟩,
  ⟨none, some 29, .load true 2 (.t 4)⟩,
  ⟨none, some 30, .callv false (.t 24) [.t 28, .t 29]⟩,
  ⟨none, some 31, .bin .lss (.t 30) (.c (.int .i64 0))⟩]
def r118_6 : List SO := [
  ⟨none, some 32, .mv (.t 11)⟩,
  ⟨none, some 33, .bin .add (.t 32) (.c (.int .i64 1))⟩,
  ⟨none, some 9, .mv (.t 33)⟩]
def r118_7 : List SO := [
  ⟨none, some 34, .mv (.t 11)⟩,
  ⟨none, some 10, .mv (.t 34)⟩]
def b118_0 : SC := .seq (.seq (.reg r118_3) (.cond (.t 17) (.skip) (.exit 0))) (.block 1 (.seq (.reg r118_4) (.seq (.reg r118_5) (.cond (.t 31) (.reg r118_6) (.reg r118_7)))))
def r118_8 : List SO := [
  ⟨none, some 35, .mv (.t 9)⟩,
  ⟨none, some 36, .mv (.t 9)⟩,
  ⟨none, some 37, .mv (.t 8)⟩,
  ⟨none, some 38, .bin .lss (.t 36) (.t 37)⟩,
  ⟨none, some 39, .mv (.t 38)⟩,
  ⟨some (39, true), some 40, .mv (.t 2)⟩,
  ⟨some (39, true), some 41, .mv (.t 0)⟩,
  ⟨some (39, true), some 42, .mv (.t 9)⟩,
  ⟨some (39, true), some 43, .idx 2 (.t 41) (.t 42)⟩,
  ⟨some (39, true), some 44, .load true 2 (.t 43)⟩,
  ⟨some (39, true), some 45, .load true 2 (.t 4)⟩,
  ⟨some (39, true), some 46, .callv false (.t 40) [.t 44, .t 45]⟩,
  ⟨some (39, true), some 47, .bin .eql (.t 46) (.c (.int .i64 0))⟩,
  ⟨none, some 48, .pick (.t 39) (.t 47) (.c (.bool false))⟩,
  ⟨none, some 6, .mv (.t 35)⟩,
  ⟨none, some 7, .mv (.t 48)⟩]
def s118 : SF := ⟨49, [.tmp 6, .tmp 7], .seq (.reg r118_0) (.seq (.reg r118_1) (.seq (.reg r118_2) (.seq (.block 0 (.loop b118_0)) (.seq (.reg r118_8) (.ret)))))⟩
theorem s118_ok : slimF Try.prog ⟨[94, 102, 103, 108, 109, 116, 119, 121, 125], []⟩ Try.f118 = some s118 := by kernel_rfl
end Go.Proofs.Ytngkckefanbhgaa

namespace Go.Proofs.Ytngkckefanbhgaa
open Go Go.Proofs
def r121_0 : List SO := [
  ⟨none, some 10, .mv (.c (.bool true))⟩]
def r121_1 : List SO := [
  ⟨none, some 11, .mv (.c (.bool true))⟩]
def r121_2 : List SO := [
  ⟨none, some 21, .mv (.t 2)⟩,
  ⟨none, some 22, .mv (.t 1)⟩,
  ⟨none, some 23, .bin .sub (.t 21) (.t 22)⟩,
  ⟨none, some 12, .mv (.t 23)⟩]
def r121_3 : List SO := [
  ⟨none, some 24, .mv (.t 12)⟩,
  ⟨none, some 25, .bin .leq (.t 24) (.c (.int .i64 12))⟩]
def r121_4 : List SO := [
  ⟨none, some 26, .mv (.t 0)⟩,
  ⟨none, some 27, .mv (.t 1)⟩,
  ⟨none, some 28, .mv (.t 2)⟩,
  ⟨none, some 29, .mv (.t 4)⟩,
  ⟨none, some 30, .call true 125 [.t 26, .t 27, .t 28, .t 29]⟩]
def r121_5 : List SO := [
  ⟨none, some 31, .mv (.t 3)⟩,
  ⟨none, some 32, .bin .eql (.t 31) (.c (.int .i64 0))⟩]
def r121_6 : List SO := [
  ⟨none, some 33, .mv (.t 0)⟩,
  ⟨none, some 34, .mv (.t 1)⟩,
  ⟨none, some 35, .mv (.t 2)⟩,
  ⟨none, some 36, .mv (.t 4)⟩,
  ⟨none, some 37, .call false 126 [.t 33, .t 34, .t 35, .t 36]⟩]
def r121_7 : List SO := [
  ⟨none, some 38, .mv (.t 10)⟩,
  ⟨none, some 39, .un .not (.t 38)⟩]
def r121_8 : List SO := [
  ⟨none, some 40, .mv (.t 0)⟩,
  ⟨none, some 41, .mv (.t 1)⟩,
  ⟨none, some 42, .mv (.t 2)⟩,
  ⟨none, some 43, .mv (.t 4)⟩,
  ⟨none, some 44, .call false 127 [.t 40, .t 41, .t 42, .t 43]⟩]
def r121_9 : List SO := [
  ⟨none, some 45, .mv (.t 3)⟩,
  ⟨none, some 46, .bin .sub (.t 45) (.c (.int .i64 1))⟩,
  ⟨none, some 3, .mv (.t 46)⟩]
def r121_10 : List SO := [
  ⟨none, some 48, .mv (.t 0)⟩,
  ⟨none, some 49, .mv (.t 1)⟩,
  ⟨none, some 50, .mv (.t 2)⟩,
  ⟨none, some 51, .mv (.t 4)⟩,
  ⟨none, some 52, .call false 128 [.t 48, .t 49, .t 50, .t 51]⟩,
  ⟨none, some 47, .mv (.t 52)⟩,
  ⟨none, some 53, .ext (.t 47) 0⟩,
  ⟨none, some 54, .ext (.t 47) 1⟩,
  ⟨none, some 13, .mv (.t 53)⟩,
  ⟨none, some 14, .mv (.t 54)⟩]
def r121_11 : List SO := [
  ⟨none, some 55, .mv (.t 14)⟩,
  ⟨none, some 56, .bin .eql (.t 55) (.c (.int .i64 2))⟩]
def r121_12 : List SO := [
  ⟨none, some 57, .mv (.t 0)⟩,
  ⟨none, some 58, .mv (.t 1)⟩,
  ⟨none, some 59, .mv (.t 2)⟩,
  ⟨none, some 60, .mv (.t 4)⟩,
  ⟨none, some 61, .call false 129 [.t 57, .t 58, .t 59, .t 60]⟩]
def r121_13 : List SO := [
  ⟨none, some 62, .mv (.t 2)⟩,
  ⟨none, some 63, .bin .sub (.t 62) (.c (.int .i64 1))⟩,
  ⟨none, some 64, .mv (.t 13)⟩,
  ⟨none, some 65, .mv (.t 1)⟩,
  ⟨none, some 66, .bin .sub (.t 64) (.t 65)⟩,
  ⟨none, some 67, .bin .sub (.t 63) (.t 66)⟩,
  ⟨none, some 13, .mv (.t 67)⟩]
def r121_14 : List SO := [
  ⟨none, some 14, .mv (.c (.int .i64 1))⟩]
def r121_15 : List SO := [
  ⟨none, some 68, .mv (.t 10)⟩,
  ⟨none, some 69, .mv (.t 68)⟩,
  ⟨some (69, true), some 70, .mv (.t 11)⟩,
  ⟨none, some 71, .pick (.t 69) (.t 70) (.c (.bool false))⟩,
  ⟨none, some 72, .mv (.t 71)⟩,
  ⟨some (72, true), some 73, .mv (.t 14)⟩,
  ⟨some (72, true), some 74, .bin .eql (.t 73) (.c (.int .i64 1))⟩,
  ⟨none, some 75, .pick (.t 72) (.t 74) (.c (.bool false))⟩]
def r121_16 : List SO := [
  ⟨none, some 76, .mv (.t 0)⟩,
  ⟨none, some 77, .mv (.t 1)⟩,
  ⟨none, some 78, .mv (.t 2)⟩,
  ⟨none, some 79, .mv (.t 4)⟩,
  ⟨none, some 80, .call false 130 [.t 76, .t 77, .t 78, .t 79]⟩]
def r121_17 : List SO := [
  ⟨none, some 81, .mv (.t 1)⟩,
  ⟨none, some 82, .bin .gtr (.t 81) (.c (.int .i64 0))⟩,
  ⟨none, some 83, .mv (.t 82)⟩,
  ⟨some (83, true), some 84, .mv (.t 4)⟩,
  ⟨some (83, true), some 85, .mv (.t 0)⟩,
  ⟨some (83, true), some 86, .mv (.t 1)⟩,
  ⟨some (83, true), some 87, .bin .sub (.t 86) (.c (.int .i64 1))⟩,
  ⟨some (83, true), some 88, .idx 2 (.t 85) (.t 87)⟩,
  ⟨some (83, true), some 89, .load true 2 (.t 88)⟩,
  ⟨some (83, true), some 90, .mv (.t 0)⟩,
  ⟨some (83, true), some 91, .mv (.t 13)⟩,
  ⟨some (83, true), some 92, .idx 2 (.t 90) (.t 91)⟩,
  ⟨some (83, true), some 93, .load true 2 (.t 92)⟩,
  ⟨some (83, true), some 94, .callv false (.t 84) [.t 89, .t 93]⟩,
  ⟨some (83, true), some 95, .bin .lss (.t 94) (.c (.int .i64 0))⟩,
  ⟨some (83, true), some 96, .un .not (.t 95)⟩,
  ⟨none, some 97, .pick (.t 83) (.t 96) (.c (.bool false))⟩]
def r121_18 : List SO := [
  ⟨none, some 98, .mv (.t 0)⟩,
  ⟨none, some 99, .mv (.t 1)⟩,
  ⟨none, some 100, .mv (.t 2)⟩,
  ⟨none, some 101, .mv (.t 13)⟩,
  ⟨none, some 102, .mv (.t 4)⟩,
  ⟨none, some 103, .call false 131 [.t 98, .t 99, .t 100, .t 101, .t 102]⟩,
  ⟨none, some 15, .mv (.t 103)⟩]
def r121_19 : List SO := [
  ⟨none, some 104, .mv (.t 15)⟩,
  ⟨none, some 1, .mv (.t 104)⟩]
def r121_20 : List SO := [
  ⟨none, some 106, .mv (.t 0)⟩,
  ⟨none, some 107, .mv (.t 1)⟩,
  ⟨none, some 108, .mv (.t 2)⟩,
  ⟨none, some 109, .mv (.t 13)⟩,
  ⟨none, some 110, .mv (.t 4)⟩,
  ⟨none, some 111, .call false 132 [.t 106, .t 107, .t 108, .t 109, .t 110]⟩,
  ⟨none, some 105, .mv (.t 111)⟩,
  ⟨none, some 112, .ext (.t 105) 0⟩,
  ⟨none, some 113, .ext (.t 105) 1⟩,
  ⟨none, some 16, .mv (.t 112)⟩,
  ⟨none, some 17, .mv (.t 113)⟩]
def r121_21 : List SO := [
  ⟨none, some 114, .mv (.t 17)⟩,
  ⟨none, some 11, .mv (.t 114)⟩]
def r121_22 : List SO := [
  ⟨none, some 115, .mv (.t 16)⟩,
  ⟨none, some 116, .mv (.t 1)⟩,
  ⟨none, some 117, .bin .sub (.t 115) (.t 116)⟩,
  ⟨none, some 118, .mv (.t 2)⟩,
  ⟨none, some 119, .mv (.t 16)⟩,
  ⟨none, some 120, .bin .sub (.t 118) (.t 119)⟩,
  ⟨none, some 18, .mv (.t 117)⟩,
  ⟨none, some 19, .mv (.t 120)⟩]
def r121_23 : List SO := [
  ⟨none, some 121, .mv (.t 12)⟩,
  ⟨none, some 122, .bin .quo (.t 121) (.c (.int .i64 8))⟩,
  ⟨none, some 20, .mv (.t 122)⟩]
def r121_24 : List SO := [
  ⟨none, some 123, .mv (.t 18)⟩,
  ⟨none, some 124, .mv (.t 19)⟩,
  ⟨none, some 125, .bin .lss (.t 123) (.t 124)⟩]
def r121_25 : List SO := [
  ⟨none, some 126, .mv (.t 18)⟩,
  ⟨none, some 127, .mv (.t 20)⟩,
  ⟨none, some 128, .bin .geq (.t 126) (.t 127)⟩,
  ⟨none, some 10, .mv (.t 128)⟩]
def r121_26 : List SO := [
  ⟨none, some 129, .mv (.t 0)⟩,
  ⟨none, some 130, .mv (.t 1)⟩,
  ⟨none, some 131, .mv (.t 16)⟩,
  ⟨none, some 132, .mv (.t 3)⟩,
  ⟨none, some 133, .mv (.t 4)⟩,
  ⟨none, some 134, .call true 121 [.t 129, .t 130, .t 131, .t 132, .t 133]⟩]
def r121_27 : List SO := [
  ⟨none, some 135, .mv (.t 16)⟩,
  ⟨none, some 136, .bin .add (.t 135) (.c (.int .i64 1))⟩,
  ⟨none, some 1, .mv (.t 136)⟩]
def r121_28 : List SO := [
  ⟨none, some 137, .mv (.t 19)⟩,
  ⟨none, some 138, .mv (.t 20)⟩,
  ⟨none, some 139, .bin .geq (.t 137) (.t 138)⟩,
  ⟨none, some 10, .mv (.t 139)⟩]
def r121_29 : List SO := [
  ⟨none, some 140, .mv (.t 0)⟩,
  ⟨none, some 141, .mv (.t 16)⟩,
  ⟨none, some 142, .bin .add (.t 141) (.c (.int .i64 1))⟩,
  ⟨none, some 143, .mv (.t 2)⟩,
  ⟨none, some 144, .mv (.t 3)⟩,
  ⟨none, some 145, .mv (.t 4)⟩,
  ⟨none, some 146, .call true 121 [.t 140, .t 142, .t 143, .t 144, .t 145]⟩]
def r121_30 : List SO := [
  ⟨none, some 147, .mv (.t 16)⟩,
  ⟨none, some 2, .mv (.t 147)⟩]
def b121_0 : SC := .block 1 (.seq (.reg r121_2) (.seq (.seq (.reg r121_3) (.cond (.t 25) (.seq (.reg r121_4) (.ret)) (.skip))) (.seq (.seq (.reg r121_5) (.cond (.t 32) (.seq (.reg r121_6) (.ret)) (.skip))) (.seq (.seq (.reg r121_7) (.cond (.t 39) (.seq (.reg r121_8) (.reg r121_9)) (.skip))) (.seq (.reg r121_10) (.seq (.seq (.reg r121_11) (.cond (.t 56) (.seq (.reg r121_12) (.seq (.reg r121_13) (.reg r121_14))) (.skip))) (.seq (.seq (.reg r121_15) (.cond (.t 75) (.seq (.reg r121_16) (.cond (.t 80) (.ret) (.skip))) (.skip))) (.seq (.seq (.reg r121_17) (.cond (.t 97) (.seq (.reg r121_18) (.seq (.reg r121_19) (.exit 1))) (.skip))) (.seq (.reg r121_20) (.seq (.reg r121_21) (.seq (.reg r121_22) (.seq (.reg r121_23) (.seq (.reg r121_24) (.cond (.t 125) (.seq (.reg r121_25) (.seq (.reg r121_26) (.reg r121_27))) (.seq (.reg r121_28) (.seq (.reg r121_29) (.reg r121_30)))))))))))))))))
def s121 : SF := ⟨148, [], .seq (.reg r121_0) (.seq (.reg r121_1) (.block 0 (.loop b121_0)))⟩
theorem s121_ok : slimF Try.prog ⟨[94, 102, 103, 108, 109, 116, 119, 121, 125], []⟩ Try.f121 = some s121 := by kernel_rfl
end Go.Proofs.Ytngkckefanbhgaa

namespace Go.Proofs.Ytngkckefanbhgaa
open Go Go.Proofs
def r122_0 : List SO := [
  ⟨none, some 2, .mv (.c (.int .i64 0))⟩]
def r122_1 : List SO := [
  ⟨none, some 3, .mv (.t 0)⟩,
  ⟨none, some 4, .conv .u32 (.t 3)⟩,
  ⟨none, some 5, .call false 133 [.t 4]⟩,
  ⟨none, some 2, .mv (.t 5)⟩]
def r122_2 : List SO := [
  ⟨none, some 6, .mv (.t 0)⟩,
  ⟨none, some 7, .call false 134 [.t 6]⟩,
  ⟨none, some 2, .mv (.t 7)⟩]
def s122 : SF := ⟨8, [.tmp 2], .seq (.reg r122_0) (.seq (.cond (.c (.bool false)) (.seq (.reg r122_1) (.ret)) (.skip)) (.seq (.reg r122_2) (.ret)))⟩
theorem s122_ok : slimF Try.prog ⟨[94, 102, 103, 108, 109, 116, 119, 121, 125], []⟩ Try.f122 = some s122 := by kernel_rfl
end Go.Proofs.Ytngkckefanbhgaa

namespace Go.Proofs.Ytngkckefanbhgaa
open Go Go.Proofs
def r125_0 : List SO := [
  ⟨none, some 10, .mv (.t 1)⟩,
  ⟨none, some 11, .bin .add (.t 10) (.c (.int .i64 1))⟩,
  ⟨none, some 8, .mv (.t 11)⟩]
def r125_1 : List SO := [
  ⟨none, some 12, .mv (.t 8)⟩,
  ⟨none, some 13, .mv (.t 2)⟩,
  ⟨none, some 14, .bin .lss (.t 12) (.t 13)⟩]
def r125_3 : List SO := [
  ⟨none, some 17, .mv (.t 8)⟩,
  ⟨none, some 9, .mv (.t 17)⟩]
def r125_4 : List SO := [
  ⟨none, some 18, .mv (.t 9)⟩,
  ⟨none, some 19, .mv (.t 1)⟩,
  ⟨none, some 20, .bin .gtr (.t 18) (.t 19)⟩,
  ⟨none, some 21, .mv (.t 20)⟩,
  ⟨some (21, true), some 22, .mv (.t 3)⟩,
  ⟨some (21, true), some 23, .mv (.t 0)⟩,
  ⟨some (21, true), some 24, .mv (.t 9)⟩,
  ⟨some (21, true), some 25, .idx 2 (.t 23) (.t 24)⟩,
  ⟨some (21, true), some 26, .load true 2 (.t 25)⟩,
  ⟨some (21, true), some 27, .mv (.t 0)⟩,
  ⟨some (21, true), some 28, .mv (.t 9)⟩,
  ⟨some (21, true), some 29, .bin .sub (.t 28) (.c (.int .i64 1))⟩,
  ⟨some (21, true), some 30, .idx 2 (.t 27) (.t 29)⟩,
  ⟨some (21, true), some 31, .load true 2 (.t 30)⟩,
  ⟨some (21, true), some 32, .callv false (.t 22) [.t 26, .t 31]⟩,
  ⟨some (21, true), some 33, .bin .lss (.t 32) (.c (.int .i64 0))⟩,
  ⟨none, some 34, .pick (.t 21) (.t 33) (.c (.bool false))⟩]
def r125_6 : List SO := [
  ⟨none, some 37, .mv (.t 0)⟩,
  ⟨none, some 38, .mv (.t 9)⟩,
  ⟨none, some 39, .mv (.t 0)⟩,
  ⟨none, some 40, .mv (.t 9)⟩,
  ⟨none, some 41, .bin .sub (.t 40) (.c (.int .i64 1))⟩,
  ⟨none, some 42, .mv (.t 0)⟩,
  ⟨none, some 43, .mv (.t 9)⟩,
  ⟨none, some 44, .bin .sub (.t 43) (.c (.int .i64 1))⟩,
  ⟨none, some 45, .idx 2 (.t 42) (.t 44)⟩,
  ⟨none, some 46, .load true 2 (.t 45)⟩,
  ⟨none, some 47, .mv (.t 0)⟩,
  ⟨none, some 48, .mv (.t 9)⟩,
  ⟨none, some 49, .idx 2 (.t 47) (.t 48)⟩,
  ⟨none, some 50, .load true 2 (.t 49)⟩,
  ⟨none, some 51, .idx 2 (.t 37) (.t 38)⟩,
  ⟨none, none, .store 2 (.t 51) (.t 46)⟩,
  ⟨none, some 52, .idx 2 (.t 39) (.t 41)⟩,
  ⟨none, none, .store 2 (.t 52) (.t 50)⟩]
def r125_5 : List SO := [
  ⟨none, some 35, .mv (.t 9)⟩,
  ⟨none, some 36, .bin .sub (.t 35) (.c (.int .i64 1))⟩,
  ⟨none, some 9, .mv (.t 36)⟩]
def b125_1 : SC := .seq (.seq (.reg r125_4) (.cond (.t 34) (.skip) (.exit 2))) (.seq (.block 3 (.reg r125_6)) (.reg r125_5))
def r125_2 : List SO := [
  ⟨none, some 15, .mv (.t 8)⟩,
  ⟨none, some 16, .bin .add (.t 15) (.c (.int .i64 1))⟩,
  ⟨none, some 8, .mv (.t 16)⟩]
def b125_0 : SC := .seq (.seq (.reg r125_1) (.cond (.t 14) (.skip) (.exit 0))) (.seq (.block 1 (.seq (.reg r125_3) (.block 2 (.loop b125_1)))) (.reg r125_2))
def s125 : SF := ⟨53, [], .seq (.reg r125_0) (.block 0 (.loop b125_0))⟩
theorem s125_ok : slimF Try.prog ⟨[94, 102, 103, 108, 109, 116, 119, 121, 125], []⟩ Try.f125 = some s125 := by kernel_rfl
end Go.Proofs.Ytngkckefanbhgaa

namespace Go.Proofs.Ytngkckefanbhgaa
open Go Go.Proofs
def r126_0 : List SO := [
  ⟨none, some 13, .mv (.t 1)⟩,
  ⟨none, some 8, .mv (.t 13)⟩]
def r126_1 : List SO := [
  ⟨none, some 9, .mv (.c (.int .i64 0))⟩]
def r126_2 : List SO := [
  ⟨none, some 14, .mv (.t 2)⟩,
  ⟨none, some 15, .mv (.t 1)⟩,
  ⟨none, some 16, .bin .sub (.t 14) (.t 15)⟩,
  ⟨none, some 10, .mv (.t 16)⟩]
def r126_3 : List SO := [
  ⟨none, some 17, .mv (.t 10)⟩,
  ⟨none, some 18, .bin .sub (.t 17) (.c (.int .i64 1))⟩,
  ⟨none, some 19, .bin .quo (.t 18) (.c (.int .i64 2))⟩,
  ⟨none, some 11, .mv (.t 19)⟩]
def r126_4 : List SO := [
  ⟨none, some 20, .mv (.t 11)⟩,
  ⟨none, some 21, .bin .geq (.t 20) (.c (.int .i64 0))⟩]
def r126_6 : List SO := [
  ⟨none, some 24, .mv (.t 0)⟩,
  ⟨none, some 25, .mv (.t 11)⟩,
  ⟨none, some 26, .mv (.t 10)⟩,
  ⟨none, some 27, .mv (.t 8)⟩,
  ⟨none, some 28, .mv (.t 3)⟩,
  ⟨none, some 29, .call false 136 [.t 24, .t 25, .t 26, .t 27, .t 28]⟩]
def r126_5 : List SO := [
  ⟨none, some 22, .mv (.t 11)⟩,
  ⟨none, some 23, .bin .sub (.t 22) (.c (.int .i64 1))⟩,
  ⟨none, some 11, .mv (.t 23)⟩]
def b126_0 : SC := .seq (.seq (.reg r126_4) (.cond (.t 21) (.skip) (.exit 0))) (.seq (.block 1 (.reg r126_6)) (.reg r126_5))
def r126_7 : List SO := [
  ⟨none, some 30, .mv (.t 10)⟩,
  ⟨none, some 31, .bin .sub (.t 30) (.c (.int .i64 1))⟩,
  ⟨none, some 12, .mv (.t 31)⟩]
def r126_8 : List SO := [
  ⟨none, some 32, .mv (.t 12)⟩,
  ⟨none, some 33, .bin .geq (.t 32) (.c (.int .i64 0))⟩]
def r126_10 : List SO := [
  ⟨none, some 36, .mv (.t 0)⟩,
  ⟨none, some 37, .mv (.t 8)⟩,
  ⟨none, some 38, .mv (.t 0)⟩,
  ⟨none, some 39, .mv (.t 8)⟩,
  ⟨none, some 40, .mv (.t 12)⟩,
  ⟨none, some 41, .bin .add (.t 39) (.t 40)⟩,
  ⟨none, some 42, .mv (.t 0)⟩,
  ⟨none, some 43, .mv (.t 8)⟩,
  ⟨none, some 44, .mv (.t 12)⟩,
  ⟨none, some 45, .bin .add (.t 43) (.t 44)⟩,
  ⟨none, some 46, .idx 2 (.t 42) (.t 45)⟩,
  ⟨none, some 47, .load true 2 (.t 46)⟩,
  ⟨none, some 48, .mv (.t 0)⟩,
  ⟨none, some 49, .mv (.t 8)⟩,
  ⟨none, some 50, .idx 2 (.t 48) (.t 49)⟩,
  ⟨none, some 51, .load true 2 (.t 50)⟩,
  ⟨none, some 52, .idx 2 (.t 36) (.t 37)⟩,
  ⟨none, none, .store 2 (.t 52) (.t 47)⟩,
  ⟨none, some 53, .idx 2 (.t 38) (.t 41)⟩,
  ⟨none, none, .store 2 (.t 53) (.t 51)⟩]
def r126_11 : List SO := [
  ⟨none, some 54, .mv (.t 0)⟩,
  ⟨none, some 55, .mv (.t 9)⟩,
  ⟨none, some 56, .mv (.t 12)⟩,
  ⟨none, some 57, .mv (.t 8)⟩,
  ⟨none, some 58, .mv (.t 3)⟩,
  ⟨none, some 59, .call false 136 [.t 54, .t 55, .t 56, .t 57, .t 58]⟩]
def r126_9 : List SO := [
  ⟨none, some 34, .mv (.t 12)⟩,
  ⟨none, some 35, .bin .sub (.t 34) (.c (.int .i64 1))⟩,
  ⟨none, some 12, .mv (.t 35)⟩]
def b126_1 : SC := .seq (.seq (.reg r126_8) (.cond (.t 33) (.skip) (.exit 2))) (.seq (.block 3 (.seq (.reg r126_10) (.reg r126_11))) (.reg r126_9))
def s126 : SF := ⟨60, [], .seq (.reg r126_0) (.seq (.reg r126_1) (.seq (.reg r126_2) (.seq (.seq (.reg r126_3) (.block 0 (.loop b126_0))) (.seq (.reg r126_7) (.block 2 (.loop b126_1))))))⟩
theorem s126_ok : slimF Try.prog ⟨[94, 102, 103, 108, 109, 116, 119, 121, 125], []⟩ Try.f126 = some s126 := by kernel_rfl
end Go.Proofs.Ytngkckefanbhgaa

namespace Go.Proofs.Ytngkckefanbhgaa
open Go Go.Proofs
def r127_0 : List SO := [
  ⟨none, some 13, .mv (.t 2)⟩,
  ⟨none, some 14, .mv (.t 1)⟩,
  ⟨none, some 15, .bin .sub (.t 13) (.t 14)⟩,
  ⟨none, some 8, .mv (.t 15)⟩]
def r127_1 : List SO := [
  ⟨none, some 16, .mv (.t 8)⟩,
  ⟨none, some 17, .bin .geq (.t 16) (.c (.int .i64 8))⟩]
def r127_2 : List SO := [
  ⟨none, some 18, .mv (.t 8)⟩,
  ⟨none, some 19, .conv .u64 (.t 18)⟩,
  ⟨none, some 9, .alloc 154 [.int .u64 0]⟩,
  ⟨none, none, .store 1 (.t 9) (.t 19)⟩]
def r127_3 : List SO := [
  ⟨none, some 20, .mv (.t 8)⟩,
  ⟨none, some 21, .call false 137 [.t 20]⟩,
  ⟨none, some 10, .mv (.t 21)⟩]
def r127_4 : List SO := [
  ⟨none, some 22, .mv (.t 1)⟩,
  ⟨none, some 23, .mv (.t 8)⟩,
  ⟨none, some 24, .bin .quo (.t 23) (.c (.int .i64 4))⟩,
  ⟨none, some 25, .bin .mul (.t 24) (.c (.int .i64 2))⟩,
  ⟨none, some 26, .bin .add (.t 22) (.t 25)⟩,
  ⟨none, some 27, .bin .sub (.t 26) (.c (.int .i64 1))⟩,
  ⟨none, some 11, .mv (.t 27)⟩]
def r127_5 : List SO := [
  ⟨none, some 28, .mv (.t 11)⟩,
  ⟨none, some 29, .mv (.t 1)⟩,
  ⟨none, some 30, .mv (.t 8)⟩,
  ⟨none, some 31, .bin .quo (.t 30) (.c (.int .i64 4))⟩,
  ⟨none, some 32, .bin .mul (.t 31) (.c (.int .i64 2))⟩,
  ⟨none, some 33, .bin .add (.t 29) (.t 32)⟩,
  ⟨none, some 34, .bin .add (.t 33) (.c (.int .i64 1))⟩,
  ⟨none, some 35, .bin .leq (.t 28) (.t 34)⟩]
def r127_7 : List SO := [
  ⟨none, some 38, .call false 138 [.t 9]⟩,
  ⟨none, some 39, .mv (.t 10)⟩,
  ⟨none, some 40, .bin .sub (.t 39) (.c (.int .u64 1))⟩,
  ⟨none, some 41, .bin .and (.t 38) (.t 40)⟩,
  ⟨none, some 42, .conv .i64 (.t 41)⟩,
  ⟨none, some 12, .mv (.t 42)⟩]
def r127_8 : List SO := [
  ⟨none, some 43, .mv (.t 12)⟩,
  ⟨none, some 44, .mv (.t 8)⟩,
  ⟨none, some 45, .bin .geq (.t 43) (.t 44)⟩]
def r127_9 : List SO := [
  ⟨none, some 46, .mv (.t 12)⟩,
  ⟨none, some 47, .mv (.t 8)⟩,
  ⟨none, some 48, .bin .sub (.t 46) (.t 47)⟩,
  ⟨none, some 12, .mv (.t 48)⟩]
def r127_10 : List SO := [
  ⟨none, some 49, .mv (.t 0)⟩,
  ⟨none, some 50, .mv (.t 11)⟩,
  ⟨none, some 51, .mv (.t 0)⟩,
  ⟨none, some 52, .mv (.t 1)⟩,
  ⟨none, some 53, .mv (.t 12)⟩,
  ⟨none, some 54, .bin .add (.t 52) (.t 53)⟩,
  ⟨none, some 55, .mv (.t 0)⟩,
  ⟨none, some 56, .mv (.t 1)⟩,
  ⟨none, some 57, .mv (.t 12)⟩,
  ⟨none, some 58, .bin .add (.t 56) (.t 57)⟩,
  ⟨none, some 59, .idx 2 (.t 55) (.t 58)⟩,
  ⟨none, some 60, .load true 2 (.t 59)⟩,
  ⟨none, some 61, .mv (.t 0)⟩,
  ⟨none, some 62, .mv (.t 11)⟩,
  ⟨none, some 63, .idx 2 (.t 61) (.t 62)⟩,
  ⟨none, some 64, .load true 2 (.t 63)⟩,
  ⟨none, some 65, .idx 2 (.t 49) (.t 50)⟩,
  ⟨none, none, .store 2 (.t 65) (.t 60)⟩,
  ⟨none, some 66, .idx 2 (.t 51) (.t 54)⟩,
  ⟨none, none, .store 2 (.t 66) (.t 64)⟩]
def r127_6 : List SO := [
  ⟨none, some 36, .mv (.t 11)⟩,
  ⟨none, some 37, .bin .add (.t 36) (.c (.int .i64 1))⟩,
  ⟨none, some 11, .mv (.t 37)⟩]
def b127_0 : SC := .seq (.seq (.reg r127_5) (.cond (.t 35) (.skip) (.exit 0))) (.seq (.block 1 (.seq (.reg r127_7) (.seq (.seq (.reg r127_8) (.cond (.t 45) (.reg r127_9) (.skip))) (.reg r127_10)))) (.reg r127_6))
def s127 : SF := ⟨67, [], .seq (.reg r127_0) (.seq (.reg r127_1) (.cond (.t 17) (.seq (.reg r127_2) (.seq (.reg r127_3) (.seq (.reg r127_4) (.block 0 (.loop b127_0))))) (.skip)))⟩
theorem s127_ok : slimF Try.prog ⟨[94, 102, 103, 108, 109, 116, 119, 121, 125], []⟩ Try.f127 = some s127 := by kernel_rfl
end Go.Proofs.Ytngkckefanbhgaa

namespace Go.Proofs.Ytngkckefanbhgaa
open Go Go.Proofs
def r128_0 : List SO := [
  ⟨none, some 8, .mv (.c (.int .i64 0))⟩,
  ⟨none, some 9, .mv (.c (.int .i64 0))⟩]
def r128_1 : List SO := [
  ⟨none, some 15, .mv (.t 2)⟩,
  ⟨none, some 16, .mv (.t 1)⟩,
  ⟨none, some 17, .bin .sub (.t 15) (.t 16)⟩,
  ⟨none, some 10, .mv (.t 17)⟩]
def r128_2 : List SO := [
  ⟨none, some 11, .alloc 3 [.int .i64 0]⟩]
def r128_3 : List SO := [
  ⟨none, some 18, .mv (.t 1)⟩,
  ⟨none, some 19, .mv (.t 10)⟩,
  ⟨none, some 20, .bin .quo (.t 19) (.c (.int .i64 4))⟩,
  ⟨none, some 21, .bin .mul (.t 20) (.c (.int .i64 1))⟩,
  ⟨none, some 22, .bin .add (.t 18) (.t 21)⟩,
  ⟨none, some 12, .mv (.t 22)⟩]
def r128_4 : List SO := [
  ⟨none, some 23, .mv (.t 1)⟩,
  ⟨none, some 24, .mv (.t 10)⟩,
  ⟨none, some 25, .bin .quo (.t 24) (.c (.int .i64 4))⟩,
  ⟨none, some 26, .bin .mul (.t 25) (.c (.int .i64 2))⟩,
  ⟨none, some 27, .bin .add (.t 23) (.t 26)⟩,
  ⟨none, some 13, .mv (.t 27)⟩]
def r128_5 : List SO := [
  ⟨none, some 28, .mv (.t 1)⟩,
  ⟨none, some 29, .mv (.t 10)⟩,
  ⟨none, some 30, .bin .quo (.t 29) (.c (.int .i64 4))⟩,
  ⟨none, some 31, .bin .mul (.t 30) (.c (.int .i64 3))⟩,
  ⟨none, some 32, .bin .add (.t 28) (.t 31)⟩,
  ⟨none, some 14, .mv (.t 32)⟩]
def r128_6 : List SO := [
  ⟨none, some 33, .mv (.t 10)⟩,
  ⟨none, some 34, .bin .geq (.t 33) (.c (.int .i64 8))⟩]
def r128_7 : List SO := [
  ⟨none, some 35, .mv (.t 10)⟩,
  ⟨none, some 36, .bin .geq (.t 35) (.c (.int .i64 50))⟩]
def r128_8 : List SO := [
  ⟨none, some 37, .mv (.t 0)⟩,
  ⟨none, some 38, .mv (.t 12)⟩,
  ⟨none, some 39, .mv (.t 3)⟩,
  ⟨none, some 40, .call false 139 [.t 37, .t 38, .t 11, .t 39]⟩,
  ⟨none, some 12, .mv (.t 40)⟩]
def r128_9 : List SO := [
  ⟨none, some 41, .mv (.t 0)⟩,
  ⟨none, some 42, .mv (.t 13)⟩,
  ⟨none, some 43, .mv (.t 3)⟩,
  ⟨none, some 44, .call false 139 [.t 41, .t 42, .t 11, .t 43]⟩,
  ⟨none, some 13, .mv (.t 44)⟩]
def r128_10 : List SO := [
  ⟨none, some 45, .mv (.t 0)⟩,
  ⟨none, some 46, .mv (.t 14)⟩,
  ⟨none, some 47, .mv (.t 3)⟩,
  ⟨none, some 48, .call false 139 [.t 45, .t 46, .t 11, .t 47]⟩,
  ⟨none, some 14, .mv (.t 48)⟩]
def r128_11 : List SO := [
  ⟨none, some 49, .mv (.t 0)⟩,
  ⟨none, some 50, .mv (.t 12)⟩,
  ⟨none, some 51, .mv (.t 13)⟩,
  ⟨none, some 52, .mv (.t 14)⟩,
  ⟨none, some 53, .mv (.t 3)⟩,
  ⟨none, some 54, .call false 140 [.t 49, .t 50, .t 51, .t 52, .t 11, .t 53]⟩,
  ⟨none, some 13, .mv (.t 54)⟩]
def r128_12 : List SO := [
  ⟨none, some 55, .load false 1 (.t 11)⟩]
def r128_14 : List SO := [
  ⟨none, some 58, .bin .eql (.t 55) (.c (.int .i64 0))⟩,
  ⟨none, some 57, .mv (.t 58)⟩]
def r128_15 : List SO := [
  ⟨none, some 59, .mv (.t 13)⟩,
  ⟨none, some 8, .mv (.t 59)⟩,
  ⟨none, some 9, .mv (.c (.int .i64 1))⟩]
def r128_16 : List SO := [
  ⟨none, some 61, .bin .eql (.t 55) (.c (.int .i64 12))⟩,
  ⟨none, some 60, .mv (.t 61)⟩]
def r128_17 : List SO := [
  ⟨none, some 62, .mv (.t 13)⟩,
  ⟨none, some 8, .mv (.t 62)⟩,
  ⟨none, some 9, .mv (.c (.int .i64 2))⟩]
def r128_13 : List SO := [
  ⟨none, some 56, .mv (.t 13)⟩,
  ⟨none, some 8, .mv (.t 56)⟩,
  ⟨none, some 9, .mv (.c (.int .i64 0))⟩]
def s128 : SF := ⟨63, [.tmp 8, .tmp 9], .seq (.reg r128_0) (.seq (.reg r128_1) (.seq (.reg r128_2) (.seq (.reg r128_3) (.seq (.reg r128_4) (.seq (.reg r128_5) (.seq (.seq (.reg r128_6) (.cond (.t 34) (.seq (.seq (.reg r128_7) (.cond (.t 36) (.seq (.reg r128_8) (.seq (.reg r128_9) (.reg r128_10))) (.skip))) (.reg r128_11)) (.skip))) (.seq (.reg r128_12) (.block 0 (.seq (.reg r128_14) (.cond (.t 57) (.seq (.reg r128_15) (.ret)) (.seq (.reg r128_16) (.cond (.t 60) (.seq (.reg r128_17) (.ret)) (.seq (.reg r128_13) (.ret))))))))))))))⟩
theorem s128_ok : slimF Try.prog ⟨[94, 102, 103, 108, 109, 116, 119, 121, 125], []⟩ Try.f128 = some s128 := by kernel_rfl
end Go.Proofs.Ytngkckefanbhgaa

namespace Go.Proofs.Ytngkckefanbhgaa
open Go Go.Proofs
def r129_0 : List SO := [
  ⟨none, some 10, .mv (.t 1)⟩,
  ⟨none, some 8, .mv (.t 10)⟩]
def r129_1 : List SO := [
  ⟨none, some 11, .mv (.t 2)⟩,
  ⟨none, some 12, .bin .sub (.t 11) (.c (.int .i64 1))⟩,
  ⟨none, some 9, .mv (.t 12)⟩]
def r129_2 : List SO := [
  ⟨none, some 13, .mv (.t 8)⟩,
  ⟨none, some 14, .mv (.t 9)⟩,
  ⟨none, some 15, .bin .lss (.t 13) (.t 14)⟩]
def r129_3 : List SO := [
  ⟨none, some 16, .mv (.t 0)⟩,
  ⟨none, some 17, .mv (.t 8)⟩,
  ⟨none, some 18, .mv (.t 0)⟩,
  ⟨none, some 19, .mv (.t 9)⟩,
  ⟨none, some 20, .mv (.t 0)⟩,
  ⟨none, some 21, .mv (.t 9)⟩,
  ⟨none, some 22, .idx 2 (.t 20) (.t 21)⟩,
  ⟨none, some 23, .load true 2 (.t 22)⟩,
  ⟨none, some 24, .mv (.t 0)⟩,
  ⟨none, some 25, .mv (.t 8)⟩,
  ⟨none, some 26, .idx 2 (.t 24) (.t 25)⟩,
  ⟨none, some 27, .load true 2 (.t 26)⟩,
  ⟨none, some 28, .idx 2 (.t 16) (.t 17)⟩,
  ⟨none, none, .store 2 (.t 28) (.t 23)⟩,
  ⟨none, some 29, .idx 2 (.t 18) (.t 19)⟩,
  ⟨none, none, .store 2 (.t 29) (.t 27)⟩]
def r129_4 : List SO := [
  ⟨none, some 30, .mv (.t 8)⟩,
  ⟨none, some 31, .bin .add (.t 30) (.c (.int .i64 1))⟩,
  ⟨none, some 8, .mv (.t 31)⟩]
def r129_5 : List SO := [
  ⟨none, some 32, .mv (.t 9)⟩,
  ⟨none, some 33, .bin .sub (.t 32) (.c (.int .i64 1))⟩,
  ⟨none, some 9, .mv (.t 33)⟩]
def b129_0 : SC := .seq (.seq (.reg r129_2) (.cond (.t 15) (.skip) (.exit 0))) (.block 1 (.seq (.reg r129_3) (.seq (.reg r129_4) (.reg r129_5))))
def s129 : SF := ⟨34, [], .seq (.reg r129_0) (.seq (.reg r129_1) (.block 0 (.loop b129_0)))⟩
theorem s129_ok : slimF Try.prog ⟨[94, 102, 103, 108, 109, 116, 119, 121, 125], []⟩ Try.f129 = some s129 := by kernel_rfl
end Go.Proofs.Ytngkckefanbhgaa

namespace Go.Proofs.Ytngkckefanbhgaa
open Go Go.Proofs
def r130_0 : List SO := [
  ⟨none, some 8, .mv (.c (.bool false))⟩]
def r130_1 : List SO := [
  ⟨none, some 13, .mv (.t 1)⟩,
  ⟨none, some 14, .bin .add (.t 13) (.c (.int .i64 1))⟩,
  ⟨none, some 9, .mv (.t 14)⟩]
def r130_2 : List SO := [
  ⟨none, some 10, .mv (.c (.int .i64 0))⟩]
def r130_3 : List SO := [
  ⟨none, some 15, .mv (.t 10)⟩,
  ⟨none, some 16, .bin .lss (.t 15) (.c (.int .i64 5))⟩]
def r130_5 : List SO := [
  ⟨none, some 19, .mv (.t 9)⟩,
  ⟨none, some 20, .mv (.t 2)⟩,
  ⟨none, some 21, .bin .lss (.t 19) (.t 20)⟩,
  ⟨none, some 22, .mv (.t 21)⟩,
  ⟨some (22, true), some 23, .mv (.t 3)⟩,
  ⟨some (22, true), some 24, .mv (.t 0)⟩,
  ⟨some (22, true), some 25, .mv (.t 9)⟩,
  ⟨some (22, true), some 26, .idx 2 (.t 24) (.t 25)⟩,
  ⟨some (22, true), some 27, .load true 2 (.t 26)⟩,
  ⟨some (22, true), some 28, .mv (.t 0)⟩,
  ⟨some (22, true), some 29, .mv (.t 9)⟩,
  ⟨some (22, true), some 30, .bin .sub (.t 29) (.c (.int .i64 1))⟩,
  ⟨some (22, true), some 31, .idx 2 (.t 28) (.t 30)⟩,
  ⟨some (22, true), some 32, .load true 2 (.t 31)⟩,
  ⟨some (22, true), some 33, .callv false (.t 23) [.t 27, .t 32]⟩,
  ⟨some (22, true), some 34, .bin .lss (.t 33) (.c (.int .i64 0))⟩,
  ⟨some (22, true), some 35, .un .not (.t 34)⟩,
  ⟨none, some 36, .pick (.t 22) (.t 35) (.c (.bool false))⟩]
def r130_6 : List SO := [
  ⟨none, some 37, .mv (.t 9)⟩,
  ⟨none, some 38, .bin .add (.t 37) (.c (.int .i64 1))⟩,
  ⟨none, some 9, .mv (.t 38)⟩]
def b130_1 : SC := .seq (.seq (.reg r130_5) (.cond (.t 36) (.skip) (.exit 2))) (.block 3 (.reg r130_6))
def r130_7 : List SO := [
  ⟨none, some 39, .mv (.t 9)⟩,
  ⟨none, some 40, .mv (.t 2)⟩,
  ⟨none, some 41, .bin .eql (.t 39) (.t 40)⟩]
def r130_8 : List SO := [
  ⟨none, some 8, .mv (.c (.bool true))⟩]
def r130_9 : List SO := [
  ⟨none, some 42, .mv (.t 2)⟩,
  ⟨none, some 43, .mv (.t 1)⟩,
  ⟨none, some 44, .bin .sub (.t 42) (.t 43)⟩,
  ⟨none, some 45, .bin .lss (.t 44) (.c (.int .i64 50))⟩]
def r130_10 : List SO := [
  ⟨none, some 8, .mv (.c (.bool false))⟩]
def r130_11 : List SO := [
  ⟨none, some 46, .mv (.t 0)⟩,
  ⟨none, some 47, .mv (.t 9)⟩,
  ⟨none, some 48, .mv (.t 0)⟩,
  ⟨none, some 49, .mv (.t 9)⟩,
  ⟨none, some 50, .bin .sub (.t 49) (.c (.int .i64 1))⟩,
  ⟨none, some 51, .mv (.t 0)⟩,
  ⟨none, some 52, .mv (.t 9)⟩,
  ⟨none, some 53, .bin .sub (.t 52) (.c (.int .i64 1))⟩,
  ⟨none, some 54, .idx 2 (.t 51) (.t 53)⟩,
  ⟨none, some 55, .load true 2 (.t 54)⟩,
  ⟨none, some 56, .mv (.t 0)⟩,
  ⟨none, some 57, .mv (.t 9)⟩,
  ⟨none, some 58, .idx 2 (.t 56) (.t 57)⟩,
  ⟨none, some 59, .load true 2 (.t 58)⟩,
  ⟨none, some 60, .idx 2 (.t 46) (.t 47)⟩,
  ⟨none, none, .store 2 (.t 60) (.t 55)⟩,
  ⟨none, some 61, .idx 2 (.t 48) (.t 50)⟩,
  ⟨none, none, .store 2 (.t 61) (.t 59)⟩]
def r130_12 : List SO := [
  ⟨none, some 62, .mv (.t 9)⟩,
  ⟨none, some 63, .mv (.t 1)⟩,
  ⟨none, some 64, .bin .sub (.t 62) (.t 63)⟩,
  ⟨none, some 65, .bin .geq (.t 64) (.c (.int .i64 2))⟩]
def r130_13 : List SO := [
  ⟨none, some 66, .mv (.t 9)⟩,
  ⟨none, some 67, .bin .sub (.t 66) (.c (.int .i64 1))⟩,
  ⟨none, some 11, .mv (.t 67)⟩]
def r130_14 : List SO := [
  ⟨none, some 68, .mv (.t 11)⟩,
  ⟨none, some 69, .bin .geq (.t 68) (.c (.int .i64 1))⟩]
def r130_16 : List SO := [
  ⟨none, some 72, .mv (.t 3)⟩,
  ⟨none, some 73, .mv (.t 0)⟩,
  ⟨none, some 74, .mv (.t 11)⟩,
  ⟨none, some 75, .idx 2 (.t 73) (.t 74)⟩,
  ⟨none, some 76, .load true 2 (.t 75)⟩,
  ⟨none, some 77, .mv (.t 0)⟩,
  ⟨none, some 78, .mv (.t 11)⟩,
  ⟨none, some 79, .bin .sub (.t 78) (.c (.int .i64 1))⟩,
  ⟨none, some 80, .idx 2 (.t 77) (.t 79)⟩,
  ⟨none, some 81, .load true 2 (.t 80)⟩,
  ⟨none, some 82, .callv false (.t 72) [.t 76, .t 81]⟩,
  ⟨none, some 83, .bin .lss (.t 82) (.c (.int .i64 0))⟩,
  ⟨none, some 84, .un .not (.t 83)⟩]
def r130_17 : List SO := [
  ⟨none, some 85, .mv (.t 0)⟩,
  ⟨none, some 86, .mv (.t 11)⟩,
  ⟨none, some 87, .mv (.t 0)⟩,
  ⟨none, some 88, .mv (.t 11)⟩,
  ⟨none, some 89, .bin .sub (.t 88) (.c (.int .i64 1))⟩,
  ⟨none, some 90, .mv (.t 0)⟩,
  ⟨none, some 91, .mv (.t 11)⟩,
  ⟨none, some 92, .bin .sub (.t 91) (.c (.int .i64 1))⟩,
  ⟨none, some 93, .idx 2 (.t 90) (.t 92)⟩,
  ⟨none, some 94, .load true 2 (.t 93)⟩,
  ⟨none, some 95, .mv (.t 0)⟩,
  ⟨none, some 96, .mv (.t 11)⟩,
  ⟨none, some 97, .idx 2 (.t 95) (.t 96)⟩,
  ⟨none, some 98, .load true 2 (.t 97)⟩,
  ⟨none, some 99, .idx 2 (.t 85) (.t 86)⟩,
  ⟨none, none, .store 2 (.t 99) (.t 94)⟩,
  ⟨none, some 100, .idx 2 (.t 87) (.t 89)⟩,
  ⟨none, none, .store 2 (.t 100) (.t 98)⟩]
def r130_15 : List SO := [
  ⟨none, some 70, .mv (.t 11)⟩,
  ⟨none, some 71, .bin .sub (.t 70) (.c (.int .i64 1))⟩,
  ⟨none, some 11, .mv (.t 71)⟩]
def b130_2 : SC := .seq (.seq (.reg r130_14) (.cond (.t 69) (.skip) (.exit 4))) (.seq (.block 5 (.seq (.seq (.reg r130_16) (.cond (.t 84) (.exit 4) (.skip))) (.reg r130_17))) (.reg r130_15))
def r130_18 : List SO := [
  ⟨none, some 101, .mv (.t 2)⟩,
  ⟨none, some 102, .mv (.t 9)⟩,
  ⟨none, some 103, .bin .sub (.t 101) (.t 102)⟩,
  ⟨none, some 104, .bin .geq (.t 103) (.c (.int .i64 2))⟩]
def r130_19 : List SO := [
  ⟨none, some 105, .mv (.t 9)⟩,
  ⟨none, some 106, .bin .add (.t 105) (.c (.int .i64 1))⟩,
  ⟨none, some 12, .mv (.t 106)⟩]
def r130_20 : List SO := [
  ⟨none, some 107, .mv (.t 12)⟩,
  ⟨none, some 108, .mv (.t 2)⟩,
  ⟨none, some 109, .bin .lss (.t 107) (.t 108)⟩]
def r130_22 : List SO := [
  ⟨none, some 112, .mv (.t 3)⟩,
  ⟨none, some 113, .mv (.t 0)⟩,
  ⟨none, some 114, .mv (.t 12)⟩,
  ⟨none, some 115, .idx 2 (.t 113) (.t 114)⟩,
  ⟨none, some 116, .load true 2 (.t 115)⟩,
  ⟨none, some 117, .mv (.t 0)⟩,
  ⟨none, some 118, .mv (.t 12)⟩,
  ⟨none, some 119, .bin .sub (.t 118) (.c (.int .i64 1))⟩,
  ⟨none, some 120, .idx 2 (.t 117) (.t 119)⟩,
  ⟨none, some 121, .load true 2 (.t 120)⟩,
  ⟨none, some 122, .callv false (.t 112) [.t 116, .t 121]⟩,
  ⟨none, some 123, .bin .lss (.t 122) (.c (.int .i64 0))⟩,
  ⟨none, some 124, .un .not (.t 123)⟩]
def r130_23 : List SO := [
  ⟨none, some 125, .mv (.t 0)⟩,
  ⟨none, some 126, .mv (.t 12)⟩,
  ⟨none, some 127, .mv (.t 0)⟩,
  ⟨none, some 128, .mv (.t 12)⟩,
  ⟨none, some 129, .bin .sub (.t 128) (.c (.int .i64 1))⟩,
  ⟨none, some 130, .mv (.t 0)⟩,
  ⟨none, some 131, .mv (.t 12)⟩,
  ⟨none, some 132, .bin .sub (.t 131) (.c (.int .i64 1))⟩,
  ⟨none, some 133, .idx 2 (.t 130) (.t 132)⟩,
  ⟨none, some 134, .load true 2 (.t 133)⟩,
  ⟨none, some 135, .mv (.t 0)⟩,
  ⟨none, some 136, .mv (.t 12)⟩,
  ⟨none, some 137, .idx 2 (.t 135) (.t 136)⟩,
  ⟨none, some 138, .load true 2 (.t 137)⟩,
  ⟨none, some 139, .idx 2 (.t 125) (.t 126)⟩,
  ⟨none, none, .store 2 (.t 139) (.t 134)⟩,
  ⟨none, some 140, .idx 2 (.t 127) (.t 129)⟩,
  ⟨none, none, .store 2 (.t 140) (.t 138)⟩]
def r130_21 : List SO := [
  ⟨none, some 110, .mv (.t 12)⟩,
  ⟨none, some 111, .bin .add (.t 110) (.c (.int .i64 1))⟩,
  ⟨none, some 12, .mv (.t 111)⟩]
def b130_3 : SC := .seq (.seq (.reg r130_20) (.cond (.t 109) (.skip) (.exit 6))) (.seq (.block 7 (.seq (.seq (.reg r130_22) (.cond (.t 124) (.exit 6) (.skip))) (.reg r130_23))) (.reg r130_21))
def r130_4 : List SO := [
  ⟨none, some 17, .mv (.t 10)⟩,
  ⟨none, some 18, .bin .add (.t 17) (.c (.int .i64 1))⟩,
  ⟨none, some 10, .mv (.t 18)⟩]
def b130_0 : SC := .seq (.seq (.reg r130_3) (.cond (.t 16) (.skip) (.exit 0))) (.seq (.block 1 (.seq (.block 2 (.loop b130_1)) (.seq (.seq (.reg r130_7) (.cond (.t 41) (.seq (.reg r130_8) (.ret)) (.skip))) (.seq (.seq (.reg r130_9) (.cond (.t 45) (.seq (.reg r130_10) (.ret)) (.skip))) (.seq (.reg r130_11) (.seq (.seq (.reg r130_12) (.cond (.t 65) (.seq (.reg r130_13) (.block 4 (.loop b130_2))) (.skip))) (.seq (.reg r130_18) (.cond (.t 104) (.seq (.reg r130_19) (.block 6 (.loop b130_3))) (.skip))))))))) (.reg r130_4))
def r130_24 : List SO := [
  ⟨none, some 8, .mv (.c (.bool false))⟩]
def s130 : SF := ⟨141, [.tmp 8], .seq (.reg r130_0) (.seq (.reg r130_1) (.seq (.seq (.reg r130_2) (.block 0 (.loop b130_0))) (.seq (.reg r130_24) (.ret))))⟩
theorem s130_ok : slimF Try.prog ⟨[94, 102, 103, 108, 109, 116, 119, 121, 125], []⟩ Try.f130 = some s130 := by kernel_rfl
end Go.Proofs.Ytngkckefanbhgaa

namespace Go.Proofs.Ytngkckefanbhgaa
open Go Go.Proofs
def r131_0 : List SO := [
  ⟨none, some 10, .mv (.c (.int .i64 0))⟩]
def r131_1 : List SO := [
  ⟨none, some 13, .mv (.t 0)⟩,
  ⟨none, some 14, .mv (.t 1)⟩,
  ⟨none, some 15, .mv (.t 0)⟩,
  ⟨none, some 16, .mv (.t 3)⟩,
  ⟨none, some 17, .mv (.t 0)⟩,
  ⟨none, some 18, .mv (.t 3)⟩,
  ⟨none, some 19, .idx 2 (.t 17) (.t 18)⟩,
  ⟨none, some 20, .load true 2 (.t 19)⟩,
  ⟨none, some 21, .mv (.t 0)⟩,
  ⟨none, some 22, .mv (.t 1)⟩,
  ⟨none, some 23, .idx 2 (.t 21) (.t 22)⟩,
  ⟨none, some 24, .load true 2 (.t 23)⟩,
  ⟨none, some 25, .idx 2 (.t 13) (.t 14)⟩,
  ⟨none, none, .store 2 (.t 25) (.t 20)⟩,
  ⟨none, some 26, .idx 2 (.t 15) (.t 16)⟩,
  ⟨none, none, .store 2 (.t 26) (.t 24)⟩]
def r131_2 : List SO := [
  ⟨none, some 27, .mv (.t 1)⟩,
  ⟨none, some 28, .bin .add (.t 27) (.c (.int .i64 1))⟩,
  ⟨none, some 29, .mv (.t 2)⟩,
  ⟨none, some 30, .bin .sub (.t 29) (.c (.int .i64 1))⟩,
  ⟨none, some 11, .mv (.t 28)⟩,
  ⟨none, some 12, .mv (.t 30)⟩]
def r131_3 : List SO := [
  ⟨none, some 31, .mv (.t 11)⟩,
  ⟨none, some 32, .mv (.t 12)⟩,
  ⟨none, some 33, .bin .leq (.t 31) (.t 32)⟩,
  ⟨none, some 34, .mv (.t 33)⟩,
  ⟨some (34, true), some 35, .mv (.t 4)⟩,
  ⟨some (34, true), some 36, .mv (.t 0)⟩,
  ⟨some (34, true), some 37, .mv (.t 1)⟩,
  ⟨some (34, true), some 38, .idx 2 (.t 36) (.t 37)⟩,
  ⟨some (34, true), some 39, .load true 2 (.t 38)⟩,
  ⟨some (34, true), some 40, .mv (.t 0)⟩,
  ⟨some (34, true), some 41, .mv (.t 11)⟩,
  ⟨some (34, true), some 42, .idx 2 (.t 40) (.t 41)⟩,
  ⟨some (34, true), some 43, .load true 2 (.t 42)⟩,
  ⟨some (34, true), some 44, .callv false (.t 35) [.t 39, .t 43]⟩,
  ⟨some (34, true), some 45, .bin .lss (.t 44) (.c (.int .i64 0))⟩,
  ⟨some (34, true), some 46, .un .not (.t 45)⟩,
  ⟨none, some 47, .pick (.t 34) (.t 46) (.c (.bool false))⟩]
def r131_4 : List SO := [
  ⟨none, some 48, .mv (.t 11)⟩,
  ⟨none, some 49, .bin .add (.t 48) (.c (.int .i64 1))⟩,
  ⟨none, some 11, .mv (.t 49)⟩]
def b131_1 : SC := .seq (.seq (.reg r131_3) (.cond (.t 47) (.skip) (.exit 2))) (.block 3 (.reg r131_4))
def r131_5 : List SO := [
  ⟨none, some 50, .mv (.t 11)⟩,
  ⟨none, some 51, .mv (.t 12)⟩,
  ⟨none, some 52, .bin .leq (.t 50) (.t 51)⟩,
  ⟨none, some 53, .mv (.t 52)⟩,
  ⟨some (53, true), some 54, .mv (.t 4)⟩,
  ⟨some (53, true), some 55, .mv (.t 0)⟩,
  ⟨some (53, true), some 56, .mv (.t 1)⟩,
  ⟨some (53, true), some 57, .idx 2 (.t 55) (.t 56)⟩,
  ⟨some (53, true), some 58, .load true 2 (.t 57)⟩,
  ⟨some (53, true), some 59, .mv (.t 0)⟩,
  ⟨some (53, true), some 60, .mv (.t 12)⟩,
  ⟨some (53, true), some 61, .idx 2 (.t 59) (.t 60)⟩,
  ⟨some (53, true), some 62, .load true 2 (.t 61)⟩,
  ⟨some (53, true), some 63, .callv false (.t 54) [.t 58, .t 62]⟩,
  ⟨some (53, true), some 64, .bin .lss (.t 63) (.c (.int .i64 0))⟩,
  ⟨none, some 65, .pick (.t 53) (.t 64) (.c (.bool false))⟩]
def r131_6 : List SO := [
  ⟨none, some 66, .mv (.t 12)⟩,
  ⟨none, some 67, .bin .sub (.t 66) (.c (.int .i64 1))⟩,
  ⟨none, some 12, .mv (.t 67)⟩]
def b131_2 : SC := .seq (.seq (.reg r131_5) (.cond (.t 65) (.skip) (.exit 4))) (.block 5 (.reg r131_6))
def r131_7 : List SO := [
  ⟨none, some 68, .mv (.t 11)⟩,
  ⟨none, some 69, .mv (.t 12)⟩,
  ⟨none, some 70, .bin .gtr (.t 68) (.t 69)⟩]
def r131_8 : List SO := [
  ⟨none, some 71, .mv (.t 0)⟩,
  ⟨none, some 72, .mv (.t 11)⟩,
  ⟨none, some 73, .mv (.t 0)⟩,
  ⟨none, some 74, .mv (.t 12)⟩,
  ⟨none, some 75, .mv (.t 0)⟩,
  ⟨none, some 76, .mv (.t 12)⟩,
  ⟨none, some 77, .idx 2 (.t 75) (.t 76)⟩,
  ⟨none, some 78, .load true 2 (.t 77)⟩,
  ⟨none, some 79, .mv (.t 0)⟩,
  ⟨none, some 80, .mv (.t 11)⟩,
  ⟨none, some 81, .idx 2 (.t 79) (.t 80)⟩,
  ⟨none, some 82, .load true 2 (.t 81)⟩,
  ⟨none, some 83, .idx 2 (.t 71) (.t 72)⟩,
  ⟨none, none, .store 2 (.t 83) (.t 78)⟩,
  ⟨none, some 84, .idx 2 (.t 73) (.t 74)⟩,
  ⟨none, none, .store 2 (.t 84) (.t 82)⟩]
def r131_9 : List SO := [
  ⟨none, some 85, .mv (.t 11)⟩,
  ⟨none, some 86, .bin .add (.t 85) (.c (.int .i64 1))⟩,
  ⟨none, some 11, .mv (.t 86)⟩]
def r131_10 : List SO := [
  ⟨none, some 87, .mv (.t 12)⟩,
  ⟨none, some 88, .bin .sub (.t 87) (.c (.int .i64 1))⟩,
  ⟨none, some 12, .mv (.t 88)⟩]
def b131_0 : SC := .block 1 (.seq (.block 2 (.loop b131_1)) (.seq (.block 4 (.loop b131_2)) (.seq (.seq (.reg r131_7) (.cond (.t 70) (.exit 0) (.skip))) (.seq (.reg r131_8) (.seq (.reg r131_9) (.reg r131_10))))))
def r131_11 : List SO := [
  ⟨none, some 89, .mv (.t 11)⟩,
  ⟨none, some 10, .mv (.t 89)⟩]
def s131 : SF := ⟨90, [.tmp 10], .seq (.reg r131_0) (.seq (.reg r131_1) (.seq (.reg r131_2) (.seq (.block 0 (.loop b131_0)) (.seq (.reg r131_11) (.ret)))))⟩
theorem s131_ok : slimF Try.prog ⟨[94, 102, 103, 108, 109, 116, 119, 121, 125], []⟩ Try.f131 = some s131 := by kernel_rfl
end Go.Proofs.Ytngkckefanbhgaa

namespace Go.Proofs.Ytngkckefanbhgaa
open Go Go.Proofs
def r132_0 : List SO := [
  ⟨none, some 10, .mv (.c (.int .i64 0))⟩,
  ⟨none, some 11, .mv (.c (.bool false))⟩]
def r132_1 : List SO := [
  ⟨none, some 14, .mv (.t 0)⟩,
  ⟨none, some 15, .mv (.t 1)⟩,
  ⟨none, some 16, .mv (.t 0)⟩,
  ⟨none, some 17, .mv (.t 3)⟩,
  ⟨none, some 18, .mv (.t 0)⟩,
  ⟨none, some 19, .mv (.t 3)⟩,
  ⟨none, some 20, .idx 2 (.t 18) (.t 19)⟩,
  ⟨none, some 21, .load true 2 (.t 20)⟩,
  ⟨none, some 22, .mv (.t 0)⟩,
  ⟨none, some 23, .mv (.t 1)⟩,
  ⟨none, some 24, .idx 2 (.t 22) (.t 23)⟩,
  ⟨none, some 25, .load true 2 (.t 24)⟩,
  ⟨none, some 26, .idx 2 (.t 14) (.t 15)⟩,
  ⟨none, none, .store 2 (.t 26) (.t 21)⟩,
  ⟨none, some 27, .idx 2 (.t 16) (.t 17)⟩,
  ⟨none, none, .store 2 (.t 27) (.t 25)⟩]
def r132_2 : List SO := [
  ⟨none, some 28, .mv (.t 1)⟩,
  ⟨none, some 29, .bin .add (.t 28) (.c (.int .i64 1))⟩,
  ⟨none, some 30, .mv (.t 2)⟩,
  ⟨none, some 31, .bin .sub (.t 30) (.c (.int .i64 1))⟩,
  ⟨none, some 12, .mv (.t 29)⟩,
  ⟨none, some 13, .mv (.t 31)⟩]
def r132_3 : List SO := [
  ⟨none, some 32, .mv (.t 12)⟩,
  ⟨none, some 33, .mv (.t 13)⟩,
  ⟨none, some 34, .bin .leq (.t 32) (.t 33)⟩,
  ⟨none, some 35, .mv (.t 34)⟩,
  ⟨some (35, true), some 36, .mv (.t 4)⟩,
  ⟨some (35, true), some 37, .mv (.t 0)⟩,
  ⟨some (35, true), some 38, .mv (.t 12)⟩,
  ⟨some (35, true), some 39, .idx 2 (.t 37) (.t 38)⟩,
  ⟨some (35, true), some 40, .load true 2 (.t 39)⟩,
  ⟨some (35, true), some 41, .mv (.t 0)⟩,
  ⟨some (35, true), some 42, .mv (.t 1)⟩,
  ⟨some (35, true), some 43, .idx 2 (.t 41) (.t 42)⟩,
  ⟨some (35, true), some 44, .load true 2 (.t 43)⟩,
  ⟨some (35, true), some 45, .callv false (.t 36) [.t 40, .t 44]⟩,
  ⟨some (35, true), some 46, .bin .lss (.t 45) (.c (.int .i64 0))⟩,
  ⟨none, some 47, .pick (.t 35) (.t 46) (.c (.bool false))⟩]
def r132_4 : List SO := [
  ⟨none, some 48, .mv (.t 12)⟩,
  ⟨none, some 49, .bin .add (.t 48) (.c (.int .i64 1))⟩,
  ⟨none, some 12, .mv (.t 49)⟩]
def b132_0 : SC := .seq (.seq (.reg r132_3) (.cond (.t 47) (.skip) (.exit 0))) (.block 1 (.reg r132_4))
def r132_5 : List SO := [
  ⟨none, some 50, .mv (.t 12)⟩,
  ⟨none, some 51, .mv (.t 13)⟩,
  ⟨none, some 52, .bin .leq (.t 50) (.t 51)⟩,
  ⟨none, some 53, .mv (.t 52)⟩,
  ⟨some (53, true), some 54, .mv (.t 4)⟩,
  ⟨some (53, true), some 55, .mv (.t 0)⟩,
  ⟨some (53, true), some 56, .mv (.t 13)⟩,
  ⟨some (53, true), some 57, .idx 2 (.t 55) (.t 56)⟩,
  ⟨some (53, true), some 58, .load true 2 (.t 57)⟩,
  ⟨some (53, true), some 59, .mv (.t 0)⟩,
  ⟨some (53, true), some 60, .mv (.t 1)⟩,
  ⟨some (53, true), some 61, .idx 2 (.t 59) (.t 60)⟩,
  ⟨some (53, true), some 62, .load true 2 (.t 61)⟩,
  ⟨some (53, true), some 63, .callv false (.t 54) [.t 58, .t 62]⟩,
  ⟨some (53, true), some 64, .bin .lss (.t 63) (.c (.int .i64 0))⟩,
  ⟨some (53, true), some 65, .un .not (.t 64)⟩,
  ⟨none, some 66, .pick (.t 53) (.t 65) (.c (.bool false))⟩]
def r132_6 : List SO := [
  ⟨none, some 67, .mv (.t 13)⟩,
  ⟨none, some 68, .bin .sub (.t 67) (.c (.int .i64 1))⟩,
  ⟨none, some 13, .mv (.t 68)⟩]
def b132_1 : SC := .seq (.seq (.reg r132_5) (.cond (.t 66) (.skip) (.exit 2))) (.block 3 (.reg r132_6))
def r132_7 : List SO := [
  ⟨none, some 69, .mv (.t 12)⟩,
  ⟨none, some 70, .mv (.t 13)⟩,
  ⟨none, some 71, .bin .gtr (.t 69) (.t 70)⟩]
def r132_8 : List SO := [
  ⟨none, some 72, .mv (.t 0)⟩,
  ⟨none, some 73, .mv (.t 13)⟩,
  ⟨none, some 74, .mv (.t 0)⟩,
  ⟨none, some 75, .mv (.t 1)⟩,
  ⟨none, some 76, .mv (.t 0)⟩,
  ⟨none, some 77, .mv (.t 1)⟩,
  ⟨none, some 78, .idx 2 (.t 76) (.t 77)⟩,
  ⟨none, some 79, .load true 2 (.t 78)⟩,
  ⟨none, some 80, .mv (.t 0)⟩,
  ⟨none, some 81, .mv (.t 13)⟩,
  ⟨none, some 82, .idx 2 (.t 80) (.t 81)⟩,
  ⟨none, some 83, .load true 2 (.t 82)⟩,
  ⟨none, some 84, .idx 2 (.t 72) (.t 73)⟩,
  ⟨none, none, .store 2 (.t 84) (.t 79)⟩,
  ⟨none, some 85, .idx 2 (.t 74) (.t 75)⟩,
  ⟨none, none, .store 2 (.t 85) (.t 83)⟩]
def r132_9 : List SO := [
  ⟨none, some 86, .mv (.t 13)⟩,
  ⟨none, some 10, .mv (.t 86)⟩,
  ⟨none, some 11, .mv (.c (.bool true))⟩]
def r132_10 : List SO := [
  ⟨none, some 87, .mv (.t 0)⟩,
  ⟨none, some 88, .mv (.t 12)⟩,
  ⟨none, some 89, .mv (.t 0)⟩,
  ⟨none, some 90, .mv (.t 13)⟩,
  ⟨none, some 91, .mv (.t 0)⟩,
  ⟨none, some 92, .mv (.t 13)⟩,
  ⟨none, some 93, .idx 2 (.t 91) (.t 92)⟩,
  ⟨none, some 94, .load true 2 (.t 93)⟩,
  ⟨none, some 95, .mv (.t 0)⟩,
  ⟨none, some 96, .mv (.t 12)⟩,
  ⟨none, some 97, .idx 2 (.t 95) (.t 96)⟩,
  ⟨none, some 98, .load true 2 (.t 97)⟩,
  ⟨none, some 99, .idx 2 (.t 87) (.t 88)⟩,
  ⟨none, none, .store 2 (.t 99) (.t 94)⟩,
  ⟨none, some 100, .idx 2 (.t 89) (.t 90)⟩,
  ⟨none, none, .store 2 (.t 100) (.t 98)⟩]
def r132_11 : List SO := [
  ⟨none, some 101, .mv (.t 12)⟩,
  ⟨none, some 102, .bin .add (.t 101) (.c (.int .i64 1))⟩,
  ⟨none, some 12, .mv (.t 102)⟩]
def r132_12 : List SO := [
  ⟨none, some 103, .mv (.t 13)⟩,
  ⟨none, some 104, .bin .sub (.t 103) (.c (.int .i64 1))⟩,
  ⟨none, some 13, .mv (.t 104)⟩]
def r132_13 : List SO := [
  ⟨none, some 105, .mv (.t 12)⟩,
  ⟨none, some 106, .mv (.t 13)⟩,
  ⟨none, some 107, .bin .leq (.t 105) (.t 106)⟩,
  ⟨none, some 108, .mv (.t 107)⟩,
  ⟨some (108, true), some 109, .mv (.t 4)⟩,
  ⟨some (108, true), some 110, .mv (.t 0)⟩,
  ⟨some (108, true), some 111, .mv (.t 12)⟩,
  ⟨some (108, true), some 112, .idx 2 (.t 110) (.t 111)⟩,
  ⟨some (108, true), some 113, .load true 2 (.t 112)⟩,
  ⟨some (108, true), some 114, .mv (.t 0)⟩,
  ⟨some (108, true), some 115, .mv (.t 1)⟩,
  ⟨some (108, true), some 116, .idx 2 (.t 114) (.t 115)⟩,
  ⟨some (108, true), some 117, .load true 2 (.t 116)⟩,
  ⟨some (108, true), some 118, .callv false (.t 109) [.t 113, .t 117]⟩,
  ⟨some (108, true), some 119, .bin .lss (.t 118) (.c (.int .i64 0))⟩,
  ⟨none, some 120, .pick (.t 108) (.t 119) (.c (.bool false))⟩]
def r132_14 : List SO := [
  ⟨none, some 121, .mv (.t 12)⟩,
  ⟨none, some 122, .bin .add (.t 121) (.c (.int .i64 1))⟩,
  ⟨none, some 12, .mv (.t 122)⟩]
def b132_3 : SC := .seq (.seq (.reg r132_13) (.cond (.t 120) (.skip) (.exit 6))) (.block 7 (.reg r132_14))
def r132_15 : List SO := [
  ⟨none, some 123, .mv (.t 12)⟩,
  ⟨none, some 124, .mv (.t 13)⟩,
  ⟨none, some 125, .bin .leq (.t 123) (.t 124)⟩,
  ⟨none, some 126, .mv (.t 125)⟩,
  ⟨some (126, true), some 127, .mv (.t 4)⟩,
  ⟨some (126, true), some 128, .mv (.t 0)⟩,
  ⟨some (126, true), some 129, .mv (.t 13)⟩,
  ⟨some (126, true), some 130, .idx 2 (.t 128) (.t 129)⟩,
  ⟨some (126, true), some 131, .load true 2 (.t 130)⟩,
  ⟨some (126, true), some 132, .mv (.t 0)⟩,
  ⟨some (126, true), some 133, .mv (.t 1)⟩,
  ⟨some (126, true), some 134, .idx 2 (.t 132) (.t 133)⟩,
  ⟨some (126, true), some 135, .load true 2 (.t 134)⟩,
  ⟨some (126, true), some 136, .callv false (.t 127) [.t 131, .t 135]⟩,
  ⟨some (126, true), some 137, .bin .lss (.t 136) (.c (.int .i64 0))⟩,
  ⟨some (126, true), some 138, .un .not (.t 137)⟩,
  ⟨none, some 139, .pick (.t 126) (.t 138) (.c (.bool false))⟩]
def r132_16 : List SO := [
  ⟨none, some 140, .mv (.t 13)⟩,
  ⟨none, some 141, .bin .sub (.t 140) (.c (.int .i64 1))⟩,
  ⟨none, some 13, .mv (.t 141)⟩]
def b132_4 : SC := .seq (.seq (.reg r132_15) (.cond (.t 139) (.skip) (.exit 8))) (.block 9 (.reg r132_16))
def r132_17 : List SO := [
  ⟨none, some 142, .mv (.t 12)⟩,
  ⟨none, some 143, .mv (.t 13)⟩,
  ⟨none, some 144, .bin .gtr (.t 142) (.t 143)⟩]
def r132_18 : List SO := [
  ⟨none, some 145, .mv (.t 0)⟩,
  ⟨none, some 146, .mv (.t 12)⟩,
  ⟨none, some 147, .mv (.t 0)⟩,
  ⟨none, some 148, .mv (.t 13)⟩,
  ⟨none, some 149, .mv (.t 0)⟩,
  ⟨none, some 150, .mv (.t 13)⟩,
  ⟨none, some 151, .idx 2 (.t 149) (.t 150)⟩,
  ⟨none, some 152, .load true 2 (.t 151)⟩,
  ⟨none, some 153, .mv (.t 0)⟩,
  ⟨none, some 154, .mv (.t 12)⟩,
  ⟨none, some 155, .idx 2 (.t 153) (.t 154)⟩,
  ⟨none, some 156, .load true 2 (.t 155)⟩,
  ⟨none, some 157, .idx 2 (.t 145) (.t 146)⟩,
  ⟨none, none, .store 2 (.t 157) (.t 152)⟩,
  ⟨none, some 158, .idx 2 (.t 147) (.t 148)⟩,
  ⟨none, none, .store 2 (.t 158) (.t 156)⟩]
def r132_19 : List SO := [
  ⟨none, some 159, .mv (.t 12)⟩,
  ⟨none, some 160, .bin .add (.t 159) (.c (.int .i64 1))⟩,
  ⟨none, some 12, .mv (.t 160)⟩]
def r132_20 : List SO := [
  ⟨none, some 161, .mv (.t 13)⟩,
  ⟨none, some 162, .bin .sub (.t 161) (.c (.int .i64 1))⟩,
  ⟨none, some 13, .mv (.t 162)⟩]
def b132_2 : SC := .block 5 (.seq (.block 6 (.loop b132_3)) (.seq (.block 8 (.loop b132_4)) (.seq (.seq (.reg r132_17) (.cond (.t 144) (.exit 4) (.skip))) (.seq (.reg r132_18) (.seq (.reg r132_19) (.reg r132_20))))))
def r132_21 : List SO := [
  ⟨none, some 163, .mv (.t 0)⟩,
  ⟨none, some 164, .mv (.t 13)⟩,
  ⟨none, some 165, .mv (.t 0)⟩,
  ⟨none, some 166, .mv (.t 1)⟩,
  ⟨none, some 167, .mv (.t 0)⟩,
  ⟨none, some 168, .mv (.t 1)⟩,
  ⟨none, some 169, .idx 2 (.t 167) (.t 168)⟩,
  ⟨none, some 170, .load true 2 (.t 169)⟩,
  ⟨none, some 171, .mv (.t 0)⟩,
  ⟨none, some 172, .mv (.t 13)⟩,
  ⟨none, some 173, .idx 2 (.t 171) (.t 172)⟩,
  ⟨none, some 174, .load true 2 (.t 173)⟩,
  ⟨none, some 175, .idx 2 (.t 163) (.t 164)⟩,
  ⟨none, none, .store 2 (.t 175) (.t 170)⟩,
  ⟨none, some 176, .idx 2 (.t 165) (.t 166)⟩,
  ⟨none, none, .store 2 (.t 176) (.t 174)⟩]
def r132_22 : List SO := [
  ⟨none, some 177, .mv (.t 13)⟩,
  ⟨none, some 10, .mv (.t 177)⟩,
  ⟨none, some 11, .mv (.c (.bool false))⟩]
def s132 : SF := ⟨178, [.tmp 10, .tmp 11], .seq (.reg r132_0) (.seq (.reg r132_1) (.seq (.reg r132_2) (.seq (.block 0 (.loop b132_0)) (.seq (.block 2 (.loop b132_1)) (.seq (.seq (.reg r132_7) (.cond (.t 71) (.seq (.reg r132_8) (.seq (.reg r132_9) (.ret))) (.skip))) (.seq (.reg r132_10) (.seq (.reg r132_11) (.seq (.reg r132_12) (.seq (.block 4 (.loop b132_2)) (.seq (.reg r132_21) (.seq (.reg r132_22) (.ret))))))))))))⟩
theorem s132_ok : slimF Try.prog ⟨[94, 102, 103, 108, 109, 116, 119, 121, 125], []⟩ Try.f132 = some s132 := by kernel_rfl
end Go.Proofs.Ytngkckefanbhgaa

namespace Go.Proofs.Ytngkckefanbhgaa
open Go Go.Proofs
def r133_0 : List SO := [
  ⟨none, some 2, .mv (.c (.int .i64 0))⟩]
def r133_1 : List SO := [
  ⟨none, some 3, .mv (.t 0)⟩,
  ⟨none, some 4, .bin .geq (.t 3) (.c (.int .u32 65536))⟩]
def r133_2 : List SO := [
  ⟨none, some 5, .mv (.t 0)⟩,
  ⟨none, some 6, .bin .shr (.t 5) (.c (.int .u64 16))⟩,
  ⟨none, some 0, .mv (.t 6)⟩]
def r133_3 : List SO := [
  ⟨none, some 2, .mv (.c (.int .i64 16))⟩]
def r133_4 : List SO := [
  ⟨none, some 7, .mv (.t 0)⟩,
  ⟨none, some 8, .bin .geq (.t 7) (.c (.int .u32 256))⟩]
def r133_5 : List SO := [
  ⟨none, some 9, .mv (.t 0)⟩,
  ⟨none, some 10, .bin .shr (.t 9) (.c (.int .u64 8))⟩,
  ⟨none, some 0, .mv (.t 10)⟩]
def r133_6 : List SO := [
  ⟨none, some 11, .mv (.t 2)⟩,
  ⟨none, some 12, .bin .add (.t 11) (.c (.int .i64 8))⟩,
  ⟨none, some 2, .mv (.t 12)⟩]
def r133_7 : List SO := [
  ⟨none, some 13, .mv (.t 2)⟩,
  ⟨none, some 14, .mv (.t 0)⟩,
  ⟨none, some 15, .conv .u8 (.t 14)⟩,
  ⟨none, some 16, .sidx (.c (.str [0, 1, 2, 2, 3, 3, 3, 3, 4, 4, 4, 4, 4, 4, 4, 4, 5, 5, 5, 5, 5, 5, 5, 5, 5, 5, 5, 5, 5, 5, 5, 5, 6, 6, 6, 6, 6, 6, 6, 6, 6, 6, 6, 6, 6, 6, 6, 6, 6, 6, 6, 6, 6, 6, 6, 6, 6, 6, 6, 6, 6, 6, 6, 6, 7, 7, 7, 7, 7, 7, 7, 7, 7, 7, 7, 7, 7, 7, 7, 7, 7, 7, 7, 7, 7, 7, 7, 7, 7, 7, 7, 7, 7, 7, 7, 7, 7, 7, 7, 7, 7, 7, 7, 7, 7, 7, 7, 7, 7, 7, 7, 7, 7, 7, 7, 7, 7, 7, 7, 7, 7, 7, 7, 7, 7, 7, 7, 7, 8, 8, 8, 8, 8, 8, 8, 8, 8, 8, 8, 8, 8, 8, 8, 8, 8, 8, 8, 8, 8, 8, 8, 8, 8, 8, 8, 8, 8, 8, 8, 8, 8, 8, 8, 8, 8, 8, 8, 8, 8, 8, 8, 8, 8, 8, 8, 8, 8, 8, 8, 8, 8, 8, 8, 8, 8, 8, 8, 8, 8, 8, 8, 8, 8, 8, 8, 8, 8, 8, 8, 8, 8, 8, 8, 8, 8, 8, 8, 8, 8, 8, 8, 8, 8, 8, 8, 8, 8, 8, 8, 8, 8, 8, 8, 8, 8, 8, 8, 8, 8, 8, 8, 8, 8, 8, 8, 8, 8, 8, 8, 8, 8, 8, 8, 8, 8, 8, 8, 8, 8, 8, 8, 8, 8, 8, 8, 8])) (.t 15)⟩,
  ⟨none, some 17, .conv .i64 (.t 16)⟩,
  ⟨none, some 18, .bin .add (.t 13) (.t 17)⟩,
  ⟨none, some 2, .mv (.t 18)⟩]
def s133 : SF := ⟨19, [.tmp 2], .seq (.reg r133_0) (.seq (.seq (.reg r133_1) (.cond (.t 4) (.seq (.reg r133_2) (.reg r133_3)) (.skip))) (.seq (.seq (.reg r133_4) (.cond (.t 8) (.seq (.reg r133_5) (.reg r133_6)) (.skip))) (.seq (.reg r133_7) (.ret))))⟩
theorem s133_ok : slimF Try.prog ⟨[94, 102, 103, 108, 109, 116, 119, 121, 125], []⟩ Try.f133 = some s133 := by kernel_rfl
end Go.Proofs.Ytngkckefanbhgaa

namespace Go.Proofs.Ytngkckefanbhgaa
open Go Go.Proofs
def r134_0 : List SO := [
  ⟨none, some 2, .mv (.c (.int .i64 0))⟩]
def r134_1 : List SO := [
  ⟨none, some 3, .mv (.t 0)⟩,
  ⟨none, some 4, .bin .geq (.t 3) (.c (.int .u64 4294967296))⟩]
def r134_2 : List SO := [
  ⟨none, some 5, .mv (.t 0)⟩,
  ⟨none, some 6, .bin .shr (.t 5) (.c (.int .u64 32))⟩,
  ⟨none, some 0, .mv (.t 6)⟩]
def r134_3 : List SO := [
  ⟨none, some 2, .mv (.c (.int .i64 32))⟩]
def r134_4 : List SO := [
  ⟨none, some 7, .mv (.t 0)⟩,
  ⟨none, some 8, .bin .geq (.t 7) (.c (.int .u64 65536))⟩]
def r134_5 : List SO := [
  ⟨none, some 9, .mv (.t 0)⟩,
  ⟨none, some 10, .bin .shr (.t 9) (.c (.int .u64 16))⟩,
  ⟨none, some 0, .mv (.t 10)⟩]
def r134_6 : List SO := [
  ⟨none, some 11, .mv (.t 2)⟩,
  ⟨none, some 12, .bin .add (.t 11) (.c (.int .i64 16))⟩,
  ⟨none, some 2, .mv (.t 12)⟩]
def r134_7 : List SO := [
  ⟨none, some 13, .mv (.t 0)⟩,
  ⟨none, some 14, .bin .geq (.t 13) (.c (.int .u64 256))⟩]
def r134_8 : List SO := [
  ⟨none, some 15, .mv (.t 0)⟩,
  ⟨none, some 16, .bin .shr (.t 15) (.c (.int .u64 8))⟩,
  ⟨none, some 0, .mv (.t 16)⟩]
def r134_9 : List SO := [
  ⟨none, some 17, .mv (.t 2)⟩,
  ⟨none, some 18, .bin .add (.t 17) (.c (.int .i64 8))⟩,
  ⟨none, some 2, .mv (.t 18)⟩]
def r134_10 : List SO := [
  ⟨none, some 19, .mv (.t 2)⟩,
  ⟨none, some 20, .mv (.t 0)⟩,
  ⟨none, some 21, .conv .u8 (.t 20)⟩,
  ⟨none, some 22, .sidx (.c (.str [0, 1, 2, 2, 3, 3, 3, 3, 4, 4, 4, 4, 4, 4, 4, 4, 5, 5, 5, 5, 5, 5, 5, 5, 5, 5, 5, 5, 5, 5, 5, 5, 6, 6, 6, 6, 6, 6, 6, 6, 6, 6, 6, 6, 6, 6, 6, 6, 6, 6, 6, 6, 6, 6, 6, 6, 6, 6, 6, 6, 6, 6, 6, 6, 7, 7, 7, 7, 7, 7, 7, 7, 7, 7, 7, 7, 7, 7, 7, 7, 7, 7, 7, 7, 7, 7, 7, 7, 7, 7, 7, 7, 7, 7, 7, 7, 7, 7, 7, 7, 7, 7, 7, 7, 7, 7, 7, 7, 7, 7, 7, 7, 7, 7, 7, 7, 7, 7, 7, 7, 7, 7, 7, 7, 7, 7, 7, 7, 8, 8, 8, 8, 8, 8, 8, 8, 8, 8, 8, 8, 8, 8, 8, 8, 8, 8, 8, 8, 8, 8, 8, 8, 8, 8, 8, 8, 8, 8, 8, 8, 8, 8, 8, 8, 8, 8, 8, 8, 8, 8, 8, 8, 8, 8, 8, 8, 8, 8, 8, 8, 8, 8, 8, 8, 8, 8, 8, 8, 8, 8, 8, 8, 8, 8, 8, 8, 8, 8, 8, 8, 8, 8, 8, 8, 8, 8, 8, 8, 8, 8, 8, 8, 8, 8, 8, 8, 8, 8, 8, 8, 8, 8, 8, 8, 8, 8, 8, 8, 8, 8, 8, 8, 8, 8, 8, 8, 8, 8, 8, 8, 8, 8, 8, 8, 8, 8, 8, 8, 8, 8, 8, 8, 8, 8, 8, 8])) (.t 21)⟩,
  ⟨none, some 23, .conv .i64 (.t 22)⟩,
  ⟨none, some 24, .bin .add (.t 19) (.t 23)⟩,
  ⟨none, some 2, .mv (.t 24)⟩]
def s134 : SF := ⟨25, [.tmp 2], .seq (.reg r134_0) (.seq (.seq (.reg r134_1) (.cond (.t 4) (.seq (.reg r134_2) (.reg r134_3)) (.skip))) (.seq (.seq (.reg r134_4) (.cond (.t 8) (.seq (.reg r134_5) (.reg r134_6)) (.skip))) (.seq (.seq (.reg r134_7) (.cond (.t 14) (.seq (.reg r134_8) (.reg r134_9)) (.skip))) (.seq (.reg r134_10) (.ret)))))⟩
theorem s134_ok : slimF Try.prog ⟨[94, 102, 103, 108, 109, 116, 119, 121, 125], []⟩ Try.f134 = some s134 := by kernel_rfl
end Go.Proofs.Ytngkckefanbhgaa

namespace Go.Proofs.Ytngkckefanbhgaa
open Go Go.Proofs
def r136_0 : List SO := [
  ⟨none, some 12, .mv (.t 1)⟩,
  ⟨none, some 10, .mv (.t 12)⟩]
def r136_1 : List SO := [
  ⟨none, some 13, .mv (.t 10)⟩,
  ⟨none, some 14, .bin .mul (.c (.int .i64 2)) (.t 13)⟩,
  ⟨none, some 15, .bin .add (.t 14) (.c (.int .i64 1))⟩,
  ⟨none, some 11, .mv (.t 15)⟩]
def r136_2 : List SO := [
  ⟨none, some 16, .mv (.t 11)⟩,
  ⟨none, some 17, .mv (.t 2)⟩,
  ⟨none, some 18, .bin .geq (.t 16) (.t 17)⟩]
def r136_3 : List SO := [
  ⟨none, some 19, .mv (.t 11)⟩,
  ⟨none, some 20, .bin .add (.t 19) (.c (.int .i64 1))⟩,
  ⟨none, some 21, .mv (.t 2)⟩,
  ⟨none, some 22, .bin .lss (.t 20) (.t 21)⟩,
  ⟨none, some 23, .mv (.t 22)⟩,
  ⟨some (23, true), some 24, .mv (.t 4)⟩,
  ⟨some (23, true), some 25, .mv (.t 0)⟩,
  ⟨some (23, true), some 26, .mv (.t 3)⟩,
  ⟨some (23, true), some 27, .mv (.t 11)⟩,
  ⟨some (23, true), some 28, .bin .add (.t 26) (.t 27)⟩,
  ⟨some (23, true), some 29, .idx 2 (.t 25) (.t 28)⟩,
  ⟨some (23, true), some 30, .load true 2 (.t 29)⟩,
  ⟨some (23, true), some 31, .mv (.t 0)⟩,
  ⟨some (23, true), some 32, .mv (.t 3)⟩,
  ⟨some (23, true), some 33, .mv (.t 11)⟩,
  ⟨some (23, true), some 34, .bin .add (.t 32) (.t 33)⟩,
  ⟨some (23, true), some 35, .bin .add (.t 34) (.c (.int .i64 1))⟩,
  ⟨some (23, true), some 36, .idx 2 (.t 31) (.t 35)⟩,
  ⟨some (23, true), some 37, .load true 2 (.t 36)⟩,
  ⟨some (23, true), some 38, .callv false (.t 24) [.t 30, .t 37]⟩,
  ⟨some (23, true), some 39, .bin .lss (.t 38) (.c (.int .i64 0))⟩,
  ⟨none, some 40, .pick (.t 23) (.t 39) (.c (.bool false))⟩]
def r136_4 : List SO := [
  ⟨none, some 41, .mv (.t 11)⟩,
  ⟨none, some 42, .bin .add (.t 41) (.c (.int .i64 1))⟩,
  ⟨none, some 11, .mv (.t 42)⟩]
def r136_5 : List SO := [
  ⟨none, some 43, .mv (.t 4)⟩,
  ⟨none, some 44, .mv (.t 0)⟩,
  ⟨none, some 45, .mv (.t 3)⟩,
  ⟨none, some 46, .mv (.t 10)⟩,
  ⟨none, some 47, .bin .add (.t 45) (.t 46)⟩,
  ⟨none, some 48, .idx 2 (.t 44) (.t 47)⟩,
  ⟨none, some 49, .load true 2 (.t 48)⟩,
  ⟨none, some 50, .mv (.t 0)⟩,
  ⟨none, some 51, .mv (.t 3)⟩,
  ⟨none, some 52, .mv (.t 11)⟩,
  ⟨none, some 53, .bin .add (.t 51) (.t 52)⟩,
  ⟨none, some 54, .idx 2 (.t 50) (.t 53)⟩,
  ⟨none, some 55, .load true 2 (.t 54)⟩,
  ⟨none, some 56, .callv false (.t 43) [.t 49, .t 55]⟩,
  ⟨none, some 57, .bin .lss (.t 56) (.c (.int .i64 0))⟩,
  ⟨none, some 58, .un .not (.t 57)⟩]
def r136_6 : List SO := [
  ⟨none, some 59, .mv (.t 0)⟩,
  ⟨none, some 60, .mv (.t 3)⟩,
  ⟨none, some 61, .mv (.t 10)⟩,
  ⟨none, some 62, .bin .add (.t 60) (.t 61)⟩,
  ⟨none, some 63, .mv (.t 0)⟩,
  ⟨none, some 64, .mv (.t 3)⟩,
  ⟨none, some 65, .mv (.t 11)⟩,
  ⟨none, some 66, .bin .add (.t 64) (.t 65)⟩,
  ⟨none, some 67, .mv (.t 0)⟩,
  ⟨none, some 68, .mv (.t 3)⟩,
  ⟨none, some 69, .mv (.t 11)⟩,
  ⟨none, some 70, .bin .add (.t 68) (.t 69)⟩,
  ⟨none, some 71, .idx 2 (.t 67) (.t 70)⟩,
  ⟨none, some 72, .load true 2 (.t 71)⟩,
  ⟨none, some 73, .mv (.t 0)⟩,
  ⟨none, some 74, .mv (.t 3)⟩,
  ⟨none, some 75, .mv (.t 10)⟩,
  ⟨none, some 76, .bin .add (.t 74) (.t 75)⟩,
  ⟨none, some 77, .idx 2 (.t 73) (.t 76)⟩,
  ⟨none, some 78, .load true 2 (.t 77)⟩,
  ⟨none, some 79, .idx 2 (.t 59) (.t 62)⟩,
  ⟨none, none, .store 2 (.t 79) (.t 72)⟩,
  ⟨none, some 80, .idx 2 (.t 63) (.t 66)⟩,
  ⟨none, none, .store 2 (.t 80) (.t 78)⟩]
def r136_7 : List SO := [
  ⟨none, some 81, .mv (.t 11)⟩,
  ⟨none, some 10, .mv (.t 81)⟩]
def b136_0 : SC := .block 1 (.seq (.reg r136_1) (.seq (.seq (.reg r136_2) (.cond (.t 18) (.exit 0) (.skip))) (.seq (.seq (.reg r136_3) (.cond (.t 40) (.reg r136_4) (.skip))) (.seq (.seq (.reg r136_5) (.cond (.t 58) (.ret) (.skip))) (.seq (.reg r136_6) (.reg r136_7))))))
def s136 : SF := ⟨82, [], .seq (.reg r136_0) (.block 0 (.loop b136_0))⟩
theorem s136_ok : slimF Try.prog ⟨[94, 102, 103, 108, 109, 116, 119, 121, 125], []⟩ Try.f136 = some s136 := by kernel_rfl
end Go.Proofs.Ytngkckefanbhgaa

namespace Go.Proofs.Ytngkckefanbhgaa
open Go Go.Proofs
def r137_0 : List SO := [
  ⟨none, some 2, .mv (.c (.int .u64 0))⟩]
def r137_1 : List SO := [
  ⟨none, some 3, .mv (.t 0)⟩,
  ⟨none, some 4, .conv .u64 (.t 3)⟩,
  ⟨none, some 5, .call false 122 [.t 4]⟩,
  ⟨none, some 6, .bin .shl (.c (.int .u64 1)) (.t 5)⟩,
  ⟨none, some 2, .mv (.t 6)⟩]
def s137 : SF := ⟨7, [.tmp 2], .seq (.reg r137_0) (.seq (.reg r137_1) (.ret))⟩
theorem s137_ok : slimF Try.prog ⟨[94, 102, 103, 108, 109, 116, 119, 121, 125], []⟩ Try.f137 = some s137 := by kernel_rfl
end Go.Proofs.Ytngkckefanbhgaa

namespace Go.Proofs.Ytngkckefanbhgaa
open Go Go.Proofs
def r138_0 : List SO := [
  ⟨none, some 2, .mv (.c (.int .u64 0))⟩]
def r138_1 : List SO := [
  ⟨none, some 3, .mv (.t 0)⟩,
  ⟨none, some 4, .nilck (.t 3)⟩,
  ⟨none, some 5, .load false 1 (.t 4)⟩,
  ⟨none, some 6, .mv (.t 0)⟩,
  ⟨none, some 7, .nilck (.t 6)⟩,
  ⟨none, some 8, .load false 1 (.t 7)⟩,
  ⟨none, some 9, .bin .shl (.t 8) (.c (.int .u64 13))⟩,
  ⟨none, some 10, .bin .xor (.t 5) (.t 9)⟩,
  ⟨none, some 11, .nilck (.t 3)⟩,
  ⟨none, none, .store 1 (.t 11) (.t 10)⟩]
def r138_2 : List SO := [
  ⟨none, some 12, .mv (.t 0)⟩,
  ⟨none, some 13, .nilck (.t 12)⟩,
  ⟨none, some 14, .load false 1 (.t 13)⟩,
  ⟨none, some 15, .mv (.t 0)⟩,
  ⟨none, some 16, .nilck (.t 15)⟩,
  ⟨none, some 17, .load false 1 (.t 16)⟩,
  ⟨none, some 18, .bin .shr (.t 17) (.c (.int .u64 7))⟩,
  ⟨none, some 19, .bin .xor (.t 14) (.t 18)⟩,
  ⟨none, some 20, .nilck (.t 12)⟩,
  ⟨none, none, .store 1 (.t 20) (.t 19)⟩]
def r138_3 : List SO := [
  ⟨none, some 21, .mv (.t 0)⟩,
  ⟨none, some 22, .nilck (.t 21)⟩,
  ⟨none, some 23, .load false 1 (.t 22)⟩,
  ⟨none, some 24, .mv (.t 0)⟩,
  ⟨none, some 25, .nilck (.t 24)⟩,
  ⟨none, some 26, .load false 1 (.t 25)⟩,
  ⟨none, some 27, .bin .shl (.t 26) (.c (.int .u64 17))⟩,
  ⟨none, some 28, .bin .xor (.t 23) (.t 27)⟩,
  ⟨none, some 29, .nilck (.t 21)⟩,
  ⟨none, none, .store 1 (.t 29) (.t 28)⟩]
def r138_4 : List SO := [
  ⟨none, some 30, .mv (.t 0)⟩,
  ⟨none, some 31, .nilck (.t 30)⟩,
  ⟨none, some 32, .load false 1 (.t 31)⟩,
  ⟨none, some 2, .mv (.t 32)⟩]
def s138 : SF := ⟨33, [.tmp 2], .seq (.reg r138_0) (.seq (.reg r138_1) (.seq (.reg r138_2) (.seq (.reg r138_3) (.seq (.reg r138_4) (.ret)))))⟩
theorem s138_ok : slimF Try.prog ⟨[94, 102, 103, 108, 109, 116, 119, 121, 125], []⟩ Try.f138 = some s138 := by kernel_rfl
end Go.Proofs.Ytngkckefanbhgaa

namespace Go.Proofs.Ytngkckefanbhgaa
open Go Go.Proofs
def r139_0 : List SO := [
  ⟨none, some 8, .mv (.c (.int .i64 0))⟩]
def r139_1 : List SO := [
  ⟨none, some 9, .mv (.t 0)⟩,
  ⟨none, some 10, .mv (.t 1)⟩,
  ⟨none, some 11, .bin .sub (.t 10) (.c (.int .i64 1))⟩,
  ⟨none, some 12, .mv (.t 1)⟩,
  ⟨none, some 13, .mv (.t 1)⟩,
  ⟨none, some 14, .bin .add (.t 13) (.c (.int .i64 1))⟩,
  ⟨none, some 15, .mv (.t 2)⟩,
  ⟨none, some 16, .mv (.t 3)⟩,
  ⟨none, some 17, .call false 140 [.t 9, .t 11, .t 12, .t 14, .t 15, .t 16]⟩,
  ⟨none, some 8, .mv (.t 17)⟩]
def s139 : SF := ⟨18, [.tmp 8], .seq (.reg r139_0) (.seq (.reg r139_1) (.ret))⟩
theorem s139_ok : slimF Try.prog ⟨[94, 102, 103, 108, 109, 116, 119, 121, 125], []⟩ Try.f139 = some s139 := by kernel_rfl
end Go.Proofs.Ytngkckefanbhgaa

namespace Go.Proofs.Ytngkckefanbhgaa
open Go Go.Proofs
def r140_0 : List SO := [
  ⟨none, some 12, .mv (.c (.int .i64 0))⟩]
def r140_1 : List SO := [
  ⟨none, some 14, .mv (.t 0)⟩,
  ⟨none, some 15, .mv (.t 1)⟩,
  ⟨none, some 16, .mv (.t 2)⟩,
  ⟨none, some 17, .mv (.t 4)⟩,
  ⟨none, some 18, .mv (.t 5)⟩,
  ⟨none, some 19, .call false 142 [.t 14, .t 15, .t 16, .t 17, .t 18]⟩,
  ⟨none, some 13, .mv (.t 19)⟩,
  ⟨none, some 20, .ext (.t 13) 0⟩,
  ⟨none, some 21, .ext (.t 13) 1⟩,
  ⟨none, some 1, .mv (.t 20)⟩,
  ⟨none, some 2, .mv (.t 21)⟩]
def r140_2 : List SO := [
  ⟨none, some 23, .mv (.t 0)⟩,
  ⟨none, some 24, .mv (.t 2)⟩,
  ⟨none, some 25, .mv (.t 3)⟩,
  ⟨none, some 26, .mv (.t 4)⟩,
  ⟨none, some 27, .mv (.t 5)⟩,
  ⟨none, some 28, .call false 142 [.t 23, .t 24, .t 25, .t 26, .t 27]⟩,
  ⟨none, some 22, .mv (.t 28)⟩,
  ⟨none, some 29, .ext (.t 22) 0⟩,
  ⟨none, some 30, .ext (.t 22) 1⟩,
  ⟨none, some 2, .mv (.t 29)⟩,
  ⟨none, some 3, .mv (.t 30)⟩]
def r140_3 : List SO := [
  ⟨none, some 32, .mv (.t 0)⟩,
  ⟨none, some 33, .mv (.t 1)⟩,
  ⟨none, some 34, .mv (.t 2)⟩,
  ⟨none, some 35, .mv (.t 4)⟩,
  ⟨none, some 36, .mv (.t 5)⟩,
  ⟨none, some 37, .call false 142 [.t 32, .t 33, .t 34, .t 35, .t 36]⟩,
  ⟨none, some 31, .mv (.t 37)⟩,
  ⟨none, some 38, .ext (.t 31) 0⟩,
  ⟨none, some 39, .ext (.t 31) 1⟩,
  ⟨none, some 1, .mv (.t 38)⟩,
  ⟨none, some 2, .mv (.t 39)⟩]
def r140_4 : List SO := [
  ⟨none, some 40, .mv (.t 2)⟩,
  ⟨none, some 12, .mv (.t 40)⟩]
def s140 : SF := ⟨41, [.tmp 12], .seq (.reg r140_0) (.seq (.reg r140_1) (.seq (.reg r140_2) (.seq (.reg r140_3) (.seq (.reg r140_4) (.ret)))))⟩
theorem s140_ok : slimF Try.prog ⟨[94, 102, 103, 108, 109, 116, 119, 121, 125], []⟩ Try.f140 = some s140 := by kernel_rfl
end Go.Proofs.Ytngkckefanbhgaa

namespace Go.Proofs.Ytngkckefanbhgaa
open Go Go.Proofs
def r142_0 : List SO := [
  ⟨none, some 10, .mv (.c (.int .i64 0))⟩,
  ⟨none, some 11, .mv (.c (.int .i64 0))⟩]
def r142_1 : List SO := [
  ⟨none, some 12, .mv (.t 4)⟩,
  ⟨none, some 13, .mv (.t 0)⟩,
  ⟨none, some 14, .mv (.t 2)⟩,
  ⟨none, some 15, .idx 2 (.t 13) (.t 14)⟩,
  ⟨none, some 16, .load true 2 (.t 15)⟩,
  ⟨none, some 17, .mv (.t 0)⟩,
  ⟨none, some 18, .mv (.t 1)⟩,
  ⟨none, some 19, .idx 2 (.t 17) (.t 18)⟩,
  ⟨none, some 20, .load true 2 (.t 19)⟩,
  ⟨none, some 21, .callv false (.t 12) [.t 16, .t 20]⟩,
  ⟨none, some 22, .bin .lss (.t 21) (.c (.int .i64 0))⟩]
def r142_2 : List SO := [
  ⟨none, some 23, .mv (.t 3)⟩,
  ⟨none, some 24, .nilck (.t 23)⟩,
  ⟨none, some 25, .load false 1 (.t 24)⟩,
  ⟨none, some 26, .bin .add (.t 25) (.c (.int .i64 1))⟩,
  ⟨none, some 27, .nilck (.t 23)⟩,
  ⟨none, none, .store 1 (.t 27) (.t 26)⟩]
def r142_3 : List SO := [
  ⟨none, some 28, .mv (.t 2)⟩,
  ⟨none, some 29, .mv (.t 1)⟩,
  ⟨none, some 10, .mv (.t 28)⟩,
  ⟨none, some 11, .mv (.t 29)⟩]
def r142_4 : List SO := [
  ⟨none, some 30, .mv (.t 1)⟩,
  ⟨none, some 31, .mv (.t 2)⟩,
  ⟨none, some 10, .mv (.t 30)⟩,
  ⟨none, some 11, .mv (.t 31)⟩]
def s142 : SF := ⟨32, [.tmp 10, .tmp 11], .seq (.reg r142_0) (.seq (.seq (.reg r142_1) (.cond (.t 22) (.seq (.reg r142_2) (.seq (.reg r142_3) (.ret))) (.skip))) (.seq (.reg r142_4) (.ret)))⟩
theorem s142_ok : slimF Try.prog ⟨[94, 102, 103, 108, 109, 116, 119, 121, 125], []⟩ Try.f142 = some s142 := by kernel_rfl
end Go.Proofs.Ytngkckefanbhgaa

namespace Go.Proofs.Ytngkckefanbhgaa
open Go Go.Proofs Go.Shelf Go.RowKit Go.Lib
structure InsLay (P : Program) (ρ : Ren) (n1 : String) (k bytes : Nat) (z : Value) : Prop where
  mixed : P.follows .mixedOrders = true
  f22 : P.funcs[ρ.f 22]? = some { Body2.n22 ρ with name := n1 }
  ov : ∀ args w, (callFunc (ρ.f 29) args).run P w = ((Extern.SlicesOverlaps.overlaps #[(ρ.t 24), (ρ.t 24)] #[(ρ.t 4)] args).run P w).andThen fun v w' => .ok (.value v) w'
  t0 : P.underlying (ρ.t 0) = some (TypeDesc.tuple #[])
  a0 : ∀ w, (isAgg (ρ.t 0)).run P w = .ok false w
  z0 : ∀ w, (Go.sizeOf (ρ.t 0)).run P w = .ok 1 w
  v0 : ∀ w, (zeroValue (ρ.t 0)).run P w = .ok (Value.tuple #[]) w
  t3 : P.underlying (ρ.t 3) = some (TypeDesc.int IntKind.i64)
  a3 : ∀ w, (isAgg (ρ.t 3)).run P w = .ok false w
  z3 : ∀ w, (Go.sizeOf (ρ.t 3)).run P w = .ok 1 w
  v3 : ∀ w, (zeroValue (ρ.t 3)).run P w = .ok (Value.int IntKind.i64 0) w
  t4 : P.underlying (ρ.t 4) = some (TypeDesc.bool)
  a4 : ∀ w, (isAgg (ρ.t 4)).run P w = .ok false w
  z4 : ∀ w, (Go.sizeOf (ρ.t 4)).run P w = .ok 1 w
  v4 : ∀ w, (zeroValue (ρ.t 4)).run P w = .ok (Value.bool false) w
  z9 : ∀ w, (Go.sizeOf (ρ.t 9)).run P w = .ok k w
  t24 : P.underlying (ρ.t 24) = some (TypeDesc.slice (ρ.t 9))
  a24 : ∀ w, (isAgg (ρ.t 24)).run P w = .ok false w
  z24 : ∀ w, (Go.sizeOf (ρ.t 24)).run P w = .ok 1 w
  v24 : ∀ w, (zeroValue (ρ.t 24)).run P w = .ok (Value.slice none 0 0) w
  i9 : (P.info? (ρ.t 9)).map (fun i => (i.zero, i.size, i.bytes)) = some (some z, k, bytes)
  hk : 0 < k
  hz : z.cells.size = k
variable {P : Program} {ρ : Ren} {n1 : String} {k bytes : Nat} {z : Value}
theorem run_copy_rowk (w : World) (dT sT ty elem : TypeId) (g o dLen dCap : Nat) (a : Addr) (sLen sCap : Nat) (cur : Array Value) (t : TypeId) (cs : List Value) (k : Nat)
    (hu : P.underlying dT = some (.slice elem)) (hs : (P.info? elem).map (·.size) = some k)
    (hg : w.heap[g]? = some (.cells cur t (0, 0))) (hn : cs.length = Nat.min sLen dLen * k)
    (hsrc : ∀ j v, cs[j]? = some v → w.cell? (a.add j) = some v) (hfit : o + cs.length ≤ cur.size) (h1 : ∀ v ∈ cs, v.oneCell' = true) :
    (Builtin.copy_ #[dT, sT] ty #[.slice (some ⟨g, o, none⟩) dLen dCap, .slice (some a) sLen sCap]).run P w =
      .ok (goInt (Nat.min sLen dLen)) (w.setRow g (cur.toList.take o ++ cs ++ cur.toList.drop (o + cs.length)).toArray) := by
  have hl := run_loadCells_list (P := P) w a cs hsrc
  have hst := run_storeCells_at P g o t cs 0 cur w hg (by simpa using hfit) h1
  cases hq : P.info? elem with
  | none => simp [hq] at hs
  | some i =>
    have hi : i.size = k := by simpa [hq] using hs
    simp [Builtin.copy_, run_underlying hu, Builtin.lenOf, Builtin.firstCells, sizeOf, typeInfo, hq, hi, ← hn, hl, hst]
def put (cc : Array Value) (o : Nat) (cs : List Value) : Array Value := (cc.toList.take o ++ cs ++ cc.toList.drop (o + cs.length)).toArray
set_option maxHeartbeats 4000000 in
set_option maxRecDepth 100000 in
theorem ins_shift (L : InsLay P ρ n1 k bytes z) (b n c i vb vc : Nat) (cc cv : Array Value) (tb tv : TypeId) (w : World) (hi : i < n) (hroom : n + 1 ≤ c) (hc63 : c ≤ 9223372036854775807) (hvb : vb ≠ b)
    (hb : w.heap[b]? = some (.cells cc tb (0, 0))) (hv : w.heap[vb]? = some (.cells cv tv (0, 0))) (hcc : c * k = cc.size) (hcv : k ≤ cv.size) (vs : List Value) (hvs : vs = cv.toList.take k)
    (h1c : ∀ v ∈ cc.toList.take (n * k), v.oneCell' = true) (h1v : ∀ v ∈ vs, v.oneCell' = true) :
    Calls P (ρ.f 22) #[.slice (some ⟨b, 0, none⟩) n c, .int .i64 i, .slice (some ⟨vb, 0, none⟩) 1 vc] w fun e w' =>
      e = .returned (.slice (some ⟨b, 0, none⟩) (n + 1) c) ∧ w' = w.drew.setRow b (put (put cc ((i + 1) * k) ((cc.toList.take (n * k)).drop (i * k))) (i * k) vs) := by
  have hk := L.hk
  have hvl : vs.length = k := by rw [hvs, List.length_take, Array.length_toList]; omega
  have t0 := L.t0; have a0 := L.a0; have z0 := L.z0; have v0 := L.v0; have t3 := L.t3; have a3 := L.a3; have z3 := L.z3; have v3 := L.v3; have t4 := L.t4; have a4 := L.a4; have z4 := L.z4; have v4 := L.v4; have z9 := L.z9; have t24 := L.t24; have a24 := L.a24; have z24 := L.z24; have v24 := L.v24
  have u0 := run_underlying L.t0; have u3 := run_underlying L.t3; have u4 := run_underlying L.t4; have u24 := run_underlying L.t24
  have hz2 : ¬ ((i : Int) = (n : Int)) := by omega
  have hsz : (P.info? (ρ.t 9)).map (·.size) = some k := by
    obtain ⟨i0, hi0, h0, h1, h2⟩ := info_parts L.i9
    rw [hi0]; simp [h1]
  have hov : ∀ lb cb, (callFunc (ρ.f 29) #[.slice (some ⟨vb, 0, none⟩) 1 vc, .slice (some ⟨b, (i + 1) * k, none⟩) lb cb]).run P w = .ok (.value (.bool false)) w := fun lb cb => by
    rw [L.ov,
      Lib.run_overlaps_apart w (ρ.t 24) (ρ.t 4) (ρ.t 9) L.t24 k L.z9 ⟨vb, 0, none⟩ ⟨b, (i + 1) * k, none⟩ 1 vc lb cb hvb tv tb cv.size cc.size (by simp [World.shape?, hv]) (by simp [World.shape?, hb]) (by rw [← hcc]; have : 0 < c * k := Nat.mul_pos (by omega) hk; omega) (by simp [World.frozen?, hv]) (by simp [World.frozen?, hv])]
    rfl
  have mixed := L.mixed
  have hw1 : IntKind.i64.wrap ((i : Int) + 1) = (i : Int) + 1 := by rw [IntKind.wrap_i64]; omega
  have hb1 : (0 : Int) ≤ (i : Int) + 1 := by omega
  have hin : i ≤ n := by omega
  have htn : ((i : Int) + 1).toNat = i + 1 := by omega
  have hb2 : ¬ (c = i + 1) := by omega
  have hb3 : (i : Int) ≤ (n : Int) + 1 := by omega
  have hb4 : ¬ (c = i) := by omega
  have hnk : n * k ≤ cc.size := by rw [← hcc]; exact Nat.mul_le_mul_right k (by omega)
  have hn1k : (n + 1) * k ≤ cc.size := by rw [← hcc]; exact Nat.mul_le_mul_right k (by omega)
  have hik : i * k ≤ n * k := Nat.mul_le_mul_right k hin
  obtain ⟨ds, hds⟩ : ∃ ds, ds = (cc.toList.take (n * k)).drop (i * k) := ⟨_, rfl⟩
  have hdl : ds.length = (n - i) * k := by rw [hds, List.length_drop, List.length_take, Array.length_toList, Nat.min_eq_left hnk, Nat.sub_mul]
  rw [← hds]
  have e1 : Nat.min (n + 1 - i) (n - i) = n - i := by simp only [Nat.min_def]; split <;> omega
  have e2 : (i + 1) * k + (n - i) * k = (n + 1) * k := by rw [← Nat.add_mul]; congr 1; omega
  have hcp1 : ∀ ty dc sc, (Builtin.copy_ #[(ρ.t 24), (ρ.t 24)] ty #[.slice (some ⟨b, (i + 1) * k, none⟩) (n - i) dc, .slice (some ⟨b, i * k, none⟩) (n + 1 - i) sc]).run P w.drew = .ok (goInt (n - i : Nat)) (w.drew.setRow b (put cc ((i + 1) * k) ds)) := fun ty dc sc => by
    have h := run_copy_rowk (P := P) w.drew (ρ.t 24) (ρ.t 24) ty (ρ.t 9) b ((i + 1) * k) (n - i) dc ⟨b, i * k, none⟩ (n + 1 - i) sc cc tb ds k L.t24 hsz hb (by rw [hdl, e1])
      (fun j v hj => by
        rw [Addr.add_lit]
        have hj' := hj
        rw [hds, List.getElem?_drop, List.getElem?_take] at hj
        split at hj
        · rw [Array.getElem?_toList] at hj
          simp [World.cell?, show w.drew.heap[b]? = _ from hb, hj]
        · cases hj) (by rw [hdl, e2]; exact hn1k) (fun v hv => h1c v (List.mem_of_mem_drop (hds ▸ hv)))
    rw [e1] at h
    exact h
  have hps : (put cc ((i + 1) * k) ds).size = cc.size := by
    simp only [put, List.size_toArray, List.length_append, List.length_take, List.length_drop, Array.length_toList, hdl, e2]
    omega
  obtain ⟨W1, hW1⟩ : ∃ W1, W1 = w.drew.setRow b (put cc ((i + 1) * k) ds) := ⟨_, rfl⟩
  have hB1 : W1.heap[b]? = some (.cells (put cc ((i + 1) * k) ds) tb (0, 0)) := by rw [hW1]; exact setRow_heap w.drew b cc _ tb _ hb
  have hV1 : W1.heap[vb]? = some (.cells cv tv (0, 0)) := by rw [hW1, setRow_other w.drew b vb _ hvb]; exact hv
  have hcp2 : ∀ ty dc, (Builtin.copy_ #[(ρ.t 24), (ρ.t 24)] ty #[.slice (some ⟨b, i * k, none⟩) (n + 1 - i) dc, .slice (some ⟨vb, 0, none⟩) 1 vc]).run P W1 = .ok (goInt (1 : Nat)) (W1.setRow b (put (put cc ((i + 1) * k) ds) (i * k) vs)) := fun ty dc => by
    have e3 : Nat.min 1 (n + 1 - i) = 1 := by simp only [Nat.min_def]; split <;> omega
    have h := run_copy_rowk (P := P) W1 (ρ.t 24) (ρ.t 24) ty (ρ.t 9) b (i * k) (n + 1 - i) dc ⟨vb, 0, none⟩ 1 vc _ tb vs k L.t24 hsz hB1 (by rw [e3, hvl, Nat.one_mul])
      (fun j v hj => by
        rw [Addr.add_lit]
        rw [hvs, List.getElem?_take] at hj
        split at hj
        · rw [Array.getElem?_toList] at hj
          simp [World.cell?, hV1, hj]
        · cases hj) (by rw [hps, hvl]; have : (i + 1) * k ≤ (n + 1) * k := Nat.mul_le_mul_right k (by omega); rw [Nat.add_mul, Nat.one_mul] at this; omega) h1v
    rw [e3] at h
    exact h
  have hfin : W1.setRow b (put (put cc ((i + 1) * k) ds) (i * k) vs) = w.drew.setRow b (put (put cc ((i + 1) * k) ds) (i * k) vs) := by rw [hW1, setRow_setRow]
  rw [← hW1] at hcp1
  clear hW1 hds e1 e2 hvs
  go_enter L.f22, Body2.n22_ntmps ρ
  go_wp2_with (simp only [hov])
  go_region_law_o (refine step_copy_runI rfl _ _ (ρ.t 24) (ρ.t 24) rfl _ _ (by simp [Act.eval, Act.put]) (by simp [Act.eval, Act.put]) (hcp1 _ _ _) ?_)
  go_wp2_with (at_builtin; refine wpList_copy_runI _ rfl _ _ (ρ.t 24) (ρ.t 24) rfl _ _ rfl rfl (hcp2 _ _) ?_)
  go_ret
  first | exact ⟨rfl, rfl⟩ | exact ⟨rfl, hfin⟩
theorem alloc_setRow (w : World) (a b : Array Value) (e : TypeId) : (w.alloc (.cells a e)).setRow w.heap.size b = w.alloc (.cells b e) := by
  have h : (w.alloc (.cells a e)).heap[w.heap.size]? = some (.cells a e (0, 0)) := heap_push_eq _ _
  unfold World.setRow World.alloc
  congr 1
  refine Array.ext_getElem? fun j => ?_
  rw [Array.getElem?_modify]
  split
  · rename_i hj
    subst hj
    simp [Obj.cells]
  · rename_i hj
    simp only [Array.getElem?_push]
    rw [if_neg (fun x => hj x.symm), if_neg (fun x => hj x.symm)]
set_option maxHeartbeats 4000000 in
set_option maxRecDepth 100000 in
theorem ins_grow (L : InsLay P ρ n1 k bytes z) (b n c i vb vc : Nat) (cc cv : Array Value) (tb tv : TypeId) (w : World) (hi : i < n) (hnc : n ≤ c) (hroom : c < n + 1) (hc63 : c < 9223372036854775807) (hbig : (n + 1) * bytes ≤ 140737488355328)
    (hb : w.heap[b]? = some (.cells cc tb (0, 0))) (hv : w.heap[vb]? = some (.cells cv tv (0, 0))) (hcc : c * k = cc.size) (hcv : k ≤ cv.size) (vs : List Value) (hvs : vs = cv.toList.take k)
    (h1c : ∀ v ∈ cc.toList.take (n * k), v.oneCell' = true) (h1v : ∀ v ∈ vs, v.oneCell' = true) :
    Calls P (ρ.f 22) #[.slice (some ⟨b, 0, none⟩) n c, .int .i64 i, .slice (some ⟨vb, 0, none⟩) 1 vc] w fun e w' =>
      ∃ G R, R.size = G * k ∧ n + 1 ≤ G ∧ G ≤ maxLen ∧ e = .returned (.slice (some ⟨w.heap.size, 0, none⟩) (n + 1) G) ∧ w' = w.drew.drew.alloc (.cells (put (put R (i * k) vs) ((i + 1) * k) ((cc.toList.take (n * k)).drop (i * k))) (ρ.t 9)) ∧ R.toList.take (i * k) = cc.toList.take (i * k) := by
  have hk := L.hk; have hzl := L.hz
  have hvl : vs.length = k := by rw [hvs, List.length_take, Array.length_toList]; omega
  have t0 := L.t0; have a0 := L.a0; have z0 := L.z0; have v0 := L.v0; have t3 := L.t3; have a3 := L.a3; have z3 := L.z3; have v3 := L.v3; have t4 := L.t4; have a4 := L.a4; have z4 := L.z4; have v4 := L.v4; have z9 := L.z9; have t24 := L.t24; have a24 := L.a24; have z24 := L.z24; have v24 := L.v24
  have u0 := run_underlying L.t0; have u3 := run_underlying L.t3; have u4 := run_underlying L.t4; have u24 := run_underlying L.t24
  have mixed := L.mixed
  obtain ⟨i0, hi0, hz0, hzs, hzb⟩ := info_parts L.i9
  have hz2 : ¬ ((i : Int) = (n : Int)) := by omega
  have hz3 : (c : Int) < (n : Int) + 1 := by omega
  have hsz : (P.info? (ρ.t 9)).map (·.size) = some k := by rw [hi0]; simp [hzs]
  have hbw : b < w.heap.size := (Array.getElem?_eq_some_iff.1 hb).1
  have hvw : vb < w.heap.size := (Array.getElem?_eq_some_iff.1 hv).1
  have hkk : (n : Int) + 1 - (i : Int) = ((n + 1 - i : Nat) : Int) := by omega
  have hik : i + (n + 1 - i) = n + 1 := by omega
  have hnk : n * k ≤ cc.size := by rw [← hcc]; exact Nat.mul_le_mul_right k (by omega)
  have hikn : i * k ≤ n * k := Nat.mul_le_mul_right k (by omega)
  have hold : (Builtin.firstCells i0.size i (.slice (some ⟨b, 0, none⟩) i c)).run P w.drew = .ok (cc.toList.take (i * k)).toArray w.drew := by
    rw [hzs]
    exact run_firstCells_some w.drew k i ⟨b, 0, none⟩ i c (cc.toList.take (i * k)) (by rw [List.length_take, Array.length_toList]; omega) (fun j v hj => by
      rw [Addr.add_lit]
      rw [List.getElem?_take] at hj
      split at hj
      · rw [Array.getElem?_toList] at hj
        simp [World.cell?, show w.drew.heap[b]? = _ from hb, hj]
      · cases hj)
  have hrz : ∀ ty, (Builtin.append_ #[(ρ.t 24), (ρ.t 3)] ty #[.slice (some ⟨b, 0, none⟩) i c, .int .i64 ((n : Int) + 1 - (i : Int))]).run P w =
      .ok (.slice (some ⟨w.heap.size, 0, none⟩) (n + 1) (grownCap w (n + 1) c (ρ.t 9))) (w.drew.alloc (.cells ((cc.toList.take (i * k)).toArray ++ Builtin.zeroCells z.cells (n + 1 - i) ++ Builtin.zeroCells z.cells (grownCap w (n + 1) c (ρ.t 9) - (n + 1))) (ρ.t 9))) := fun ty => by
    have h := Lib.run_append_grow_zeros w (ρ.t 24) (ρ.t 3) ty (ρ.t 9) i0 _ .i64 .i64 L.t24 L.t3 hi0 hz0 (some ⟨b, 0, none⟩) i c _ hold (n + 1 - i) (by omega) (by omega) (by omega) (by omega) (by rw [hzb]; have : (n + 1 - i) * bytes ≤ (n + 1) * bytes := Nat.mul_le_mul_right _ (by omega); omega) (by rw [hzb, hik]; exact growslice_fits hroom hbig)
    rw [hik] at h
    rw [hkk]
    exact h
  have hGn : n + 1 ≤ grownCap w (n + 1) c (ρ.t 9) := grownCap_ge w _ _ _
  have hGm : grownCap w (n + 1) c (ρ.t 9) ≤ maxLen := grownCap_le_maxLen w (n + 1) c (ρ.t 9) (by unfold maxLen; omega)
  obtain ⟨G, hG⟩ : ∃ G, G = grownCap w (n + 1) c (ρ.t 9) := ⟨_, rfl⟩
  rw [← hG] at hGn hGm
  obtain ⟨ROW, hROW⟩ : ∃ ROW : Array Value, ROW = (cc.toList.take (i * k)).toArray ++ Builtin.zeroCells z.cells (n + 1 - i) ++ Builtin.zeroCells z.cells (G - (n + 1)) := ⟨_, rfl⟩
  rw [← hG] at hrz
  rw [← hROW] at hrz
  have hRl : ROW.size = G * k := by
    rw [hROW]
    simp only [Array.size_append, List.size_toArray, List.length_take, Array.length_toList, size_zeroCells, hzl, Nat.min_eq_left (show i * k ≤ cc.size by omega), ← Nat.add_mul]
    congr 1; omega
  have hRt : ROW.toList.take (i * k) = cc.toList.take (i * k) := by
    rw [hROW]
    simp only [Array.toList_append, List.append_assoc]
    rw [List.take_append_of_le_length (by simp; omega), List.take_take, Nat.min_self]
  have hG63 : G ≤ 9223372036854775807 := by unfold maxLen at hGm; omega
  have hGi : ¬ (G = i) := by omega
  have hGim : ¬ (G = i + 1) := by omega
  have hci : ¬ (c = i) := by omega
  have hn1G : (n + 1) * k ≤ G * k := Nat.mul_le_mul_right k hGn
  obtain ⟨ds, hds⟩ : ∃ ds, ds = (cc.toList.take (n * k)).drop (i * k) := ⟨_, rfl⟩
  have hdl : ds.length = (n - i) * k := by rw [hds, List.length_drop, List.length_take, Array.length_toList, Nat.min_eq_left hnk, Nat.sub_mul]
  rw [← hds]
  have e1 : Nat.min (n - i) (n - i) = n - i := Nat.min_self _
  have e2 : (i + 1) * k + (n - i) * k = (n + 1) * k := by rw [← Nat.add_mul]; congr 1; omega
  have e4 : i * k + k ≤ (n + 1) * k := by have : (i + 1) * k ≤ (n + 1) * k := Nat.mul_le_mul_right k (by omega); rw [Nat.add_mul, Nat.one_mul] at this; exact this
  obtain ⟨W1, hW1⟩ : ∃ W1, W1 = w.drew.alloc (.cells ROW (ρ.t 9)) := ⟨_, rfl⟩
  have hcpA : ∀ (W : World), W.heap = W1.heap → ∀ ty dc, (Builtin.copy_ #[(ρ.t 24), (ρ.t 24)] ty #[.slice (some ⟨w.heap.size, i * k, none⟩) (n + 1 - i) dc, .slice (some ⟨vb, 0, none⟩) 1 vc]).run P W = .ok (goInt (1 : Nat)) (W.setRow w.heap.size (put ROW (i * k) vs)) := fun W hW ty dc => by
    have e3 : Nat.min 1 (n + 1 - i) = 1 := by simp only [Nat.min_def]; split <;> omega
    have hN : W.heap[w.heap.size]? = some (.cells ROW (ρ.t 9) (0, 0)) := by rw [hW, hW1]; exact heap_push_eq w.drew _
    have hV : W.heap[vb]? = some (.cells cv tv (0, 0)) := by rw [hW, hW1, heap_push_lt w.drew _ hvw]; exact hv
    have h := run_copy_rowk (P := P) W (ρ.t 24) (ρ.t 24) ty (ρ.t 9) w.heap.size (i * k) (n + 1 - i) dc ⟨vb, 0, none⟩ 1 vc ROW (ρ.t 9) vs k L.t24 hsz hN (by rw [e3, hvl, Nat.one_mul])
      (fun j v hj => by
        rw [Addr.add_lit]
        rw [hvs, List.getElem?_take] at hj
        split at hj
        · rw [Array.getElem?_toList] at hj
          simp [World.cell?, hV, hj]
        · cases hj) (by rw [hRl, hvl]; omega) h1v
    rw [e3] at h
    exact h
  have hps : (put ROW (i * k) vs).size = ROW.size := by
    simp only [put, List.size_toArray, List.length_append, List.length_take, List.length_drop, Array.length_toList, hvl]
    omega
  have hcpB : ∀ (W : World), W.heap = (W1.setRow w.heap.size (put ROW (i * k) vs)).heap → ∀ ty dc sc, (Builtin.copy_ #[(ρ.t 24), (ρ.t 24)] ty #[.slice (some ⟨w.heap.size, (i + 1) * k, none⟩) (n - i) dc, .slice (some ⟨b, i * k, none⟩) (n - i) sc]).run P W = .ok (goInt (n - i : Nat)) (W.setRow w.heap.size (put (put ROW (i * k) vs) ((i + 1) * k) ds)) := fun W hW ty dc sc => by
    have hN : W.heap[w.heap.size]? = some (.cells (put ROW (i * k) vs) (ρ.t 9) (0, 0)) := by
      rw [hW, hW1]; exact setRow_heap _ _ ROW _ (ρ.t 9) _ (heap_push_eq w.drew _)
    have hB : W.heap[b]? = some (.cells cc tb (0, 0)) := by
      rw [hW, hW1, setRow_other _ _ b _ (by omega), heap_push_lt w.drew _ hbw]; exact hb
    have h := run_copy_rowk (P := P) W (ρ.t 24) (ρ.t 24) ty (ρ.t 9) w.heap.size ((i + 1) * k) (n - i) dc ⟨b, i * k, none⟩ (n - i) sc _ (ρ.t 9) ds k L.t24 hsz hN (by rw [hdl, e1])
      (fun j v hj => by
        rw [Addr.add_lit]
        rw [hds, List.getElem?_drop, List.getElem?_take] at hj
        split at hj
        · rw [Array.getElem?_toList] at hj
          simp [World.cell?, hB, hj]
        · cases hj) (by rw [hdl, e2, hps, hRl]; exact hn1G) (fun v hv => h1c v (List.mem_of_mem_drop (hds ▸ hv)))
    rw [e1] at h
    exact h
  subst hW1
  have hw1 : IntKind.i64.wrap ((i : Int) + 1) = (i : Int) + 1 := by rw [IntKind.wrap_i64]; omega
  have hb1 : (0 : Int) ≤ (i : Int) + 1 := by omega
  have hin : i ≤ n := by omega
  have htn : ((i : Int) + 1).toNat = i + 1 := by omega
  have hb3 : (i : Int) ≤ (n : Int) := by omega
  have hE1 : ((w.alloc (.cells ROW (ρ.t 9))).drew).heap = (w.drew.alloc (.cells ROW (ρ.t 9))).heap := rfl
  have hF1 : (((w.alloc (.cells ROW (ρ.t 9))).drew.setRow w.heap.size (put ROW (i * k) vs)).drew).heap = ((w.drew.alloc (.cells ROW (ρ.t 9))).setRow w.heap.size (put ROW (i * k) vs)).heap := rfl
  have hcall : Calls P (ρ.f 22) #[.slice (some ⟨b, 0, none⟩) n c, .int .i64 i, .slice (some ⟨vb, 0, none⟩) 1 vc] w fun e w' => e = .returned (.slice (some ⟨w.heap.size, 0, none⟩) (n + 1) G) ∧ w' = (((w.alloc (.cells ROW (ρ.t 9))).drew.setRow w.heap.size (put ROW (i * k) vs)).drew).setRow w.heap.size (put (put ROW (i * k) vs) ((i + 1) * k) ds) := by
    clear hkk hik hold hROW hG hRl hds e1 e2 e4 hRt hvs
    go_enter L.f22, Body2.n22_ntmps ρ
    go_wp2_with (first
      | (at_builtin; refine Lib.wpList_append_run _ rfl _ _ _ _ rfl _ _ rfl rfl _ _ (hrz _) ?_)
      | (at_builtin; refine wpList_copy_runI _ rfl _ _ (ρ.t 24) (ρ.t 24) rfl _ _ rfl rfl (hcpA _ hE1 _ _) ?_)
      | (at_builtin; refine wpList_copy_runI _ rfl _ _ (ρ.t 24) (ρ.t 24) rfl _ _ rfl rfl (hcpB _ hF1 _ _ _) ?_))
    go_region_law_o (refine step_copy_runI rfl _ _ (ρ.t 24) (ρ.t 24) rfl (.slice (some ⟨w.heap.size, (i + 1) * k, none⟩) (n - i) (G - (i + 1))) (.slice (some ⟨b, i * k, none⟩) (n - i) (c - i)) (by simp [Act.eval, Act.put]) (by simp [Act.eval, Act.put]) (hcpB _ hF1 (ρ.t 3) (G - (i + 1)) (c - i)) ?_)
    go_wp2
    go_ret
    exact ⟨rfl, rfl⟩
  refine hcall.mono fun e w' h => ?_
  obtain ⟨rfl, rfl⟩ := h
  refine ⟨G, ROW, hRl, hGn, hGm, rfl, ?_, hRt⟩
  have q := alloc_setRow w ROW (put ROW (i * k) vs) (ρ.t 9)
  have q2 := alloc_setRow w (put ROW (i * k) vs) (put (put ROW (i * k) vs) ((i + 1) * k) ds) (ρ.t 9)
  have q3 : (((w.alloc (.cells ROW (ρ.t 9))).drew.setRow w.heap.size (put ROW (i * k) vs)).drew).setRow w.heap.size (put (put ROW (i * k) vs) ((i + 1) * k) ds) = ((((w.alloc (.cells ROW (ρ.t 9))).setRow w.heap.size (put ROW (i * k) vs))).setRow w.heap.size (put (put ROW (i * k) vs) ((i + 1) * k) ds)).drew.drew := rfl
  rw [q3, q, q2]
  rfl
set_option maxHeartbeats 4000000 in
set_option maxRecDepth 100000 in
theorem ins_end (L : InsLay P ρ n1 k bytes z) (b n c vb vc : Nat) (w w' : World) (v : Value) (hnc : n ≤ c)
    (hr : ∀ ty, (Builtin.append_ #[(ρ.t 24), (ρ.t 24)] ty #[.slice (some ⟨b, 0, none⟩) n c, .slice (some ⟨vb, 0, none⟩) 1 vc]).run P w = .ok v w') :
    Calls P (ρ.f 22) #[.slice (some ⟨b, 0, none⟩) n c, .int .i64 n, .slice (some ⟨vb, 0, none⟩) 1 vc] w fun e u => e = .returned v ∧ u = w' := by
  have hk := L.hk
  have t0 := L.t0; have a0 := L.a0; have z0 := L.z0; have v0 := L.v0; have t3 := L.t3; have a3 := L.a3; have z3 := L.z3; have v3 := L.v3; have t4 := L.t4; have a4 := L.a4; have z4 := L.z4; have v4 := L.v4; have z9 := L.z9; have t24 := L.t24; have a24 := L.a24; have z24 := L.z24; have v24 := L.v24
  have u0 := run_underlying L.t0; have u3 := run_underlying L.t3; have u4 := run_underlying L.t4; have u24 := run_underlying L.t24
  have mixed := L.mixed
  go_enter L.f22, Body2.n22_ntmps ρ
  go_wp2_with (at_builtin; refine Lib.wpList_append_run _ rfl _ _ _ _ rfl _ _ rfl rfl _ _ (hr _) ?_)
  all_goals (go_ret; exact ⟨rfl, rfl⟩)
end Go.Proofs.Ytngkckefanbhgaa

namespace Go.Proofs.Ytngkckefanbhgaa
open Go Go.Proofs Go.Shelf Go.Lib
theorem put_get {cc : Array Value} {o : Nat} {cs : List Value} (h : o + cs.length ≤ cc.size) (q : Nat) : (put cc o cs)[q]? = if o ≤ q ∧ q < o + cs.length then cs[q - o]? else cc[q]? := by
  unfold put
  rw [seg_get h]
theorem put_size {cc : Array Value} {o : Nat} {cs : List Value} (h : o + cs.length ≤ cc.size) : (put cc o cs).size = cc.size := by
  simp only [put, List.size_toArray, List.length_append, List.length_take, List.length_drop, Array.length_toList]
  omega
theorem ins_rows {x : Cx} {rows : List (List V)} {row : List V} {k i : Nat} {cc cv F : Array Value} (hsz : ∀ r ∈ rows, r.length = k) (hsz1 : row.length = k) (hi : i ≤ rows.length)
    (hr : ∀ (r : Nat) (row : List V) (j : Nat) (v : V), rows[r]? = some row → row[j]? = some v → R x v (cc.getD (r * k + j) undef))
    (hv : ∀ (j : Nat) (v : V), row[j]? = some v → R x v (cv.getD j undef))
    (ha : ∀ q, q < i * k → F[q]? = cc[q]?) (hb : ∀ q, q < k → F[i * k + q]? = cv[q]?) (hc : ∀ q, q < (rows.length - i) * k → F[(i + 1) * k + q]? = cc[i * k + q]?) :
    ∀ (r : Nat) (row' : List V) (j : Nat) (v : V), (rows.take i ++ row :: rows.drop i)[r]? = some row' → row'[j]? = some v → R x v (F.getD (r * k + j) undef) := by
  intro r row' j v h1 h2
  have hlt : (rows.take i).length = i := by rw [List.length_take]; omega
  rw [List.getElem?_append] at h1
  split at h1
  · rename_i hlt'
    rw [hlt] at hlt'
    rw [List.getElem?_take, if_pos hlt'] at h1
    have hjk : j < k := by rw [← hsz _ (List.mem_of_getElem? h1)]; exact (List.getElem?_eq_some_iff.1 h2).1
    have : r * k + j < i * k := by
      have : (r + 1) * k ≤ i * k := Nat.mul_le_mul_right k hlt'
      rw [Nat.add_mul, Nat.one_mul] at this; omega
    rw [Array.getD_eq_getD_getElem?, ha _ this, ← Array.getD_eq_getD_getElem?]
    exact hr r row' j v h1 h2
  · rename_i hge
    rw [hlt] at h1 hge
    by_cases he : r = i
    · subst he
      rw [Nat.sub_self] at h1
      simp only [List.getElem?_cons_zero, Option.some.injEq] at h1
      subst h1
      have hjk : j < k := by rw [← hsz1]; exact (List.getElem?_eq_some_iff.1 h2).1
      rw [Array.getD_eq_getD_getElem?, hb _ hjk, ← Array.getD_eq_getD_getElem?]
      exact hv j v h2
    · obtain ⟨q, hq⟩ : ∃ q, r - i = q + 1 := ⟨r - i - 1, by omega⟩
      rw [hq, List.getElem?_cons_succ, List.getElem?_drop] at h1
      have hjk : j < k := by rw [← hsz _ (List.mem_of_getElem? h1)]; exact (List.getElem?_eq_some_iff.1 h2).1
      have hql := (List.getElem?_eq_some_iff.1 h1).1
      have hlt2 : q * k + j < (rows.length - i) * k := by
        have : (q + 1) * k ≤ (rows.length - i) * k := Nat.mul_le_mul_right k (by omega)
        rw [Nat.add_mul, Nat.one_mul] at this; omega
      have e1 : r * k + j = (i + 1) * k + (q * k + j) := by rw [← Nat.add_assoc, ← Nat.add_mul]; congr 2; omega
      have e2 : i * k + (q * k + j) = (i + q) * k + j := by rw [Nat.add_mul]; omega
      rw [e1, Array.getD_eq_getD_getElem?, hc _ hlt2, ← Array.getD_eq_getD_getElem?, e2]
      exact hr _ row' j v h1 h2
section
variable {P : Program} {ρ : Ren} {n1 : String} {k bytes : Nat} {z : Value}
theorem ins_full (L : InsLay P ρ n1 k bytes z) {zz : List V} (hzz : zeroOf P (ρ.t 9) = some zz) (hzl : zz.length = k) {x : Cx} (hx : Inv x) {id id2 ver ver2 ty2 i : Nat} {rows : List (List V)} {row : List V} {c0 c2 : Value}
    (hH : x.H id = ⟨ver, true, false, ρ.t 9, k, rows⟩) (hH2 : x.H id2 = ⟨ver2, true, false, ty2, k, [row]⟩) (hne : id ≠ id2) (hi : i ≤ rows.length)
    (hf : fitRows k rows = true) (hf1 : fitRows k [row] = true) (hb : (rows.length + 1) * bytes ≤ 140737488355328) (hm : rows.length + 1 ≤ 9223372036854775807)
    (r0 : R x (.ms id ver 0 rows.length) c0) (r2 : R x (.ms id2 ver2 0 1) c2) :
    Calls P (ρ.f 22) #[c0, .int .i64 i, c2] x.w fun e w' => ∃ c y, e = .returned c ∧ y.w = w' ∧ y.H = upd x.H id ⟨ver + 1, true, false, ρ.t 9, k, rows.take i ++ row :: rows.drop i⟩ ∧ Inv y ∧ R y (.ms id (ver + 1) 0 (rows.length + 1)) c ∧ Frame x y := by
  have hk := L.hk
  have ho : (x.H id).own = true := by rw [hH]; rfl
  have ho2 : (x.H id2).own = true := by rw [hH2]; rfl
  obtain ⟨hsz, hone⟩ := fitRows_spec hf
  obtain ⟨hsz1, hone1⟩ := fitRows_spec hf1
  have r0' := r0; have r2' := r2
  cases r0 with
  | ms _ _ _ _ b n cap hv hh =>
  cases r2 with
  | ms _ _ _ _ b2 m2 cap2 hv2 hh2 =>
  obtain ⟨e1, e2, e3, e4, e5, e6⟩ := hh (by rw [hH]) (by rw [hH])
  obtain ⟨d1, d2, d3, d4, d5, d6⟩ := hh2 (by rw [hH2]) (by rw [hH2])
  obtain ⟨e7, e8⟩ := e5 ho
  obtain ⟨d7, d8⟩ := d5 ho2
  obtain ⟨cc, b1, bb2, bb3, bb4⟩ := hx.blk id ho
  obtain ⟨cv, v1, vv2, vv3, vv4⟩ := hx.blk id2 ho2
  have hrs : rowSize x.w (x.σ id) = cc.size := by unfold rowSize; rw [b1]
  have hrs2 : rowSize x.w (x.σ id2) = cv.size := by unfold rowSize; rw [v1]
  rw [hrs, hH] at e8
  rw [hrs2, hH2] at d8
  rw [hH] at e7 b1 bb3 bb4
  rw [hH2] at d7 v1 vv3 vv4
  simp only [Nat.zero_mul, Nat.zero_add] at e7 d7 e8 d8
  simp only at b1 bb3 bb4 v1 vv3 vv4
  subst e1; subst d1; subst e7; subst d7
  have hvb : x.σ id2 ≠ x.σ id := fun e => hne (hx.inj id id2 ho ho2 e.symm)
  have hcv : k ≤ cv.size := by simpa using vv3
  have hsz1' : row.length = k := hsz1 row (by simp)
  have hrow : ∀ (j : Nat) (v : V), row[j]? = some v → R x v (cv.getD j undef) := fun j v hj => by
    have := vv4 0 row j v rfl hj
    simpa using this
  have h1c : ∀ v ∈ cc.toList.take (rows.length * k), v.oneCell' = true := fun v hv => by
    obtain ⟨q, hq⟩ := List.getElem?_of_mem hv
    rw [List.getElem?_take] at hq
    split at hq
    · rename_i hlt
      obtain ⟨rw', u, h5, h6, h7⟩ := CRR_cell hsz hlt
      have h8 := bb4 _ _ _ _ h5 h6
      rw [h7, Array.getD_eq_getD_getElem?, ← Array.getElem?_toList, hq] at h8
      exact h8.one (hone _ (List.mem_of_getElem? h5) _ (List.mem_of_getElem? h6))
    · cases hq
  obtain ⟨vs, hvs⟩ : ∃ vs, vs = cv.toList.take k := ⟨_, rfl⟩
  have hvl : vs.length = k := by rw [hvs, List.length_take, Array.length_toList]; omega
  have hvg : ∀ q, q < k → vs[q]? = cv[q]? := fun q hq => by rw [hvs, List.getElem?_take, if_pos hq, Array.getElem?_toList]
  have h1v : ∀ v ∈ vs, v.oneCell' = true := fun v hv => by
    obtain ⟨q, hq⟩ := List.getElem?_of_mem hv
    have hlt : q < k := by rw [← hvl]; exact (List.getElem?_eq_some_iff.1 hq).1
    have hu : ∃ u, row[q]? = some u := ⟨_, List.getElem?_eq_getElem (by rw [hsz1']; exact hlt)⟩
    obtain ⟨u, hu⟩ := hu
    have h8 := hrow q u hu
    rw [Array.getD_eq_getD_getElem?, ← hvg q hlt, hq] at h8
    exact h8.one (hone1 row (by simp) u (List.mem_of_getElem? hu))
  obtain ⟨n, hn⟩ : ∃ n, n = rows.length := ⟨_, rfl⟩
  have hnew : ∀ r ∈ rows.take i ++ row :: rows.drop i, r.length = k := fun r hr => by
    rcases List.mem_append.1 hr with hr | hr
    · exact hsz r (List.mem_of_mem_take hr)
    · rcases List.mem_cons.1 hr with hr | hr
      · rw [hr]; exact hsz1'
      · exact hsz r (List.mem_of_mem_drop hr)
  have hnewl : (rows.take i ++ row :: rows.drop i).length = rows.length + 1 := by simp; omega
  by_cases hend : i = rows.length
  · obtain ⟨i0, hi0, hz0, hzs, hzb⟩ := info_parts L.i9
    obtain ⟨y, c, hr, y1, y2, y3, y4⟩ := append_run (P := P) (esz := k) (bytes := bytes) (new := [row]) hx L.t24 hi0 hzz hzs hzb hzl (by omega) (i := id) (ver := ver) (len := rows.length) (u := .ms id2 ver2 0 1) (by rw [hH]) (by rw [hH]) (by rw [hH]) (by rw [hH]) (by rw [hH])
      (by simp [rowsOf, hH2]) hf1 hb hm r0' r2' 0
    rw [hend]
    refine (ins_end L (x.σ id) rows.length cap (x.σ id2) cap2 x.w y.w c e2 fun ty => hr).mono fun e w' h => ?_
    obtain ⟨rfl, rfl⟩ := h
    refine ⟨c, y, rfl, rfl, ?_, y2, y4, y3⟩
    rw [y1, hH]
    simp
  have hlt : i < rows.length := by omega
  have hnk : rows.length * k ≤ cc.size := by rw [← e8]; exact Nat.mul_le_mul_right k e2
  have hik : i * k ≤ rows.length * k := Nat.mul_le_mul_right k hi
  obtain ⟨ds, hds⟩ : ∃ ds, ds = (cc.toList.take (rows.length * k)).drop (i * k) := ⟨_, rfl⟩
  have hdl : ds.length = (rows.length - i) * k := by rw [hds, List.length_drop, List.length_take, Array.length_toList (xs := cc), Nat.min_eq_left hnk, Nat.sub_mul]
  have hdg : ∀ q, q < (rows.length - i) * k → ds[q]? = cc[i * k + q]? := fun q hq => by
    rw [hds, List.getElem?_drop, List.getElem?_take, if_pos (by rw [Nat.sub_mul] at hq; omega), Array.getElem?_toList]
  have e9 : (i + 1) * k + (rows.length - i) * k = (rows.length + 1) * k := by rw [← Nat.add_mul]; congr 1; omega
  have e10 : (i + 1) * k = i * k + k := by rw [Nat.add_mul, Nat.one_mul]
  by_cases hroom : rows.length + 1 ≤ cap
  · have hn1k : (rows.length + 1) * k ≤ cc.size := by rw [← e8]; exact Nat.mul_le_mul_right k hroom
    refine (ins_shift L (x.σ id) rows.length cap i (x.σ id2) cap2 cc cv _ _ x.w hlt hroom (by unfold maxLen at e3; omega) hvb b1 v1 e8 hcv vs hvs h1c h1v).mono fun e w' h => ?_
    obtain ⟨rfl, rfl⟩ := h
    rw [← hds]
    have hs1 : (put cc ((i + 1) * k) ds).size = cc.size := put_size (by rw [hdl, e9]; exact hn1k)
    have hfit2 : i * k + vs.length ≤ (put cc ((i + 1) * k) ds).size := by rw [hs1, hvl]; omega
    obtain ⟨dI, dF⟩ := step_draw hx (x.w.drawn + 1) (Nat.le_succ _)
    obtain ⟨hI, hF⟩ := step_set dI id ho cc (put (put cc ((i + 1) * k) ds) (i * k) vs) (by rw [hH]; exact b1) (by rw [put_size hfit2, hs1]) (ver + 1) (rows.take i ++ row :: rows.drop i) (by simp only [hH]; omega) (by simp only [hH]; omega) (by simp only [hH]; rfl)
      (by simp only [hH]; exact hnew) (by simp only [hH]; rw [hnewl]; exact hn1k) (by
        simp only [hH]
        refine ins_rows hsz hsz1' hi (fun r row j v h5 h6 => (bb4 r row j v h5 h6).frame hx dF) (fun j v h5 => (hrow j v h5).frame hx dF) (fun q hq => ?_) (fun q hq => ?_) (fun q hq => ?_)
        · rw [put_get hfit2, if_neg (by omega), put_get (by rw [hdl, e9]; exact hn1k), if_neg (by omega)]
        · rw [put_get hfit2, if_pos (by omega), Nat.add_sub_cancel_left]; exact hvg q hq
        · rw [put_get hfit2, if_neg (by omega), put_get (by rw [hdl, e9]; exact hn1k), if_pos (by rw [hdl]; omega), Nat.add_sub_cancel_left]; exact hdg q hq)
    refine ⟨_, _, rfl, ?_, ?_, hI, ?_, dF.trans hF⟩
    · rfl
    · simp only [hH]
    · refine .ms _ _ _ _ _ _ _ (by simp [upd_same]) fun _ _ => ?_
      simp only [upd_same, hH]
      refine ⟨trivial, hroom, e3, by rw [hnewl]; omega, fun _ => ⟨by simp, ?_⟩, fun h => by simp [Blk.own] at h⟩
      have : rowSize (({ x.w with drawn := x.w.drawn + 1 } : World).setRow (x.σ id) (put (put cc ((i + 1) * k) ds) (i * k) vs)) (x.σ id) = cc.size := by
        have q := setRow_heap ({ x.w with drawn := x.w.drawn + 1 } : World) (x.σ id) cc (put (put cc ((i + 1) * k) ds) (i * k) vs) _ _ b1
        unfold rowSize
        rw [q]
        show (put (put cc ((i + 1) * k) ds) (i * k) vs).size = cc.size
        rw [put_size hfit2, hs1]
      rw [this, Nat.zero_add]; exact e8
  · refine (ins_grow L (x.σ id) rows.length cap i (x.σ id2) cap2 cc cv _ _ x.w hlt e2 (by omega) (by omega) hb b1 v1 e8 hcv vs hvs h1c h1v).mono fun e w' h => ?_
    obtain ⟨G, Rw, g1, g2, g3, rfl, rfl, g4⟩ := h
    rw [← hds]
    have hGk : (rows.length + 1) * k ≤ Rw.size := by rw [g1]; exact Nat.mul_le_mul_right k g2
    have hfit1 : i * k + vs.length ≤ Rw.size := by rw [hvl]; omega
    have hs1 : (put Rw (i * k) vs).size = Rw.size := put_size hfit1
    have hfit2 : (i + 1) * k + ds.length ≤ (put Rw (i * k) vs).size := by rw [hs1, hdl, e9]; exact hGk
    obtain ⟨dI, dF⟩ := step_draw hx (x.w.drawn + 2) (by omega)
    obtain ⟨hI, hF⟩ := step_own dI id (put (put Rw (i * k) vs) ((i + 1) * k) ds) false (ρ.t 9) k (rows.take i ++ row :: rows.drop i) hnew (by rw [hnewl, put_size hfit2, hs1]; exact hGk) (by
        refine ins_rows hsz hsz1' hi (fun r row j v h5 h6 => (bb4 r row j v h5 h6).frame hx dF) (fun j v h5 => (hrow j v h5).frame hx dF) (fun q hq => ?_) (fun q hq => ?_) (fun q hq => ?_)
        · rw [put_get hfit2, if_neg (by omega), put_get hfit1, if_neg (by omega)]
          have := congrArg (fun l => l[q]?) g4
          simp only [List.getElem?_take, if_pos hq, Array.getElem?_toList] at this
          exact this
        · rw [put_get hfit2, if_neg (by omega), put_get hfit1, if_pos (by omega), Nat.add_sub_cancel_left]; exact hvg q hq
        · rw [put_get hfit2, if_pos (by rw [hdl]; omega), Nat.add_sub_cancel_left]; exact hdg q hq)
    refine ⟨_, _, rfl, ?_, ?_, hI, ?_, dF.trans hF⟩
    · rfl
    · simp only [hH]
    · refine .ms _ _ _ _ _ _ _ (by simp [upd_same, hH]) fun _ _ => ?_
      simp only [upd_same, hH]
      refine ⟨trivial, g2, g3, by rw [hnewl]; omega, fun _ => ⟨by simp, ?_⟩, fun h => by simp [Blk.own] at h⟩
      rw [rowSize_new, put_size hfit2, hs1, g1, Nat.zero_add]
theorem CallOK_insert (L : InsLay P ρ n1 k bytes z) (hcf : callable P (ρ.f 22)) {zz : List V} (hzz : zeroOf P (ρ.t 9) = some zz) (hzl : zz.length = k) {id id2 ver ver2 ty2 i n : Nat} {rows : List (List V)} {row : List V} {H : Heap}
    (hH : H id = ⟨ver, true, false, ρ.t 9, k, rows⟩) (hH2 : H id2 = ⟨ver2, true, false, ty2, k, [row]⟩) (hne : id ≠ id2) (hn : n ≤ rows.length) (hi : i ≤ n)
    (hf : fitRows k (rows.take n) = true) (hf1 : fitRows k [row] = true) (hb : (n + 1) * bytes ≤ 140737488355328) (hm : n + 1 ≤ 9223372036854775807) :
    CallOK P (ρ.f 22) [.ms id ver 0 n, iV i, .ms id2 ver2 0 1] H (.ms id (ver + 2) 0 (n + 1)) (upd H id ⟨ver + 2, true, false, ρ.t 9, k, (rows.take n).take i ++ row :: (rows.take n).drop i⟩) := by
  refine ⟨hcf, fun x cs hxH hx hr => ?_⟩
  subst hxH
  obtain ⟨c0, c1, c2, rfl⟩ : ∃ c0 c1 c2, cs = [c0, c1, c2] := by
    have := hr.1
    match cs with
    | [a, b, c] => exact ⟨a, b, c, rfl⟩
    | [] => simp at this
    | [_] => simp at this
    | [_, _] => simp at this
    | _ :: _ :: _ :: _ :: _ => simp at this
  have r0 : R x (.ms id ver 0 n) c0 := hr.2 0 _ rfl
  have r1 : R x (iV i) c1 := hr.2 1 _ rfl
  have r2 : R x (.ms id2 ver2 0 1) c2 := hr.2 2 _ rfl
  have hc1 : c1 = .int .i64 i := by
    unfold iV at r1
    cases r1; rfl
  subst hc1
  have ho : (x.H id).own = true := by rw [hH]; rfl
  obtain ⟨cc, b1, bb2, bb3, bb4⟩ := hx.blk id ho
  have hlen : (rows.take n).length = n := by rw [List.length_take]; omega
  obtain ⟨hI, hF⟩ := step_set hx id ho cc cc b1 rfl (ver + 1) (rows.take n) (by rw [hH]; exact Nat.le_succ _) (by rw [hH]; simp) (by rw [hH]; rfl) (fun r h => bb2 r (by rw [hH]; exact List.mem_of_mem_take h))
    (by rw [hlen]; refine Nat.le_trans (Nat.mul_le_mul_right _ ?_) bb3; rw [hH]; exact hn) (fun r row j v h1 h2 => by
      rw [List.getElem?_take] at h1
      split at h1
      · exact bb4 r row j v (by rw [hH]; exact h1) h2
      · cases h1)
  have hw : x.w.setRow (x.σ id) cc = x.w := setRow_self x.w _ cc _ _ b1
  rw [hw] at hI hF
  have q0 : R { x with H := upd x.H id ⟨ver + 1, true, (x.H id).lz, (x.H id).ty, (x.H id).sz, rows.take n⟩ } (.ms id (ver + 1) 0 (rows.take n).length) c0 := by
    cases r0 with
    | ms _ _ _ _ b m cap hv hh =>
    obtain ⟨e1, e2, e3, e4, e5, e6⟩ := hh (by rw [hH]) (by rw [hH])
    obtain ⟨e7, e8⟩ := e5 ho
    refine .ms _ _ _ _ _ _ _ (by simp [upd_same]) fun _ _ => ?_
    simp only [upd_same, hlen]
    exact ⟨e1, e2, e3, by omega, fun _ => ⟨e7, e8⟩, fun h => by rw [hH] at h; simp [Blk.own] at h⟩
  have h := ins_full L hzz hzl hI (id := id) (id2 := id2) (ver := ver + 1) (ver2 := ver2) (ty2 := ty2) (i := i) (rows := rows.take n) (row := row) (by simp [upd_same, hH]) (by simp only [upd_ne _ _ (Ne.symm hne)]; exact hH2) hne (by rw [hlen]; exact hi) hf hf1 (by rw [hlen]; exact hb) (by rw [hlen]; exact hm) q0 (r2.frame hx hF)
  refine h.mono fun e w' h => ?_
  obtain ⟨c, y, rfl, h1, h2, h3, h4, h5⟩ := h
  refine ⟨c, y, rfl, h1, ?_, h3, ?_, hF.trans h5⟩
  · rw [h2]
    funext j
    by_cases e : j = id
    · subst e; simp only [upd_same]
    · simp only [upd_ne _ _ e]
  · rw [hlen] at h4; exact h4
end
end Go.Proofs.Ytngkckefanbhgaa

namespace Go.Proofs.Ytngkckefanbhgaa
open Go Go.Proofs Go.Shelf Go.Lib
def insP (f ty k bytes : Nat) : Prim := fun g args H =>
  if g = f then match args with
    | [.ms id ver 0 n, .int .i64 i, .ms id2 ver2 0 1] => match H id2 with
      | ⟨v2, true, false, _, k2, [row]⟩ => match H id with
        | ⟨v1, true, false, ty1, k1, rows⟩ =>
          if v1 = ver ∧ v2 = ver2 ∧ k1 = k ∧ k2 = k ∧ ty1 = ty ∧ id ≠ id2 ∧ n ≤ rows.length ∧ i.toNat ≤ n ∧ 0 ≤ i ∧ (n + 1) * bytes ≤ 140737488355328 ∧ n + 1 ≤ 9223372036854775807 then
            if fitRows k (rows.take n) && fitRows k [row] then
              some (.ms id (ver + 2) 0 (n + 1), upd H id ⟨ver + 2, true, false, ty, k, (rows.take n).take i.toNat ++ row :: (rows.take n).drop i.toNat⟩)
            else none
          else none
        | _ => none
      | _ => none
    | _ => none
  else none
theorem insP_ok {P : Program} {ρ : Ren} {n1 : String} {k bytes : Nat} {z : Value} (L : InsLay P ρ n1 k bytes z) (hcf : callable P (ρ.f 22)) {zz : List V} (hzz : zeroOf P (ρ.t 9) = some zz) (hzl : zz.length = k) : PrimOK P (insP (ρ.f 22) (ρ.t 9) k bytes) := by
  intro g args H v H' h
  unfold insP at h
  split at h
  · rename_i hg
    subst hg
    split at h
    · rename_i id ver n i id2 ver2
      split at h
      · rename_i v2 ty2 k2 row h2
        split at h
        · rename_i v1 ty1 k1 rows h1
          split at h
          · rename_i hc
            obtain ⟨rfl, rfl, rfl, rfl, rfl, c1, c2, c3, c4, c5, c6⟩ := hc
            split at h
            · rename_i hf
              simp only [Bool.and_eq_true] at hf
              cases h
              have := CallOK_insert L hcf hzz hzl (i := i.toNat) h1 h2 c1 c2 c3 hf.1 hf.2 c5 c6
              unfold iV at this
              rw [Int.toNat_of_nonneg c4] at this
              exact this
            · cases h
          · cases h
        · cases h
      · cases h
    · cases h
  · cases h
end Go.Proofs.Ytngkckefanbhgaa

namespace Go.Proofs.Ytngkckefanbhgaa
open Go Go.Proofs Go.Shelf
def insRen119 : Go.Shelf.Ren := ⟨fun | 22 => 119 | 29 => 123 | 30 => 124 | n => n, fun | 24 => 32 | 9 => 63 | n => n, fun n => n⟩
theorem insLay119 : InsLay Try.prog insRen119 Try.f119.name 2 48 (.agg #[.slice none 0 0, .slice none 0 0]) := {
  mixed := by kernel_rfl
  f22 := Try.func119.trans (congrArg some (by kernel_rfl))
  ov := fun args w => run_callFunc_extern Try.func123 (by kernel_rfl) (by kernel_rfl) (by kernel_rfl) (by kernel_rfl) args w
  t0 := Try.underlying0, a0 := Try.isAgg0, z0 := Try.sizeOf0, v0 := Try.zeroValue0
  t3 := Try.underlying3, a3 := Try.isAgg3, z3 := Try.sizeOf3, v3 := Try.zeroValue3
  t4 := Try.underlying4, a4 := Try.isAgg4, z4 := Try.sizeOf4, v4 := Try.zeroValue4
  z9 := Try.sizeOf63
  t24 := Try.underlying32, a24 := Try.isAgg32, z24 := Try.sizeOf32, v24 := Try.zeroValue32
  i9 := by kernel_rfl
  hk := by decide
  hz := by kernel_rfl }
theorem insCall119 : callable Try.prog 119 := ⟨_, Try.func119, by kernel_rfl, by kernel_rfl⟩
def insPrim119 : Prim := insP 119 63 2 48
theorem insPrim119_ok : PrimOK Try.prog insPrim119 := insP_ok insLay119 insCall119 (zz := [.nilsl, .nilsl]) (by kernel_rfl) rfl
end Go.Proofs.Ytngkckefanbhgaa

namespace Go.Proofs.Ytngkckefanbhgaa
open Go Go.Proofs
def tab39 : List (Nat × XF) := [(25, ⟨s25, []⟩), (34, ⟨s34, []⟩), (36, ⟨s36, []⟩), (39, ⟨s39, []⟩), (41, ⟨s41, []⟩), (43, ⟨s43, []⟩), (45, ⟨s45, []⟩), (50, ⟨s50, []⟩), (63, ⟨s63, []⟩), (66, ⟨s66, []⟩), (69, ⟨s69, []⟩), (73, ⟨s73, []⟩), (74, ⟨s74, []⟩), (75, ⟨s75, []⟩), (76, ⟨s76, []⟩), (77, ⟨s77, []⟩), (78, ⟨s78, []⟩), (79, ⟨s79, []⟩), (80, ⟨s80, []⟩), (81, ⟨s81, []⟩), (82, ⟨s82, []⟩), (83, ⟨s83, []⟩), (84, ⟨s84, []⟩), (99, ⟨s99, []⟩), (100, ⟨s100, []⟩), (101, ⟨s101, []⟩), (102, ⟨s102, []⟩), (103, ⟨s103, []⟩), (104, ⟨s104, []⟩), (105, ⟨s105, []⟩), (106, ⟨s106, []⟩), (107, ⟨s107, []⟩), (108, ⟨s108, []⟩), (109, ⟨s109, []⟩), (110, ⟨s110, []⟩), (111, ⟨s111, []⟩), (114, ⟨s114, []⟩), (115, ⟨s115, []⟩), (116, ⟨s116, []⟩), (117, ⟨s117, []⟩), (118, ⟨s118, []⟩), (120, ⟨s120, []⟩), (121, ⟨s121, []⟩), (122, ⟨s122, []⟩), (125, ⟨s125, []⟩), (126, ⟨s126, []⟩), (127, ⟨s127, []⟩), (128, ⟨s128, []⟩), (129, ⟨s129, []⟩), (130, ⟨s130, []⟩), (131, ⟨s131, []⟩), (132, ⟨s132, []⟩), (133, ⟨s133, []⟩), (134, ⟨s134, []⟩), (136, ⟨s136, []⟩), (137, ⟨s137, []⟩), (138, ⟨s138, []⟩), (139, ⟨s139, []⟩), (140, ⟨s140, []⟩), (142, ⟨s142, []⟩)]
theorem tab39_ok : ∀ p ∈ tab39, Good1 Try.prog p := by
  intro p hp
  simp only [tab39, List.mem_cons, List.not_mem_nil, or_false] at hp
  rcases hp with rfl | rfl | rfl | rfl | rfl | rfl | rfl | rfl | rfl | rfl | rfl | rfl | rfl | rfl | rfl | rfl | rfl | rfl | rfl | rfl | rfl | rfl | rfl | rfl | rfl | rfl | rfl | rfl | rfl | rfl | rfl | rfl | rfl | rfl | rfl | rfl | rfl | rfl | rfl | rfl | rfl | rfl | rfl | rfl | rfl | rfl | rfl | rfl | rfl | rfl | rfl | rfl | rfl | rfl | rfl | rfl | rfl | rfl | rfl | rfl
  · exact ⟨_, _, Try.func25, s25_ok, by kernel_rfl⟩
  · exact ⟨_, _, Try.func34, s34_ok, by kernel_rfl⟩
  · exact ⟨_, _, Try.func36, s36_ok, by kernel_rfl⟩
  · exact ⟨_, _, Try.func39, s39_ok, by kernel_rfl⟩
  · exact ⟨_, _, Try.func41, s41_ok, by kernel_rfl⟩
  · exact ⟨_, _, Try.func43, s43_ok, by kernel_rfl⟩
  · exact ⟨_, _, Try.func45, s45_ok, by kernel_rfl⟩
  · exact ⟨_, _, Try.func50, s50_ok, by kernel_rfl⟩
  · exact ⟨_, _, Try.func63, s63_ok, by kernel_rfl⟩
  · exact ⟨_, _, Try.func66, s66_ok, by kernel_rfl⟩
  · exact ⟨_, _, Try.func69, s69_ok, by kernel_rfl⟩
  · exact ⟨_, _, Try.func73, s73_ok, by kernel_rfl⟩
  · exact ⟨_, _, Try.func74, s74_ok, by kernel_rfl⟩
  · exact ⟨_, _, Try.func75, s75_ok, by kernel_rfl⟩
  · exact ⟨_, _, Try.func76, s76_ok, by kernel_rfl⟩
  · exact ⟨_, _, Try.func77, s77_ok, by kernel_rfl⟩
  · exact ⟨_, _, Try.func78, s78_ok, by kernel_rfl⟩
  · exact ⟨_, _, Try.func79, s79_ok, by kernel_rfl⟩
  · exact ⟨_, _, Try.func80, s80_ok, by kernel_rfl⟩
  · exact ⟨_, _, Try.func81, s81_ok, by kernel_rfl⟩
  · exact ⟨_, _, Try.func82, s82_ok, by kernel_rfl⟩
  · exact ⟨_, _, Try.func83, s83_ok, by kernel_rfl⟩
  · exact ⟨_, _, Try.func84, s84_ok, by kernel_rfl⟩
  · exact ⟨_, _, Try.func99, s99_ok, by kernel_rfl⟩
  · exact ⟨_, _, Try.func100, s100_ok, by kernel_rfl⟩
  · exact ⟨_, _, Try.func101, s101_ok, by kernel_rfl⟩
  · exact ⟨_, _, Try.func102, s102_ok, by kernel_rfl⟩
  · exact ⟨_, _, Try.func103, s103_ok, by kernel_rfl⟩
  · exact ⟨_, _, Try.func104, s104_ok, by kernel_rfl⟩
  · exact ⟨_, _, Try.func105, s105_ok, by kernel_rfl⟩
  · exact ⟨_, _, Try.func106, s106_ok, by kernel_rfl⟩
  · exact ⟨_, _, Try.func107, s107_ok, by kernel_rfl⟩
  · exact ⟨_, _, Try.func108, s108_ok, by kernel_rfl⟩
  · exact ⟨_, _, Try.func109, s109_ok, by kernel_rfl⟩
  · exact ⟨_, _, Try.func110, s110_ok, by kernel_rfl⟩
  · exact ⟨_, _, Try.func111, s111_ok, by kernel_rfl⟩
  · exact ⟨_, _, Try.func114, s114_ok, by kernel_rfl⟩
  · exact ⟨_, _, Try.func115, s115_ok, by kernel_rfl⟩
  · exact ⟨_, _, Try.func116, s116_ok, by kernel_rfl⟩
  · exact ⟨_, _, Try.func117, s117_ok, by kernel_rfl⟩
  · exact ⟨_, _, Try.func118, s118_ok, by kernel_rfl⟩
  · exact ⟨_, _, Try.func120, s120_ok, by kernel_rfl⟩
  · exact ⟨_, _, Try.func121, s121_ok, by kernel_rfl⟩
  · exact ⟨_, _, Try.func122, s122_ok, by kernel_rfl⟩
  · exact ⟨_, _, Try.func125, s125_ok, by kernel_rfl⟩
  · exact ⟨_, _, Try.func126, s126_ok, by kernel_rfl⟩
  · exact ⟨_, _, Try.func127, s127_ok, by kernel_rfl⟩
  · exact ⟨_, _, Try.func128, s128_ok, by kernel_rfl⟩
  · exact ⟨_, _, Try.func129, s129_ok, by kernel_rfl⟩
  · exact ⟨_, _, Try.func130, s130_ok, by kernel_rfl⟩
  · exact ⟨_, _, Try.func131, s131_ok, by kernel_rfl⟩
  · exact ⟨_, _, Try.func132, s132_ok, by kernel_rfl⟩
  · exact ⟨_, _, Try.func133, s133_ok, by kernel_rfl⟩
  · exact ⟨_, _, Try.func134, s134_ok, by kernel_rfl⟩
  · exact ⟨_, _, Try.func136, s136_ok, by kernel_rfl⟩
  · exact ⟨_, _, Try.func137, s137_ok, by kernel_rfl⟩
  · exact ⟨_, _, Try.func138, s138_ok, by kernel_rfl⟩
  · exact ⟨_, _, Try.func139, s139_ok, by kernel_rfl⟩
  · exact ⟨_, _, Try.func140, s140_ok, by kernel_rfl⟩
  · exact ⟨_, _, Try.func142, s142_ok, by kernel_rfl⟩
theorem aw_learnerlaw16_awake_pure : PureC Try.prog 39 [] (.bool true) := pure_of_runQ insPrim119_ok (Good_of tab39_ok) 400 rfl (by kernel_rfl)
end Go.Proofs.Ytngkckefanbhgaa

namespace Go.Proofs.Ytngkckefanbhgaa
open Go Go.Proofs
theorem copied_pure (t : Tr) (h1 : t.ni.length ≤ 1048576) (h2 : t.no.length ≤ 1048576) : PureC Try.prog 115 [(V.agg [(V.sl (List.map cI (t.ni))), (V.sl (List.map cI (t.no)))])] (V.agg [(V.sl (List.map cI (t.ni))), (V.sl (List.map cI (t.no)))]) := by
 refine pure_of_Wb true 6 Try.func115 s115_ok (by kernel_rfl) (by simp [s115]) (by simp) (by simp) fun hB => ?_
 simp only [bnd_map, bnd_int, bnd_bool, bnd_str, bnd_agg, bnd_pp, bnd_nil, bnd_cons, implies_true, and_true, true_and] at hB
 unfold s115
 dsimp only
 refine W_seq_regc (fun T H => T 1 = (V.mp 1 1 0 0) ∧ T 2 = (V.mp 2 1 0 0) ∧ H 1 = (⟨1, true, false, 63, 2, [[(V.sl (List.map cI (t.ni))), (V.sl (List.map cI (t.no)))]]⟩ : Blk) ∧ H 2 = (⟨1, true, false, 63, 2, [[V.nilsl, V.nilsl]]⟩ : Blk) ∧ True) ?_ ?_
 ·
  unfold r115_0
  refine R_box (i := 1) (n := 0) (m := 2) (cs := [(V.sl (List.map cI (t.ni))), (V.sl (List.map cI (t.no)))]) rfl (congrArg Blk.ver rfl) (@rfl V (V.agg [(V.sl (List.map cI (t.ni))), (V.sl (List.map cI (t.no)))])) rfl rfl ?_
  refine R_alloc (i := 2) (n := 0) (m := 2) rfl (congrArg Blk.ver rfl) rfl ?_
  exact R_nil ⟨rfl, rfl, rfl, rfl, trivial⟩
 intro T H ⟨t1, t2, h1, h2, _⟩
 refine W_seq_regc (fun T H => T 2 = (V.mp 2 1 0 0) ∧ H 1 = (⟨1, true, false, 63, 2, [[(V.sl (List.map cI (t.ni))), (V.sl (List.map cI (t.no)))]]⟩ : Blk) ∧ H 2 = (⟨1, true, false, 63, 2, [[(V.sl (List.map cI (t.ni))), (V.sl (List.map cI (t.no)))]]⟩ : Blk) ∧ True) ?_ ?_
 ·
  unfold r115_1
  refine R_fld_mp (o' := 0) t1 h1 (by first | rfl | simp [okB, Blk.own]) rfl ?_
  refine R_load_mp (v := (V.sl (List.map cI (t.ni)))) (@rfl V (V.mp 1 1 0 0)) h1 (by first | rfl | simp [ldB, ldV, Blk.own, V.one]) ?_
  refine R_call (evcons (@rfl V (V.sl (List.map cI (t.ni)))) evnil) (clone_pure t.ni (by omega)) (fzv_mapcanon _ _ (by simp [-List.map_take, -List.map_drop, -List.map_append, -List.map_reverse])) (by simp [-List.map_take, -List.map_drop, -List.map_append, -List.map_reverse]) (Or.inl (by simp [-List.map_take, -List.map_drop, -List.map_append, -List.map_reverse])) ?_
  refine R_fld_mp (o' := 1) t1 h1 (by first | rfl | simp [okB, Blk.own]) rfl ?_
  refine R_load_mp (v := (V.sl (List.map cI (t.no)))) (@rfl V (V.mp 1 1 0 1)) h1 (by first | rfl | simp [ldB, ldV, Blk.own, V.one]) ?_
  refine R_call (evcons (@rfl V (V.sl (List.map cI (t.no)))) evnil) (clone_pure t.no (by omega)) (fzv_mapcanon _ _ (by simp [-List.map_take, -List.map_drop, -List.map_append, -List.map_reverse])) (by simp [-List.map_take, -List.map_drop, -List.map_append, -List.map_reverse]) (Or.inl (by simp [-List.map_take, -List.map_drop, -List.map_append, -List.map_reverse])) ?_
  refine R_build (qs := [(0, 1, (V.sl (List.map cI (t.ni)))), (1, 1, (V.sl (List.map cI (t.no))))]) (cs := [(V.sl (List.map cI (t.ni))), (V.sl (List.map cI (t.no)))]) (mcons (congrArg (fun v => (0, 1, v)) (@rfl V (V.sl (List.map cI (t.ni))))) (mcons (congrArg (fun v => (1, 1, v)) (@rfl V (V.sl (List.map cI (t.no))))) rfl)) rfl ?_
  refine R_store (vs := [(V.sl (List.map cI (t.ni))), (V.sl (List.map cI (t.no)))]) (B' := (⟨1, true, false, 63, 2, [[(V.sl (List.map cI (t.ni))), (V.sl (List.map cI (t.no)))]]⟩ : Blk)) t2 (@rfl V (V.agg [(V.sl (List.map cI (t.ni))), (V.sl (List.map cI (t.no)))])) rfl h2 (by first | rfl | simp [stB, okB, Blk.own, putAt, V.one]) ?_
  exact R_nil ⟨t2, h1, rfl, trivial⟩
 intro T H ⟨t2, h1, h2, _⟩
 refine W_ret ?_
 refine RetC_1 (resV_c (u := (V.agg [(V.sl (List.map cI (t.ni))), (V.sl (List.map cI (t.no)))])) t2 h2 (by first | rfl | simp [ldB, ldV, Blk.own, V.one])) (fz_canon (by simp) rfl)
end Go.Proofs.Ytngkckefanbhgaa

namespace Go.Proofs.Ytngkckefanbhgaa
open Go Go.Proofs
attribute [local irreducible] mksV
theorem owned_E (l : List Tr) (v5 v9 : Nat) (hb : ∀ k, k < l.length → (nth l k).ni.length ≤ 1048576 ∧ (nth l k).no.length ≤ 1048576) (Hi : Heap) (h205 : (Hi 205).ver = v5) (h209 : (Hi 209).ver = v9) (hl : l.length ≤ 1000000) : CallOK Try.prog 102 [(V.sl (List.map cT (l)))] Hi (V.ms 209 (v9 + 1 + l.length) 0 (l.length)) (upd (upd Hi 205 (⟨v5 + l.length, false, false, 0, 0, []⟩ : Blk)) 209 (⟨v9 + 1 + l.length, true, false, 63, 2, (List.map cT (l))⟩ : Blk)) := by
 refine CallOK_of_Wf (k0 := 200) Try.func102 s102_ok (by kernel_rfl) (by simp [s102]) fun hB => ?_
 simp only [bnd_map, bnd_int, bnd_bool, bnd_str, bnd_agg, bnd_pp, bnd_nil, bnd_cons, implies_true, and_true, true_and] at hB
 unfold s102
 dsimp only
 refine W_seq_regc (fun T H => T 0 = (V.sl (List.map cT (l))) ∧ (∀ j, j ∉ [205, 209] → H j = Hi j) ∧ (H 205).ver = v5 ∧ (H 209).ver = v9 ∧ True) ?_ ?_
 ·
  unfold r102_0
  refine R_mv (@rfl V V.nilsl) ?_
  exact R_nil ⟨rfl, (fun _ _ => rfl), h205, h209, trivial⟩
 intro T H ⟨t0, hF, h205, h209, _⟩
 refine W_seq_regc (fun T H => T 0 = (V.sl (List.map cT (l))) ∧ T 3 = (V.ms 209 (v9 + 1) 0 (0)) ∧ (∀ j, j ∉ [205, 209] → H j = Hi j) ∧ (H 205).ver = v5 ∧ H 209 = (⟨v9 + 1, true, false, 63, 2, (List.replicate (0) [V.nilsl, V.nilsl])⟩ : Blk) ∧ True) ?_ ?_
 ·
  unfold r102_1
  refine R_mv t0 ?_
  refine R_len (@rfl V (V.sl (List.map cT (l)))) ?_
  refine R_addN (m := l.length) (n := 1) (@rfl V (iV ((l.length : Nat) : Int))) (@rfl V (iV ((1 : Nat) : Int))) (by omega) ?_
  refine (R_mks (i := 209) (n := v9) (m := 0) (q := (l.length + 1)) (by rfl) h209 (@rfl V (iV (0 : Int))) (@rfl V (iV ((l.length + 1 : Nat) : Int))) (by omega) (by omega) (by omega) ?_)
  refine R_mv (@rfl V (V.ms 209 (v9 + 1) 0 (0))) ?_
  exact R_nil ⟨t0, rfl, (upd_out hF (by decide)), h205, rfl, trivial⟩
 intro T H ⟨t0, t3, hF, h205, h209, _⟩
 refine W_seq_seq ?_
 refine W_seq_regc (fun T H => T 3 = (V.ms 209 (v9 + 1) 0 (0)) ∧ T 10 = (V.sl (List.map cT (l))) ∧ T 11 = (iV ((l.length : Nat) : Int)) ∧ T 12 = (iV (0 : Int)) ∧ (∀ j, j ∉ [205, 209] → H j = Hi j) ∧ (H 205).ver = v5 ∧ H 209 = (⟨v9 + 1, true, false, 63, 2, (List.replicate (0) [V.nilsl, V.nilsl])⟩ : Blk) ∧ True) ?_ ?_
 ·
  unfold r102_2
  refine R_mv t0 ?_
  refine R_len (@rfl V (V.sl (List.map cT (l)))) ?_
  refine R_mv (@rfl V (iV (0 : Int))) ?_
  exact R_nil ⟨t3, rfl, rfl, rfl, hF, h205, h209, trivial⟩
 intro T H ⟨t3, t10, t11, t12, hF, h205, h209, _⟩
 refine W_seq_blockg fun Q1 n1 x1 y1 z1 => ?_
 refine W_loop (fun mm T H => ∃ (k : Nat), mm = l.length - k ∧ T 3 = (V.ms 209 (v9 + 1 + k) 0 (k)) ∧ T 10 = (V.sl (List.map cT (l))) ∧ T 11 = (iV ((l.length : Nat) : Int)) ∧ T 12 = (iV ((k : Nat) : Int)) ∧ (∀ j, j ∉ [205, 209] → H j = Hi j) ∧ (H 205).ver = v5 + k ∧ H 209 = (⟨v9 + 1 + k, true, false, 63, 2, (List.map cT ((l.take k)))⟩ : Blk) ∧ (k ≤ l.length)) ?_ ?_
 ·
  refine ⟨_, 0, rfl, (Eq.trans t3 (by first | rfl | (have e : k = l.length := (by omega); subst e; rfl))), t10, t11, (Eq.trans t12 (by first | rfl | (have e : k = l.length := (by omega); subst e; rfl))), hF, h205, (Eq.trans h209 (by first | rfl | (rw [take_succ_nth (by omega)]; rfl) | (have e : k = l.length := (by omega); subst e; rw [List.take_length]; done))), ?_⟩
  · omega
 intro mm T H ⟨k, hmm, t3, t10, t11, t12, hF, h205, h209, hk⟩ Q2 p12 p22 p32
 unfold b102_0
 refine W_seq_regc (fun T H => T 3 = (V.ms 209 (v9 + 1 + k) 0 (k)) ∧ T 10 = (V.sl (List.map cT (l))) ∧ T 11 = (iV ((l.length : Nat) : Int)) ∧ T 12 = (iV ((k : Nat) : Int)) ∧ T 13 = (V.bool (decide (((k : Nat) : Int) < ((l.length : Nat) : Int)))) ∧ (∀ j, j ∉ [205, 209] → H j = Hi j) ∧ (H 205).ver = v5 + k ∧ H 209 = (⟨v9 + 1 + k, true, false, 63, 2, (List.map cT ((l.take k)))⟩ : Blk) ∧ True) ?_ ?_
 ·
  unfold r102_3
  refine R_lss (x := ((k : Nat) : Int)) (y := ((l.length : Nat) : Int)) t12 t11 ?_
  exact R_nil ⟨t3, t10, t11, t12, rfl, hF, h205, h209, trivial⟩
 intro T H ⟨t3, t10, t11, t12, t13, hF, h205, h209, _⟩
 refine W_seq_if (p := ((k : Nat) : Int) < ((l.length : Nat) : Int)) t13 (fun c3 => ?_) (fun c3 => ?_)
 ·
  refine W_seq_skip ?_
  refine W_seq_blockg fun Q4 n4 x4 y4 z4 => ?_
  refine W_seq_regc (fun T H => T 3 = (V.ms 209 (v9 + 1 + k) 0 (k)) ∧ T 5 = (V.mp 205 (v5 + k + 1) 0 0) ∧ T 10 = (V.sl (List.map cT (l))) ∧ T 11 = (iV ((l.length : Nat) : Int)) ∧ T 12 = (iV ((k : Nat) : Int)) ∧ (∀ j, j ∉ [205, 209] → H j = Hi j) ∧ H 205 = (⟨v5 + k + 1, true, false, 63, 2, [[(V.sl (List.map cI ((nth (l) (k)).ni))), (V.sl (List.map cI ((nth (l) (k)).no)))]]⟩ : Blk) ∧ H 209 = (⟨v9 + 1 + k, true, false, 63, 2, (List.map cT ((l.take k)))⟩ : Blk) ∧ True) ?_ ?_
  ·
   unfold r102_4
   refine R_idx (i := k) t10 t12 (by omega) rfl ?_
   refine R_load_pp (v := (V.agg [(V.sl (List.map cI ((nth (l) (k)).ni))), (V.sl (List.map cI ((nth (l) (k)).no)))])) (@rfl V (V.pp [(V.sl (List.map cI ((nth (l) (k)).ni))), (V.sl (List.map cI ((nth (l) (k)).no)))])) (by first | rfl | simp [ldV]) ?_
   refine R_alloc (i := 205) (n := (v5 + k)) (m := 2) (by rfl) h205 rfl ?_
   refine R_store (vs := [(V.sl (List.map cI ((nth (l) (k)).ni))), (V.sl (List.map cI ((nth (l) (k)).no)))]) (B' := (⟨v5 + k + 1, true, false, 63, 2, [[(V.sl (List.map cI ((nth (l) (k)).ni))), (V.sl (List.map cI ((nth (l) (k)).no)))]]⟩ : Blk)) (@rfl V (V.mp 205 (v5 + k + 1) 0 0)) (@rfl V (V.agg [(V.sl (List.map cI ((nth (l) (k)).ni))), (V.sl (List.map cI ((nth (l) (k)).no)))])) rfl (@rfl Blk (⟨v5 + k + 1, true, false, 63, 2, [[V.nilsl, V.nilsl]]⟩ : Blk)) (by first | rfl | simp [stB, okB, Blk.own, putAt, V.one]) ?_
   exact R_nil ⟨t3, rfl, t10, t11, t12, (upd_out (upd_out hF (by decide)) (by decide)), rfl, h209, trivial⟩
  intro T H ⟨t3, t5, t10, t11, t12, hF, h205, h209, _⟩
  refine W_regc (fun T H => T 3 = (V.ms 209 (v9 + 1 + k + 1) 0 (k + 1)) ∧ T 10 = (V.sl (List.map cT (l))) ∧ T 11 = (iV ((l.length : Nat) : Int)) ∧ T 12 = (iV ((k : Nat) : Int)) ∧ (∀ j, j ∉ [205, 209] → H j = Hi j) ∧ H 205 = (⟨v5 + k + 1, true, false, 63, 2, [[(V.sl (List.map cI ((nth (l) (k)).ni))), (V.sl (List.map cI ((nth (l) (k)).no)))]]⟩ : Blk) ∧ H 209 = (⟨v9 + 1 + k + 1, true, false, 63, 2, (List.map cT ((l.take k) ++ [((nth (l) (k)))]))⟩ : Blk) ∧ True) ?_ ?_
  ·
   unfold r102_5
   refine R_mv t3 ?_
   refine R_load_mp (v := (V.agg [(V.sl (List.map cI ((nth (l) (k)).ni))), (V.sl (List.map cI ((nth (l) (k)).no)))])) t5 h205 (by first | rfl | simp [ldB, ldV, Blk.own, V.one]) ?_
   refine R_call (evcons (@rfl V (V.agg [(V.sl (List.map cI ((nth (l) (k)).ni))), (V.sl (List.map cI ((nth (l) (k)).no)))])) evnil) (copied_pure ((nth (l) (k))) (hb k (by omega)).1 (hb k (by omega)).2) (fzv_mapcanon _ _ (by simp [-List.map_take, -List.map_drop, -List.map_append, -List.map_reverse])) (by simp [-List.map_take, -List.map_drop, -List.map_append, -List.map_reverse]) (Or.inl (by simp [-List.map_take, -List.map_drop, -List.map_append, -List.map_reverse])) ?_
   refine R_bslice (qs := [(0, (V.agg [(V.sl (List.map cI (((nth (l) (k))).ni))), (V.sl (List.map cI (((nth (l) (k))).no)))]))]) (rows := [[(V.sl (List.map cI (((nth (l) (k))).ni))), (V.sl (List.map cI (((nth (l) (k))).no)))]]) (mcons (congrArg (fun v => (0, v)) (@rfl V (V.agg [(V.sl (List.map cI (((nth (l) (k))).ni))), (V.sl (List.map cI (((nth (l) (k))).no)))]))) rfl) rfl ?_
   refine R_append1 (l := ((l.take k))) (f := cT) (x := (((nth (l) (k))))) (@rfl V (V.ms 209 (v9 + 1 + k) 0 (k))) h209 (by first | rfl | (rw [List.length_take]; omega) | simp) (@rfl V (V.sl [[(V.sl (List.map cI (((nth (l) (k))).ni))), (V.sl (List.map cI (((nth (l) (k))).no)))]])) rfl rfl (by omega) (by omega) ?_
   refine R_mv (@rfl V (V.ms 209 (v9 + 1 + k + 1) 0 (k + 1))) ?_
   exact R_nil ⟨rfl, t10, t11, t12, (upd_out hF (by decide)), h205, rfl, trivial⟩
  intro T H ⟨t3, t10, t11, t12, hF, h205, h209, _⟩
  refine n4 _ _ ?_
  refine .done ?_
  refine W_regc (fun T H => T 3 = (V.ms 209 (v9 + 1 + k + 1) 0 (k + 1)) ∧ T 10 = (V.sl (List.map cT (l))) ∧ T 11 = (iV ((l.length : Nat) : Int)) ∧ T 12 = (iV ((k + 1 : Nat) : Int)) ∧ (∀ j, j ∉ [205, 209] → H j = Hi j) ∧ H 205 = (⟨v5 + k + 1, true, false, 63, 2, [[(V.sl (List.map cI ((nth (l) (k)).ni))), (V.sl (List.map cI ((nth (l) (k)).no)))]]⟩ : Blk) ∧ H 209 = (⟨v9 + 1 + k + 1, true, false, 63, 2, (List.map cT ((l.take k) ++ [((nth (l) (k)))]))⟩ : Blk) ∧ True) ?_ ?_
  ·
   unfold r102_6
   refine R_addN (m := k) (n := 1) t12 (@rfl V (iV ((1 : Nat) : Int))) (by omega) ?_
   refine R_mv (@rfl V (iV ((k + 1 : Nat) : Int))) ?_
   exact R_nil ⟨t3, t10, t11, rfl, hF, h205, h209, trivial⟩
  intro T H ⟨t3, t10, t11, t12, hF, h205, h209, _⟩
  refine p12 _ _ _ ?_ ⟨(k + 1), rfl, (Eq.trans t3 (by first | rfl | (have e : k = l.length := (by omega); subst e; rfl))), t10, t11, (Eq.trans t12 (by first | rfl | (have e : k = l.length := (by omega); subst e; rfl))), hF, (congrArg Blk.ver h205), (Eq.trans h209 (by first | rfl | (rw [take_succ_nth (by omega)]; rfl) | (have e : k = l.length := (by omega); subst e; rw [List.take_length]; done))), ?_⟩
  · omega
  · omega
 refine W_seq_exit ?_
 refine p32 _ _ _ ?_
 refine x1 _ _ ?_
 refine .done ?_
 refine W_seq_regc (fun T H => T 2 = (V.ms 209 (v9 + 1 + k) 0 (k)) ∧ (∀ j, j ∉ [205, 209] → H j = Hi j) ∧ (H 205).ver = v5 + k ∧ H 209 = (⟨v9 + 1 + k, true, false, 63, 2, (List.map cT ((l.take k)))⟩ : Blk) ∧ True) ?_ ?_
 ·
  unfold r102_7
  refine R_mv t3 ?_
  refine R_mv (@rfl V (V.ms 209 (v9 + 1 + k) 0 (k))) ?_
  exact R_nil ⟨rfl, hF, h205, h209, trivial⟩
 intro T H ⟨t2, hF, h205, h209, _⟩
 refine W_ret ?_
 have fh := FinX.fin (FinX.put (B := (⟨v9 + 1 + l.length, true, false, 63, 2, (List.map cT (l))⟩ : Blk)) (FinX.putv (n := (v5 + k)) (B := (⟨v5 + l.length, false, false, 0, 0, []⟩ : Blk)) (FinX.start hF) h205 (by show _ ≤ v5 + l.length; omega) rfl) h209 (FinB.up (by omega) (by first | rfl | (rw [take_succ_nth (by omega)]; rfl) | (have e : k = l.length := (by omega); subst e; rw [List.take_length]; done))))
 exact RetF_1 t2 fh (FinV.trans_eq (FinV.ms (n := (v9 + 1 + l.length)) fh (by simp [h209]) (by simp [h209]) rfl rfl) (by first | rfl | (have e : k = l.length := (by omega); subst e; rfl)))
end Go.Proofs.Ytngkckefanbhgaa

namespace Go.Proofs.Ytngkckefanbhgaa
open Go Go.Proofs
theorem add1_pure (u t : Tr) : PureC Try.prog 117 [(V.agg [(V.sl (List.map cI (u.ni))), (V.sl (List.map cI (u.no)))]), (V.pp [(V.sl (List.map cI (t.ni))), (V.sl (List.map cI (t.no)))])] (V.bool (hp t.ni u.ni)) := by
 refine pure_of_Wb true 6 Try.func117 s117_ok (by kernel_rfl) (by simp [s117]) (by simp) (by simp) fun hB => ?_
 simp only [bnd_map, bnd_int, bnd_bool, bnd_str, bnd_agg, bnd_pp, bnd_nil, bnd_cons, implies_true, and_true, true_and] at hB
 unfold s117
 dsimp only
 refine W_seq_regc (fun T H => T 1 = (V.pp [(V.sl (List.map cI (t.ni))), (V.sl (List.map cI (t.no)))]) ∧ T 2 = (V.mp 2 1 0 0) ∧ H 2 = (⟨1, true, false, 63, 2, [[(V.sl (List.map cI (u.ni))), (V.sl (List.map cI (u.no)))]]⟩ : Blk) ∧ True) ?_ ?_
 ·
  unfold r117_0
  refine R_box (i := 2) (n := 0) (m := 2) (cs := [(V.sl (List.map cI (u.ni))), (V.sl (List.map cI (u.no)))]) rfl (congrArg Blk.ver rfl) (@rfl V (V.agg [(V.sl (List.map cI (u.ni))), (V.sl (List.map cI (u.no)))])) rfl rfl ?_
  refine R_mv (@rfl V (V.bool false)) ?_
  exact R_nil ⟨rfl, rfl, rfl, trivial⟩
 intro T H ⟨t1, t2, h2, _⟩
 refine W_seq_regc (fun T H => T 3 = (V.bool (hp t.ni u.ni)) ∧ H 2 = (⟨1, true, false, 63, 2, [[(V.sl (List.map cI (u.ni))), (V.sl (List.map cI (u.no)))]]⟩ : Blk) ∧ True) ?_ ?_
 ·
  unfold r117_1
  refine R_fld_pp (cs' := [(V.sl (List.map cI (t.ni))), (V.sl (List.map cI (t.no)))]) t1 rfl ?_
  refine R_load_pp (v := (V.sl (List.map cI (t.ni)))) (@rfl V (V.pp [(V.sl (List.map cI (t.ni))), (V.sl (List.map cI (t.no)))])) (by first | rfl | simp [ldV]) ?_
  refine R_fld_mp (o' := 0) t2 h2 (by first | rfl | simp [okB, Blk.own]) rfl ?_
  refine R_load_mp (v := (V.sl (List.map cI (u.ni)))) (@rfl V (V.mp 2 1 0 0)) h2 (by first | rfl | simp [ldB, ldV, Blk.own, V.one]) ?_
  refine R_call (evcons (@rfl V (V.sl (List.map cI (t.ni)))) (evcons (@rfl V (V.sl (List.map cI (u.ni)))) evnil)) (hp_pure t.ni u.ni) (fzv_mapcanon _ _ (by simp [-List.map_take, -List.map_drop, -List.map_append, -List.map_reverse])) (by simp [-List.map_take, -List.map_drop, -List.map_append, -List.map_reverse]) (Or.inl (by simp [-List.map_take, -List.map_drop, -List.map_append, -List.map_reverse])) ?_
  refine R_mv (@rfl V (V.bool (hp t.ni u.ni))) ?_
  exact R_nil ⟨rfl, h2, trivial⟩
 intro T H ⟨t3, h2, _⟩
 refine W_ret ?_
 refine Ret_1 t3 (fz_canon (by simp) rfl)
end Go.Proofs.Ytngkckefanbhgaa

namespace Go.Proofs.Ytngkckefanbhgaa
open Go
def knw (l : List Tr) (w : List Int) : Nat → Nat
  | 0 => 0
  | n + 1 => max (knw l w n) (cmn (nth l n).ni w)
theorem knw_zero {l : List Tr} {w : List Int} : knw l w 0 = 0 := rfl
theorem knw_succ {l : List Tr} {w : List Int} {n : Nat} : knw l w (n + 1) = max (knw l w n) (cmn (nth l n).ni w) := rfl
end Go.Proofs.Ytngkckefanbhgaa

namespace Go.Proofs.Ytngkckefanbhgaa
open Go
theorem fi_bnd {p : Nat → Bool} : ∀ n k, -1 ≤ fi p k n ∧ (0 ≤ fi p k n → fi p k n < ((k + n : Nat) : Int))
  | 0, k => ⟨Int.le_refl _, fun h => by simp [fi] at h⟩
  | n + 1, k => by
    simp only [fi]
    split
    · exact ⟨by omega, fun _ => by omega⟩
    · have h := fi_bnd (p := p) n (k + 1)
      exact ⟨h.1, fun h0 => by have := h.2 h0; omega⟩
theorem df_bnd (a b : Tr) : -1 ≤ df a b ∧ df a b ≤ cmn a.ni b.ni ∧ (0 ≤ df a b → df a b < cmn a.ni b.ni) := by
  have h := fi_bnd (p := dfE a b) (cmn a.ni b.ni) 0
  unfold df
  refine ⟨h.1, ?_, fun h0 => by have := h.2 h0; omega⟩
  by_cases h0 : 0 ≤ fi (dfE a b) 0 (cmn a.ni b.ni)
  · have := h.2 h0; omega
  · omega
def clA (l : List Tr) (t : Tr) : Nat → Nat × Int
  | 0 => (t.ni.length, 0)
  | n + 1 => if 0 ≤ df (nth l n) t ∧ df (nth l n) t < ((clA l t n).1 : Nat) then ((df (nth l n) t).toNat, nth (nth l n).no (df (nth l n) t).toNat) else clA l t n
theorem clA_zero {l : List Tr} {t : Tr} : clA l t 0 = (t.ni.length, 0) := rfl
theorem clA_hit {l : List Tr} {t : Tr} {n : Nat} (h : 0 ≤ df (nth l n) t ∧ df (nth l n) t < ((clA l t n).1 : Nat)) : clA l t (n + 1) = ((df (nth l n) t).toNat, nth (nth l n).no (df (nth l n) t).toNat) := if_pos h
theorem clA_skip {l : List Tr} {t : Tr} {n : Nat} (h : ¬(0 ≤ df (nth l n) t ∧ df (nth l n) t < ((clA l t n).1 : Nat))) : clA l t (n + 1) = clA l t n := if_neg h
theorem clA_le {l : List Tr} {t : Tr} : ∀ n, (clA l t n).1 ≤ t.ni.length
  | 0 => Nat.le_refl _
  | n + 1 => by
    by_cases h : 0 ≤ df (nth l n) t ∧ df (nth l n) t < ((clA l t n).1 : Nat)
    · rw [clA_hit h]; have := clA_le (l := l) (t := t) n; simp only; omega
    · rw [clA_skip h]; exact clA_le n
def clB (o : Ob) (t : Tr) : Prop := prE t o.i = 0 ∧ (clA o.tr t o.tr.length).1 ≠ t.ni.length
instance (o : Ob) (t : Tr) : Decidable (clB o t) := by unfold clB; infer_instance
def clW (o : Ob) (t : Tr) : List Int := if clB o t then t.ni.take ((clA o.tr t o.tr.length).1 + 1) else []
def clF (o : Ob) (t : Tr) : Int := if clB o t then (clA o.tr t o.tr.length).2 else 0
def clS (o : Ob) (t : Tr) : Int := if clB o t then nth t.no (clA o.tr t o.tr.length).1 else 0
end Go.Proofs.Ytngkckefanbhgaa

namespace Go.Proofs.Ytngkckefanbhgaa
def lbP (t u : Tr) : Bool := decide (slx u.ni t.ni < 0)
def lbN (l : List Tr) (t : Tr) : Nat := (l.takeWhile (lbP t)).length
def Srt (l : List Tr) : Prop := l.Pairwise fun a b => slx a.ni b.ni < 0
theorem lb_cons {t a : Tr} {l : List Tr} : lbN (a :: l) t = if lbP t a = true then lbN l t + 1 else 0 := by
  unfold lbN; rw [List.takeWhile_cons]; split <;> rfl
theorem lb_le {t : Tr} : ∀ l : List Tr, lbN l t ≤ l.length
  | [] => Nat.le_refl _
  | a :: l => by rw [lb_cons]; have := lb_le (t := t) l; split <;> simp <;> omega
theorem lb_iff {t : Tr} : ∀ {l : List Tr} (_ : Srt l) {k : Nat}, k < l.length → (slx (nth l k).ni t.ni < 0 ↔ k < lbN l t)
  | [], _, k, hk => by simp at hk
  | a :: l, h, k, hk => by
    rw [lb_cons]
    obtain ⟨h1, h2⟩ := List.pairwise_cons.1 h
    by_cases e : lbP t a = true
    · rw [if_pos e]
      cases k with
      | zero => rw [nth_zero]; simp only [lbP, decide_eq_true_eq] at e; exact ⟨fun _ => by omega, fun _ => e⟩
      | succ k => rw [nth_succ, lb_iff h2 (by simpa using hk)]; omega
    · rw [if_neg e]
      simp only [lbP, decide_eq_true_eq] at e
      refine ⟨fun h3 => ?_, fun h3 => by omega⟩
      cases k with
      | zero => exact (e h3).elim
      | succ k =>
        rw [nth_succ] at h3
        exact (e (slx_trans (h1 _ (nth_mem (by simpa using hk))) h3)).elim
theorem lb_split {t : Tr} : ∀ {l : List Tr} (_ : Srt l), l.take (lbN l t) = l.filter (lbP t) ∧ l.drop (lbN l t) = l.filter fun u => !lbP t u
  | [], _ => ⟨rfl, rfl⟩
  | a :: l, h => by
    obtain ⟨h1, h2⟩ := List.pairwise_cons.1 h
    rw [lb_cons]
    by_cases e : lbP t a = true
    · obtain ⟨g1, g2⟩ := lb_split (t := t) h2
      rw [if_pos e]; simp [e, g1, g2]
    · rw [if_neg e]
      have hn : ∀ u ∈ l, lbP t u = false := fun u hu => by
        simp only [lbP, decide_eq_true_eq, decide_eq_false_iff_not] at e ⊢
        exact fun h3 => e (slx_trans (h1 u hu) h3)
      have e' : lbP t a = false := by simpa using e
      refine ⟨?_, ?_⟩
      · rw [List.take_zero, List.filter_cons, if_neg e, List.filter_eq_nil_iff.2 fun u hu => by simp [hn u hu]]
      · rw [List.drop_zero, List.filter_cons, if_pos (by simp [e']), List.filter_eq_self.2 fun u hu => by simp [hn u hu]]
def kp (t u : Tr) : Bool := !hp t.ni u.ni
def dlF (t : Tr) (l : List Tr) (k : Nat) : List Tr := (l.take k).filter (kp t)
def dlL (t : Tr) (l : List Tr) (k : Nat) : List Tr := dlF t l k ++ l.drop (dlF t l k).length
theorem dlF_le (t : Tr) (l : List Tr) (k : Nat) : (dlF t l k).length ≤ k ∧ (dlF t l k).length ≤ l.length := by
  have h := List.length_filter_le (kp t) (l.take k)
  rw [List.length_take] at h
  unfold dlF; omega
theorem dlL_len (t : Tr) (l : List Tr) (k : Nat) : (dlL t l k).length = l.length := by
  have := dlF_le t l k
  unfold dlL; rw [List.length_append, List.length_drop]; omega
theorem dlL_nth {t : Tr} {l : List Tr} {k : Nat} : nth (dlL t l k) k = nth l k := by
  have := (dlF_le t l k).1
  unfold dlL
  have e : nth (dlF t l k ++ l.drop (dlF t l k).length) ((dlF t l k).length + (k - (dlF t l k).length)) = nth (l.drop (dlF t l k).length) (k - (dlF t l k).length) := nth_app_r
  rw [nth_dropn] at e
  rw [show (dlF t l k).length + (k - (dlF t l k).length) = k by omega] at e
  exact e
theorem dlF_keep {t : Tr} {l : List Tr} {k : Nat} (hk : k < l.length) (h : kp t (nth l k) = true) : dlF t l (k + 1) = dlF t l k ++ [nth l k] := by
  unfold dlF; rw [take_succ_nth hk, List.filter_append]; simp [h]
theorem dlF_skip {t : Tr} {l : List Tr} {k : Nat} (hk : k < l.length) (h : ¬kp t (nth l k) = true) : dlF t l (k + 1) = dlF t l k := by
  unfold dlF; rw [take_succ_nth hk, List.filter_append]; simp [h]
theorem dlL_skip {t : Tr} {l : List Tr} {k : Nat} (hk : k < l.length) (h : ¬kp t (nth l k) = true) : dlL t l (k + 1) = dlL t l k := by
  unfold dlL; rw [dlF_skip hk h]
theorem set_append_drop {α : Type} {a l : List α} {x : α} (h : a.length < l.length) : (a ++ l.drop a.length).set a.length x = a ++ [x] ++ l.drop (a.length + 1) := by
  rw [List.drop_eq_getElem_cons h]
  rw [List.set_append_right _ _ (Nat.le_refl _), Nat.sub_self, List.set_cons_zero]; simp
theorem dlL_keep {t : Tr} {l : List Tr} {k : Nat} (hk : k < l.length) (h : kp t (nth l k) = true) : (dlL t l k).set (dlF t l k).length (nth l k) = dlL t l (k + 1) := by
  have := (dlF_le t l k).1
  unfold dlL
  rw [dlF_keep hk h, set_append_drop (by omega)]
  simp
theorem dl_none {t : Tr} {l : List Tr} (h : fi (fun j => (fun u : Tr => hp t.ni u.ni) (nth l j)) 0 l.length < 0) : l.filter (kp t) = l := by
  replace h : fi (fun j => hp t.ni (nth l j).ni) 0 l.length < 0 := h
  refine List.filter_eq_self.2 fun u hu => ?_
  obtain ⟨j, hj, rfl⟩ := mem_nth hu
  unfold kp
  cases e : hp t.ni (nth l j).ni with
  | false => rfl
  | true =>
    have := fi_iff (p := fun j => hp t.ni (nth l j).ni) (n := l.length) (k := 0) |>.2 ⟨j, Nat.zero_le _, by omega, e⟩
    omega
theorem dl_start {t : Tr} {l : List Tr} (h : 0 ≤ fi (fun j => (fun u : Tr => hp t.ni u.ni) (nth l j)) 0 l.length) :
    ∃ i : Nat, fi (fun j => (fun u : Tr => hp t.ni u.ni) (nth l j)) 0 l.length = i ∧ i < l.length ∧ (dlF t l (i + 1)).length = i ∧ dlL t l (i + 1) = l := by
  show ∃ i : Nat, fi (fun j => hp t.ni (nth l j).ni) 0 l.length = i ∧ i < l.length ∧ (dlF t l (i + 1)).length = i ∧ dlL t l (i + 1) = l
  replace h : 0 ≤ fi (fun j => hp t.ni (nth l j).ni) 0 l.length := h
  obtain ⟨_, h2, h3, h4⟩ := fi_val h
  refine ⟨(fi (fun j => hp t.ni (nth l j).ni) 0 l.length).toNat, by omega, by omega, ?_⟩
  generalize (fi (fun j => hp t.ni (nth l j).ni) 0 l.length).toNat = i at h2 h3 h4
  have e1 : dlF t l i = l.take i := List.filter_eq_self.2 fun u hu => by
    obtain ⟨j, hj, rfl⟩ := mem_nth hu
    rw [List.length_take] at hj
    rw [nth_take (by omega)]
    unfold kp; rw [h4 j (Nat.zero_le _) (by omega)]; rfl
  have e2 : dlF t l (i + 1) = l.take i := by rw [dlF_skip (by omega) (by unfold kp; rw [show hp t.ni (nth l i).ni = true from h3]; decide), e1]
  have e3 : (l.take i).length = i := by rw [List.length_take]; omega
  refine ⟨by rw [e2, e3], ?_⟩
  unfold dlL; rw [e2, e3, List.take_append_drop]
def inP (l : List Tr) (t : Tr) (j : Nat) : Bool := hp (nth l j).ni t.ni
def ndP (l : List Tr) (t : Tr) (j : Nat) : Bool := decide (0 ≤ df (nth l j) t)
def ins (l : List Tr) (t : Tr) : List Tr := l.filter (lbP t) ++ t :: l.filter fun u => !lbP t u
def inL (l : List Tr) (t : Tr) : Prop := exB (inP l t) 0 l.length = true ∨ t.ni.length = 0
instance (l : List Tr) (t : Tr) : Decidable (inL l t) := inferInstanceAs (Decidable (_ ∨ _))
def addL (l : List Tr) (t : Tr) : List Tr := if inL l t then l else ins (l.filter (kp t)) t
def addE (l : List Tr) (t : Tr) : Int := if 0 ≤ fi (ndP l t) 0 l.length then 13 else if inL l t then 0 else if (l.filter (kp t)).length = 10000 then 11 else 0
theorem ins_len (l : List Tr) (t : Tr) : (ins l t).length = l.length + 1 := by
  unfold ins
  rw [List.length_append, List.length_cons]
  have : ∀ m : List Tr, (m.filter (lbP t)).length + (m.filter fun u => !lbP t u).length = m.length := fun m => by
    induction m with
    | nil => rfl
    | cons a m ih => cases e : lbP t a <;> simp [e] <;> omega
  have := this l
  omega
theorem OK.srt {o : Ob} (h : OK o) : Srt o.tr := by
  rw [Srt, List.pairwise_iff_getElem]
  intro i j hi hj hij
  rw [nth_getElem hi, nth_getElem hj]
  exact OK.lt_of h.ord hij hj
theorem filter_srt {l : List Tr} (h : Srt l) (p : Tr → Bool) : Srt (l.filter p) := h.filter p
theorem ins_at {l : List Tr} {t : Tr} (h : Srt l) : l.take (lbN l t) ++ t :: l.drop (lbN l t) = ins l t := by
  obtain ⟨h1, h2⟩ := lb_split (t := t) h
  rw [h1, h2, ins]
def okR (a b : Tr) : Prop := slx a.ni b.ni < 0 ∧ hp b.ni a.ni = false ∧ df a b < 0
theorem OK.pair {o : Ob} (h : OK o) : o.tr.Pairwise okR := by
  rw [List.pairwise_iff_getElem]
  intro i j hi hj hij
  rw [nth_getElem hi, nth_getElem hj]
  exact ⟨OK.lt_of h.ord hij hj, h.pre i j hij hj, h.cla i j hij hj⟩
theorem OK.of {i : Int} {l : List Tr} (hi : 1 ≤ i ∧ i ≤ 64) (hl : l.length ≤ 10000) (hm : ∀ t ∈ l, Proper t i ∧ 0 < t.ni.length) (h : l.Pairwise okR) : OK ⟨i, l⟩ := by
  rw [List.pairwise_iff_getElem] at h
  have h' : ∀ a b, a < b → b < l.length → okR (nth l a) (nth l b) := fun a b hab hb => by
    have := h a b (by omega) hb hab
    rwa [nth_getElem, nth_getElem] at this
  exact ⟨hi, hl, fun k hk => hm _ (nth_mem hk), fun k hk => (h' k (k + 1) (by omega) hk).1, fun a b hab hb => (h' a b hab hb).2.1, fun a b hab hb => (h' a b hab hb).2.2⟩
theorem not_inL {l : List Tr} {t : Tr} (h : ¬inL l t) {u : Tr} (hu : u ∈ l) : hp u.ni t.ni = false := by
  obtain ⟨j, hj, rfl⟩ := mem_nth hu
  cases e : hp (nth l j).ni t.ni with
  | false => rfl
  | true => exact (h (.inl (exB_iff.2 ⟨j, hj, by rw [Nat.zero_add]; exact e⟩))).elim
theorem hp_self (w : List Int) : hp w w = true := by unfold hp; rw [cmn_self]; simp
theorem lt_of_not {l : List Tr} {t : Tr} (h : ¬inL l t) {u : Tr} (hu : u ∈ l) : slx t.ni u.ni < 0 ↔ lbP t u = false := by
  have h1 := not_inL h hu
  simp only [lbP, decide_eq_false_iff_not]
  refine ⟨fun h2 h3 => ?_, fun h2 => ?_⟩
  · have := slx_neg h2; omega
  · by_cases e : slx u.ni t.ni = 0
    · rw [slx_zero.1 e, hp_self] at h1; cases h1
    · exact slx_pos (by omega)
theorem not_ndet {l : List Tr} {t : Tr} (h : ¬0 ≤ fi (ndP l t) 0 l.length) {u : Tr} (hu : u ∈ l) : df u t < 0 := by
  obtain ⟨j, hj, rfl⟩ := mem_nth hu
  by_cases e : 0 ≤ df (nth l j) t
  · exact (h (fi_iff.2 ⟨j, Nat.zero_le _, by omega, by simp [ndP, e]⟩)).elim
  · omega
theorem add_ok {i : Int} {l : List Tr} {t : Tr} (ho : OK ⟨i, l⟩) (ht : prE t i = 0) (he : addE l t = 0) : OK ⟨i, addL l t⟩ := by
  unfold addE at he
  split at he; · cases he
  rename_i hn
  split at he
  · rename_i h1; unfold addL; rw [if_pos h1]; exact ho
  rename_i h1
  split at he; · cases he
  rename_i h2
  unfold addL; rw [if_neg h1]
  have hlen := ho.len
  have hfl := List.length_filter_le (kp t) l
  refine OK.of ho.hi (by rw [ins_len]; simp only at hlen; omega) (fun u hu => ?_) ?_
  · simp only [ins, List.mem_append, List.mem_cons, List.mem_filter] at hu
    rcases hu with h | rfl | h
    · exact ho.mem h.1.1
    · exact ⟨prE_ok ht, by have : ¬u.ni.length = 0 := fun e => h1 (.inr e); omega⟩
    · exact ho.mem h.1.1
  · have hp := (ho.pair.filter (kp t))
    simp only [ins]
    rw [List.pairwise_append]
    refine ⟨hp.filter _, List.pairwise_cons.2 ⟨fun y hy => ?_, hp.filter _⟩, fun x hx y hy => ?_⟩
    · simp only [List.mem_filter] at hy
      obtain ⟨⟨g1, g2⟩, g3⟩ := hy
      exact ⟨(lt_of_not h1 g1).2 (by simpa using g3), not_inL h1 g1, by rw [df_comm]; exact not_ndet hn g1⟩
    · simp only [List.mem_filter, List.mem_cons] at hx hy
      obtain ⟨⟨g1, g2⟩, g3⟩ := hx
      rcases hy with rfl | ⟨⟨k1, k2⟩, k3⟩
      · exact ⟨by simpa [lbP] using g3, by simpa [kp] using g2, not_ndet hn g1⟩
      · have hxy : slx x.ni y.ni < 0 := by
          obtain ⟨q1, q2⟩ : slx x.ni t.ni < 0 ∧ slx t.ni y.ni < 0 := ⟨by simpa [lbP] using g3, (lt_of_not h1 k1).2 (by simpa using k3)⟩
          exact slx_trans q1 q2
        obtain ⟨a, ha, rfl⟩ := mem_nth g1
        obtain ⟨b, hb, rfl⟩ := mem_nth k1
        have hab : a < b := by
          rcases Nat.lt_trichotomy a b with h | h | h
          · exact h
          · subst h; rw [slx_zero.2 rfl] at hxy; omega
          · have := OK.lt_of ho.ord h ha; have := slx_neg hxy; simp only at *; omega
        exact ⟨hxy, ho.pre a b hab hb, ho.cla a b hab hb⟩
def doA (l : List Tr) (t : Tr) : Nat → Bool
  | 0 => decide (t.ni.length = 0)
  | k + 1 => doA l t k || hp (nth l k).ni t.ni
def kpR (t u : Tr) : Bool := !hp t.ni u.ni || decide (t.ni.length = u.ni.length)
def raS (l : List Tr) (t : Tr) : Nat → List Tr × Bool
  | 0 => ([], doA l t l.length)
  | k + 1 =>
    let a := if (!(raS l t k).2 && decide (slx t.ni (nth l k).ni < 0)) = true then ((raS l t k).1 ++ [t], true) else raS l t k
    if kpR t (nth l k) = true then (a.1 ++ [nth l k], a.2) else a
def raL (l : List Tr) (t : Tr) : List Tr := if (raS l t l.length).2 = true then (raS l t l.length).1 else (raS l t l.length).1 ++ [t]
section
variable {l : List Tr} {t : Tr} {k : Nat}
theorem raS_tt (h1 : (!(raS l t k).2 && decide (slx t.ni (nth l k).ni < 0)) = true) (h2 : kpR t (nth l k) = true) : raS l t (k + 1) = ((raS l t k).1 ++ [t] ++ [nth l k], true) := by
  simp only [raS]; rw [if_pos h1, if_pos h2]
theorem raS_tf (h1 : (!(raS l t k).2 && decide (slx t.ni (nth l k).ni < 0)) = true) (h2 : kpR t (nth l k) = false) : raS l t (k + 1) = ((raS l t k).1 ++ [t], true) := by
  simp only [raS]; rw [if_pos h1, if_neg (by simp [h2])]
theorem raS_ft (h1 : (!(raS l t k).2 && decide (slx t.ni (nth l k).ni < 0)) = false) (h2 : kpR t (nth l k) = true) : raS l t (k + 1) = ((raS l t k).1 ++ [nth l k], (raS l t k).2) := by
  have e : ¬(!(raS l t k).2 && decide (slx t.ni (nth l k).ni < 0)) = true := by rw [h1]; decide
  simp only [raS]; rw [if_neg e, if_pos h2]
theorem raS_ff (h1 : (!(raS l t k).2 && decide (slx t.ni (nth l k).ni < 0)) = false) (h2 : kpR t (nth l k) = false) : raS l t (k + 1) = raS l t k := by
  have e : ¬(!(raS l t k).2 && decide (slx t.ni (nth l k).ni < 0)) = true := by rw [h1]; decide
  have e2 : ¬kpR t (nth l k) = true := by rw [h2]; decide
  simp only [raS]; rw [if_neg e2, if_neg e]
end
theorem doA_iff (l : List Tr) (t : Tr) : ∀ k, doA l t k = true ↔ t.ni.length = 0 ∨ exB (inP l t) 0 k = true
  | 0 => by simp [doA, exB]
  | k + 1 => by
    simp only [doA, Bool.or_eq_true, doA_iff l t k, exB_iff, Nat.zero_add, inP]
    constructor
    · rintro ((h | ⟨j, h1, h2⟩) | h)
      · exact .inl h
      · exact .inr ⟨j, by omega, h2⟩
      · exact .inr ⟨k, by omega, h⟩
    · rintro (h | ⟨j, h1, h2⟩)
      · exact .inl (.inl h)
      · by_cases e : j = k
        · subst e; exact .inr h2
        · exact .inl (.inr ⟨j, by omega, h2⟩)
theorem doA_in (l : List Tr) (t : Tr) : doA l t l.length = true ↔ inL l t := by rw [doA_iff]; exact Or.comm
theorem hp_trans {a b c : List Int} (h1 : hp a b = true) (h2 : hp b c = true) : hp a c = true := by
  obtain ⟨x, rfl⟩ := hp_iff.1 h1
  obtain ⟨y, rfl⟩ := hp_iff.1 h2
  exact hp_iff.2 ⟨y ++ x, by simp⟩
theorem hp_eq {a b : List Int} (h1 : hp a b = true) (h2 : a.length ≤ b.length) : a = b := by
  obtain ⟨x, rfl⟩ := hp_iff.1 h1
  have : x = [] := by cases x with
    | nil => rfl
    | cons c x => simp at h2; omega
  simp [this]
theorem kp_in {o : Ob} (ho : OK o) {t : Tr} (h : inL o.tr t) {k : Nat} (hk : k < o.tr.length) : kpR t (nth o.tr k) = true := by
  unfold kpR
  cases e : hp t.ni (nth o.tr k).ni with
  | false => rfl
  | true =>
    simp only [Bool.not_true, Bool.false_or, decide_eq_true_eq]
    rcases h with h | h
    · obtain ⟨j, hj, h1⟩ := exB_iff.1 h
      rw [Nat.zero_add] at h1
      have h2 : hp (nth o.tr j).ni (nth o.tr k).ni = true := hp_trans h1 e
      have h3 := hp_len h1
      have h4 := hp_len e
      rcases Nat.lt_trichotomy j k with q | q | q
      · have h5 := OK.lt_of ho.ord q hk
        have h6 := hp_len h2
        unfold slx at h5
        split at h5
        · omega
        · split at h5
          · omega
          · have : (nth o.tr j).ni = (nth o.tr k).ni := hp_eq h2 (by omega)
            rw [this, lexI_zero.2 rfl] at h5; omega
      · subst q; omega
      · rw [ho.pre k j q hj] at h2; cases h2
    · have := hp_len e
      have := (ho.pr k hk).2
      omega
theorem raS_in {o : Ob} (ho : OK o) {t : Tr} (h : inL o.tr t) : ∀ {k : Nat}, k ≤ o.tr.length → raS o.tr t k = (o.tr.take k, true)
  | 0, _ => by simp [raS, (doA_in o.tr t).2 h]
  | k + 1, hk => by
    simp only [raS, raS_in ho h (show k ≤ o.tr.length by omega), kp_in ho h (show k < o.tr.length by omega)]
    simp [take_succ_nth (show k < o.tr.length by omega)]
theorem kp_out {l : List Tr} {t : Tr} (h : ¬inL l t) {u : Tr} (hu : u ∈ l) : kpR t u = kp t u := by
  unfold kpR kp
  cases e : hp t.ni u.ni with
  | false => rfl
  | true =>
    simp only [Bool.not_true, Bool.false_or, decide_eq_false_iff_not]
    intro q
    have := hp_eq e (by omega)
    have h1 := not_inL h hu
    rw [this, hp_self] at h1; cases h1
theorem raS_out {o : Ob} (ho : OK o) {t : Tr} (h : ¬inL o.tr t) : ∀ {k : Nat}, k ≤ o.tr.length →
    ((raS o.tr t k).2 = false ∧ (raS o.tr t k).1 = (o.tr.take k).filter (kp t) ∧ ∀ u ∈ o.tr.take k, lbP t u = true) ∨
    ((raS o.tr t k).2 = true ∧ (raS o.tr t k).1 = ins ((o.tr.take k).filter (kp t)) t ∧ ∃ j, j < k ∧ lbP t (nth o.tr j) = false)
  | 0, _ => by
    refine .inl ⟨?_, by simp [raS], by simp⟩
    simp only [raS]
    cases e : doA o.tr t o.tr.length with
    | false => rfl
    | true => exact (h ((doA_in o.tr t).1 e)).elim
  | k + 1, hk => by
    have hk' : k < o.tr.length := by omega
    have hm : nth o.tr k ∈ o.tr := nth_mem hk'
    have ek := kp_out h hm
    have et : (o.tr.take (k + 1)).filter (kp t) = (o.tr.take k).filter (kp t) ++ if kp t (nth o.tr k) = true then [nth o.tr k] else [] := by
      rw [take_succ_nth hk', List.filter_append]; cases e : kp t (nth o.tr k) <;> simp [e]
    have hlt := lt_of_not h hm
    have insF : ∀ (F : List Tr), (∀ u ∈ F, lbP t u = true) → ins F t = F ++ [t] := fun F hF => by
      unfold ins; rw [List.filter_eq_self.2 hF, List.filter_eq_nil_iff.2 fun u hu => by simp [hF u hu]]
    have insA : ∀ (F : List Tr) (x : Tr), lbP t x = false → ins (F ++ [x]) t = ins F t ++ [x] := fun F x hx => by
      unfold ins; simp [List.filter_append, hx]
    rcases raS_out ho h (show k ≤ o.tr.length by omega) with ⟨g1, g2, g3⟩ | ⟨g1, g2, j, g3, g4⟩
    · by_cases c : slx t.ni (nth o.tr k).ni < 0
      · have c2 := hlt.1 c
        right
        have hF : ∀ u ∈ (o.tr.take k).filter (kp t), lbP t u = true := fun u hu => g3 u (List.mem_filter.1 hu).1
        refine ⟨?_, ?_, k, by omega, c2⟩
        · simp only [raS, g1, c, ek]; cases e : kp t (nth o.tr k) <;> simp
        · rw [et]
          simp only [raS, g1, c, ek]
          cases e : kp t (nth o.tr k)
          · simp [g2, insF _ hF]
          · simp [insA _ _ c2, g2, insF _ hF]
      · have c2 : lbP t (nth o.tr k) = true := by
          cases e : lbP t (nth o.tr k) with
          | true => rfl
          | false => exact (c (hlt.2 e)).elim
        left
        refine ⟨?_, ?_, fun u hu => ?_⟩
        · simp only [raS, g1, c, ek]; cases e : kp t (nth o.tr k) <;> simp [g1]
        · rw [et]
          simp only [raS, g1, c, ek]
          cases e : kp t (nth o.tr k) <;> simp [g2]
        · rw [take_succ_nth hk', List.mem_append, List.mem_singleton] at hu
          rcases hu with hu | rfl
          · exact g3 u hu
          · exact c2
    · have c2 : lbP t (nth o.tr k) = false := by
        have h5 := OK.lt_of ho.ord g3 hk'
        simp only [lbP, decide_eq_false_iff_not] at g4 ⊢
        exact fun q => g4 (slx_trans h5 q)
      right
      refine ⟨?_, ?_, j, by omega, g4⟩
      · simp only [raS, g1, ek]; cases e : kp t (nth o.tr k) <;> simp [g1]
      · rw [et]
        simp only [raS, g1, ek]
        cases e : kp t (nth o.tr k)
        · simp [g2]
        · simp [insA _ _ c2, g2]
theorem raL_eq {o : Ob} (ho : OK o) (t : Tr) : raL o.tr t = addL o.tr t := by
  unfold raL addL
  by_cases h : inL o.tr t
  · rw [if_pos h, raS_in ho h (Nat.le_refl _)]; simp
  · rw [if_neg h]
    rcases raS_out ho h (Nat.le_refl o.tr.length) with ⟨g1, g2, g3⟩ | ⟨g1, g2, _⟩
    · rw [g1, g2, List.take_length] at *
      simp only [Bool.false_eq_true, if_false]
      unfold ins
      have hF : ∀ u ∈ o.tr.filter (kp t), lbP t u = true := fun u hu => g3 u (List.mem_filter.1 hu).1
      generalize o.tr.filter (kp t) = F at hF ⊢
      rw [List.filter_eq_self.2 hF, List.filter_eq_nil_iff.2 fun u hu => by simp [hF u hu]]
    · rw [g1, g2, List.take_length]; simp
theorem raS_len {l : List Tr} {t : Tr} : ∀ k, (raS l t k).1.length ≤ 2 * k
  | 0 => by simp [raS]
  | k + 1 => by
    have := raS_len (l := l) (t := t) k
    simp only [raS]
    split <;> split <;> simp <;> omega
end Go.Proofs.Ytngkckefanbhgaa

