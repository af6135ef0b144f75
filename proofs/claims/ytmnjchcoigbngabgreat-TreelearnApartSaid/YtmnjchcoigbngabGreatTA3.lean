/- Contracts of the functions that the law TA reaches, and the law itself, for every input; no condition. -/
import Derived.KernelRfl
import Derived.Test.YtmnjchcoigbngabGreatProg
import Derived.Shelf.Spec.SlicesInsertGrow
import Derived.Test.YtmnjchcoigbngabGreatTA2
set_option linter.unusedSimpArgs false
set_option linter.unusedVariables false
namespace Go.Proofs.YtmnjchcoigbngabGreat
open Go Go.Proofs
theorem dnode_pure (t:Dt) (n:Int) (b:Bool):PureC Tryz.prog 103 [(V.agg [(V.sl (List.map cN (t.nd)))]),(iV (n)),(V.bool b)] (iV (noE t n b)):=by
 refine pW Tryz.func103 s103_ok fun hB=>?_
 unfold s103
 dsimp only
 refine W_r (R_box (i:=3) (n:=0) (m:=1) (cs:=[(V.sl (List.map cN (t.nd)))]) rfl (congrArg Blk.ver rfl) rfl rfl rfl (R_mv rfl (R_e (W_seq_blockg fun Q1 n1 x1 y1 z1=>(W_r (R_mv rfl (R_lss rfl rfl ?_)))))))
 refine R_mv rfl ?_
 refine Ops_seg 6 (fun T H=>T 1=(iV (n))∧T 2=(V.bool b)∧T 3=(V.mp 3 1 0 0)∧T 16=(V.bool (decide (((n) < (0:Int))∨(((t.nd.length:Nat):Int)≤(n)))))∧H 3=(bk 1 24 1 [[(V.sl (List.map cN (t.nd)))]])∧True) ?_ ?_
 ·
  by_cases g2:(n) < (0:Int)
  ·
   refine G_n (edT g2 rfl) (G_n (edT g2 rfl) (G_n (edT g2 rfl) (G_n (edT g2 rfl) (G_n (edT g2 rfl) (R_pickT (edT g2 rfl) rfl ?_)))))
   exact ⟨rfl,rfl,rfl,(dec_orT g2),rfl,trivial⟩
  ·
   refine G_yes (edF g2 rfl) (R_mv rfl (G_yes (edF g2 rfl) (R_fk rfl rfl (G_yes (edF g2 rfl) (R_lk rfl rfl rfl rfl (G_yes (edF g2 rfl) (R_len rfl ?_)))))))
   refine G_yes (edF g2 rfl) (R_geq rfl rfl (R_pickF (edF g2 rfl) rfl ?_))
   exact ⟨rfl,rfl,rfl,(dec_orF g2),rfl,trivial⟩
 intro T H ⟨t1,t2,t3,t16,h3,_⟩
 refine R_mv t16 (R_e ?_)
 refine W_if rfl (fun c3=>?_) fun c3=>?_
 ·
  refine W_r (R_mv rfl (R_e (W_ret (y1 _ _ ?_))))
  refine Ret_1 (@rfl V (iV (2:Int))) (fz_int ?_)
  · rw [noE,if_pos (by omega)]
 refine W_r (R_fk t3 h3 (R_lk rfl h3 rfl rfl (R_mv t1 (R_idxI (i:=(n)) (@rfl V (V.sl (List.map cN (t.nd)))) (@rfl V (iV (n))) (by omega) (by omega) rfl (R_fld_pp (cs':=(cN (((nth (t.nd) (n).toNat))))) rfl rfl (R_load_pp rfl rfl (R_mv t2 ?_)))))))
 refine R_bneq (x:=(((nth (t.nd) (n).toNat)).lf)) (y:=b) rfl rfl (R_mv rfl (R_e ?_))
 refine W_ifb rfl (fun c4=>?_) (fun c4=>?_)
 ·
  have d1:(nth t.nd n.toNat).lf≠b:=by simpa using c4
  refine W_r (R_mv rfl (R_e (W_ret (y1 _ _ ?_))))
  refine Ret_1 (@rfl V (iV (10:Int))) (fz_int ?_)
  · rw [noE,if_neg (by omega),if_pos d1]
 have d1: ¬((nth t.nd n.toNat).lf≠b):=by simpa using c4
 refine W_skip (n1 _ _ (.done (W_r (R_mv rfl (R_e (W_ret ?_))))))
 refine Ret_1 (@rfl V (iV (0:Int))) (fz_int ?_)
 · rw [noE,if_neg (by omega),if_neg d1]
def s106:SF:=⟨15,[.tmp 4],.seq (.reg [sO 2 (.box 24 1 (.t 0)),qI 4 0]) (.seq (.seq (.reg [qM 6 1,sO 7 (.call false 100 [.t 6,.c (.int .i64 64)]),qM 5 7]) (.seq (.reg [qM 8 5,qC 9 .neq 8 0]) (.cond (.t 9) (.seq (.reg [qM 10 5,qM 4 10]) (.ret)) (.skip)))) (.seq (.seq (.reg [qL 11 1 2,sO 12 (.call false 102 [.t 11]),qM 13 1,sO 14 (.call false 158 [.t 12,.t 13])]) (.cond (.t 14) (.seq (.reg [qI 4 7]) (.ret)) (.skip))) (.seq (.reg [qI 4 0]) (.ret))))⟩
theorem s106_ok:slimF Tryz.prog ⟨[107,108,109,116,120,126,127,167,169,170,171,172,194,196,198,209,222,226],[]⟩ Tryz.f106=some s106:=by kernel_rfl
def s158:SF:=⟨8,[.tmp 4],.seq (.reg [sO 3 (.box 54 1 (.t 1)),sO 4 (.mv (.c (.bool false)))]) (.seq (.reg [qM 5 0,sO 6 (.mkf 190 [.t 3]),sO 7 (.call false 189 [.t 5,.t 6]),qM 4 7]) (.ret))⟩
theorem s158_ok:slimF Tryz.prog ⟨[107,108,109,116,120,126,127,167,169,170,171,172,194,196,198,209,222,226],[]⟩ Tryz.f158=some s158:=by kernel_rfl
def s189:SF:=⟨9,[.tmp 4],.seq (.reg [sO 4 (.mv (.c (.bool false)))]) (.seq (.reg [qM 5 0,qM 6 1,sO 7 (.call false 59 [.t 5,.t 6]),qC 8 .geq 7 0,qM 4 8]) (.ret))⟩
theorem s189_ok:slimF Tryz.prog ⟨[107,108,109,116,120,126,127,167,169,170,171,172,194,196,198,209,222,226],[]⟩ Tryz.f189=some s189:=by kernel_rfl
def b59_0:SC:=.seq (.reg [qP 9 .lss 8 7]) (.seq (.cond (.t 9) (.skip) (.exit 0)) (.seq (.block 1 (.seq (.reg [qM 10 8,qM 5 10]) (.seq (.reg [qM 11 1,qM 12 0,qM 13 5,qA 14 1 12 13,ql 15 14,sO 16 (.callv false (.t 11) [.t 15])]) (.cond (.t 16) (.seq (.reg [qM 17 5,qM 4 17]) (.ret)) (.skip))))) (.reg [qC 18 .add 8 1,qM 8 18])))
def s59:SF:=⟨19,[.tmp 4],.seq (.reg [qI 4 0]) (.seq (.seq (.reg [qM 6 0,qN 7 6,qI 8 0]) (.block 0 (.loop b59_0))) (.seq (.reg [sO 4 (.mv (.c (.int .i64 (-1))))]) (.ret)))⟩
theorem s59_ok:slimF Tryz.prog ⟨[107,108,109,116,120,126,127,167,169,170,171,172,194,196,198,209,222,226],[]⟩ Tryz.f59=some s59:=by kernel_rfl
theorem idxw_pure (p:(List Int)→Bool) (w:List (List Int)) (g:Nat) (caps:List V) (hca:canonL caps=true) (hpu:pureL caps=true) (hq: ∀ k,k < w.length→PureC Tryz.prog g (ints (nth w k)::caps) (.bool (p (nth w k)))):PureC Tryz.prog 59 [(intss w),(V.fn g [] caps)] (iV (fi (fun jx=>p (nth w jx)) 0 w.length)):=by
 refine pure_of_Wb true 6 Tryz.func59 s59_ok (by kernel_rfl) (by simp [s59]) (by simp [hpu]) (by simp) fun hB=>?_
 simp only [bnd_map,bnd_int,bnd_bool,bnd_str,bnd_agg,bnd_pp,bnd_nil,bnd_cons,implies_true,and_true,true_and] at hB
 unfold s59
 dsimp only
 refine W_r (R_mv rfl (R_e (W_seq_seq (W_r (R_mv rfl (R_len rfl (R_mv rfl ?_)))))))
 refine R_e (W_seq_blockg fun Q1 n1 x1 y1 z1=>?_)
 refine W_loop (fun mm T H=> ∃ (k:Nat),mm=w.length - k∧T 0=(intss w)∧T 1=(V.fn g [] caps)∧T 7=(iV ((w.length:Nat):Int))∧T 8=(iV ((k:Nat):Int))∧(k≤w.length)∧(fi (fun j=>p (nth w j)) 0 w.length=fi (fun j=>p (nth w j)) k (w.length - k))) ?_ ?_
 ·
  refine ⟨_,0,rfl,rfl,rfl,rfl,(Eq.trans (@rfl V (iV (0:Int))) rfl),?_,?_⟩
  · omega
  · rfl
 intro mm T H ⟨k,hmm,t0,t1,t7,t8,hk,hc⟩ Q2 p12 p22 p32
 unfold b59_0
 refine W_r (R_lss t8 t7 (R_e ?_))
 refine W_seq_if rfl (fun c3=>?_) fun c3=>?_
 ·
  refine W_seq_skip (W_seq_blockg fun Q4 n4 x4 y4 z4=>(W_r (R_mv t8 (R_mv rfl (R_e (W_r (R_mv t1 ?_)))))))
  refine R_mv t0 (R_mv rfl (R_idx (i:=k) (@rfl V (intss w)) (@rfl V (iV ((k:Nat):Int))) (by omega) rfl (R_load_pp rfl rfl (R_callv (@rfl V (V.fn g [] caps)) (evcons (@rfl V (ints ((nth (w) (k))))) evnil) (hq k (by omega)) (fzv_mapcanon _ _ (by simp [hca])) (by simp [hpu]) (Or.inl (by simp [hpu])) (R_e ?_)))))
  refine W_ifb rfl (fun c5=>?_) (fun c5=>?_)
  ·
   have d1:=c5
   refine W_r (R_mv rfl (R_mv rfl (R_e (W_ret (y4 _ _ (p22 _ _ (y1 _ _ ?_)))))))
   refine Ret_1 (@rfl V (iV ((k:Nat):Int))) (fz_int ?_)
   · rw [hc,fi_hit (by exact d1) (by omega)]
  have d1:=c5
  refine W_skip (n4 _ _ (.done (W_t (R_addN t8 (@rfl V (iV ((1:Nat):Int))) (by omega) (R_mv rfl (R_e ?_))))))
  refine p12 _ _ _ ?_ ⟨(k+1),rfl,t0,t1,t7,(Eq.trans (@rfl V (iV ((k+1:Nat):Int))) (by rfl)),?_,?_⟩
  · omega
  · omega
  · rw [hc,fi_skip (by exact d1) (by omega)]
 refine W_seq_exit (p32 _ _ _ (x1 _ _ (.done (W_r (R_mv rfl (R_e (W_ret ?_)))))))
 refine Ret_1 (@rfl V (iV (-1:Int))) (fz_int ?_)
 · rw [hc,fi_end (by omega)]
theorem conw_pure (p:(List Int)→Bool) (w:List (List Int)) (g:Nat) (caps:List V) (hca:canonL caps=true) (hpu:pureL caps=true) (hq: ∀ k,k < w.length→PureC Tryz.prog g (ints (nth w k)::caps) (.bool (p (nth w k)))):PureC Tryz.prog 189 [(intss w),(V.fn g [] caps)] (V.bool (decide (0≤fi (fun jx=>p (nth w jx)) 0 w.length))):=by
 refine pure_of_Wb true 6 Tryz.func189 s189_ok (by kernel_rfl) (by simp [s189]) (by simp [hpu]) (by simp) fun hB=>?_
 simp only [bnd_map,bnd_int,bnd_bool,bnd_str,bnd_agg,bnd_pp,bnd_nil,bnd_cons,implies_true,and_true,true_and] at hB
 unfold s189
 dsimp only
 refine W_r (R_mv rfl (R_e (W_r (R_mv rfl (R_mv rfl (R_call (evcons (@rfl V (intss w)) (evcons (@rfl V (V.fn g [] caps)) evnil)) (idxw_pure p w g caps hca hpu hq) (fzv_mapcanon _ _ (by simp [hca,hpu,-List.map_take,-List.map_drop,-List.map_append,-List.map_reverse])) (by simp [hca,hpu,-List.map_take,-List.map_drop,-List.map_append,-List.map_reverse]) (Or.inl (by simp [hca,hpu,-List.map_take,-List.map_drop,-List.map_append,-List.map_reverse])) (R_geq rfl rfl ?_)))))))
 refine R_mv rfl (R_e (W_ret ?_))
 refine Ret_1 (@rfl V (V.bool (decide ((0:Int)≤(fi (fun jx=>p (nth w jx)) 0 w.length))))) (fz_bool ?_)
 · first|rfl|omega|simp_all
def s190:SF:=⟨7,[.tmp 3],.seq (.reg [sO 3 (.mv (.c (.bool false)))]) (.seq (.reg [qM 4 0,ql 5 1,sO 6 (.call false 61 [.t 4,.t 5]),qM 3 6]) (.ret))⟩
theorem s190_ok:slimF Tryz.prog ⟨[107,108,109,116,120,126,127,167,169,170,171,172,194,196,198,209,222,226],[]⟩ Tryz.f190=some s190:=by kernel_rfl
def r61_6:List SO:=[
 qM 16 0,
 qM 17 5,
 qA 18 1 16 17,
 ql 19 18,
 qM 20 1,
 qM 21 5,
 qA 22 1 20 21,
 ql 23 22,
 qP 24 .neq 19 23]
def b61_0:SC:=.seq (.reg [qP 14 .lss 13 12]) (.seq (.cond (.t 14) (.skip) (.exit 0)) (.seq (.block 1 (.seq (.reg [qM 15 13,qM 5 15]) (.seq (.reg r61_6) (.cond (.t 24) (.seq (.reg [sO 4 (.mv (.c (.bool false)))]) (.ret)) (.skip))))) (.reg [qC 25 .add 13 1,qM 13 25])))
def s61:SF:=⟨26,[.tmp 4],.seq (.reg [sO 4 (.mv (.c (.bool false)))]) (.seq (.seq (.reg [qM 6 0,qN 7 6,qM 8 1,qN 9 8,qP 10 .neq 7 9]) (.cond (.t 10) (.seq (.reg [sO 4 (.mv (.c (.bool false)))]) (.ret)) (.skip))) (.seq (.seq (.reg [qM 11 0,qN 12 11,qI 13 0]) (.block 0 (.loop b61_0))) (.seq (.reg [sO 4 (.mv (.c (.bool true)))]) (.ret))))⟩
theorem s61_ok:slimF Tryz.prog ⟨[107,108,109,116,120,126,127,167,169,170,171,172,194,196,198,209,222,226],[]⟩ Tryz.f61=some s61:=by kernel_rfl
theorem sequal_pure (a b:List Int):PureC Tryz.prog 61 [(ints a),(ints b)] (V.bool (decide (a=b))):=by
 refine pW Tryz.func61 s61_ok fun hB=>?_
 unfold s61
 dsimp only
 refine W_r (R_mv rfl (R_e (W_seq_seq (W_r (R_mv rfl (R_len rfl (R_mv rfl ?_)))))))
 refine R_len rfl (R_neq rfl rfl (R_e ?_))
 refine W_seq_if rfl (fun c1=>?_) fun c1=>?_
 ·
  refine W_seq_seq (W_r (R_mv rfl (R_e (W_seq_ret ?_))))
  refine Ret_1 (@rfl V (V.bool false)) (fz_bool ?_)
  · exact (decide_eq_false (fun e=>by subst e; omega)).symm
 refine W_seq_skip (W_seq_seq (W_r (R_mv rfl (R_len rfl (R_mv rfl (R_e (W_seq_blockg fun Q2 n2 x2 y2 z2=>?_)))))))
 refine W_loop (fun mm T H=> ∃ (k:Nat),mm=a.length - k∧T 0=(ints a)∧T 1=(ints b)∧T 12=(iV ((a.length:Nat):Int))∧T 13=(iV ((k:Nat):Int))∧(k≤a.length)∧(a.length=b.length)∧(∀ j,j < k→nth a j=nth b j)) ?_ ?_
 ·
  refine ⟨_,0,rfl,rfl,rfl,rfl,(Eq.trans (@rfl V (iV (0:Int))) rfl),?_,?_,?_⟩
  · omega
  · omega
  · intro j hj; omega
 intro mm T H ⟨k,hmm,t0,t1,t12,t13,hk,hl,hc⟩ Q3 p13 p23 p33
 unfold b61_0
 refine W_r (R_lss t13 t12 (R_e ?_))
 refine W_seq_if rfl (fun c4=>?_) fun c4=>?_
 ·
  refine W_seq_skip (W_seq_blockg fun Q5 n5 x5 y5 z5=>(W_r (R_mv t13 (R_mv rfl (R_e (W_r (R_mv t0 ?_)))))))
  refine R_mv rfl (R_idx (i:=k) (@rfl V (ints a)) (@rfl V (iV ((k:Nat):Int))) (by omega) rfl (R_load_pp rfl rfl (R_mv t1 (R_mv rfl (R_idx (i:=k) (@rfl V (ints b)) (@rfl V (iV ((k:Nat):Int))) (by omega) rfl (R_load_pp rfl rfl (R_neq rfl rfl ?_)))))))
  refine R_e ?_
  refine W_if rfl (fun c6=>?_) fun c6=>?_
  ·
   refine W_r (R_mv rfl (R_e (W_ret (y5 _ _ (p23 _ _ (y2 _ _ ?_))))))
   refine Ret_1 (@rfl V (V.bool false)) (fz_bool ?_)
   · exact (decide_eq_false (fun e=>by subst e; omega)).symm
  refine W_skip (n5 _ _ (.done (W_t (R_addN t13 (@rfl V (iV ((1:Nat):Int))) (by omega) (R_mv rfl (R_e ?_))))))
  refine p13 _ _ _ ?_ ⟨(k+1),rfl,t0,t1,t12,(Eq.trans (@rfl V (iV ((k+1:Nat):Int))) (by rfl)),?_,?_,?_⟩
  · omega
  · omega
  · omega
  · intro j hj
    by_cases e:j=k
    · subst e; omega
    · exact hc j (by omega)
 refine W_seq_exit (p33 _ _ _ (x2 _ _ (.done (W_r (R_mv rfl (R_e (W_ret ?_)))))))
 refine Ret_1 (@rfl V (V.bool true)) (fz_bool ?_)
 · exact (decide_eq_true (nth_ext hl fun j hj=>hc j (by omega))).symm
theorem has1_pure (v w:List Int):PureC Tryz.prog 190 [(ints v),(V.pp [(ints w)])] (V.bool (decide (v=w))):=by
 refine pW Tryz.func190 s190_ok fun hB=>?_
 unfold s190
 dsimp only
 refine W_r (R_mv rfl (R_e (W_r (R_mv rfl (R_load_pp rfl rfl (R_callk (sequal_pure v w) rfl (R_mv rfl ?_)))))))
 refine R_e (W_ret ?_)
 refine Ret_1 (@rfl V (V.bool (decide (v=w)))) (fz_canon (by simp) rfl)
theorem has_pure (l:List (List Int)) (w:List Int):PureC Tryz.prog 158 [(intss l),(ints w)] (V.bool (decide (w∈l))):=by
 refine pW Tryz.func158 s158_ok fun hB=>?_
 unfold s158
 dsimp only
 refine W_r (R_box (i:=3) (n:=0) (m:=1) (cs:=[(ints w)]) rfl (congrArg Blk.ver rfl) rfl rfl rfl (R_mv rfl (R_e (W_r (R_mv rfl (R_mkf (evcons rfl evnil) (R_call (evcons (@rfl V (intss l)) (evcons (@rfl V (V.fn 190 [] [(V.mp 3 1 0 0)])) evnil)) (conw_pure (fun v=>decide (v=w)) l 190 ([(V.pp [(ints w)])]) (by simp) (by simp) (fun k _=>has1_pure (nth l k) w)) (mcons (fzv_canon 6 _ (by simp [-List.map_take,-List.map_drop,-List.map_append,-List.map_reverse])) (mcons (by simp [fzv,Blk.own]) rfl)) (by simp [-List.map_take,-List.map_drop,-List.map_append,-List.map_reverse]) (Or.inr rfl) ?_)))))))
 refine R_mv rfl (R_e (W_ret ?_))
 refine Ret_1 (@rfl V (V.bool (decide (0≤fi (fun jx=>(fun v=>decide (v=w)) (nth l jx)) 0 l.length)))) (fz_bool ?_)
 · exact decide_eq_decide.2 fi_mem
theorem dfresh_pure (t:Dt) (w:List Int) (hb:Bd t):PureC Tryz.prog 106 [(V.agg [(V.sl (List.map cN (t.nd)))]),(ints w)] (iV (fsE t w)):=by
 refine pW Tryz.func106 s106_ok fun hB=>?_
 unfold s106
 dsimp only
 refine W_r (R_box (i:=2) (n:=0) (m:=1) (cs:=[(V.sl (List.map cN (t.nd)))]) rfl (congrArg Blk.ver rfl) rfl rfl rfl (R_mv rfl (R_e (W_seq_seq (W_r (R_mv rfl (R_callk (check_pure w ((64:Int))) rfl ?_)))))))
 refine R_mv rfl (R_e (W_seq_seq (W_r (R_mv rfl (R_neq rfl rfl (R_e ?_))))))
 refine W_seq_if rfl (fun c1=>?_) fun c1=>?_
 ·
  refine W_seq_seq (W_r (R_mv rfl (R_mv rfl (R_e (W_seq_ret ?_)))))
  refine Ret_1 (@rfl V (iV (wchk w ((64:Int))))) (fz_int ?_)
  · rw [fsE,if_pos (by omega)]
 refine W_seq_skip (W_seq_seq (W_r (R_lk rfl rfl rfl rfl (R_callk (access_pure t hb) rfl (R_mv rfl (R_callk (has_pure (acL t.nd) w) rfl (R_e ?_)))))))
 refine W_seq_if rfl (fun c2=>?_) fun c2=>?_
 ·
  have d1:w∈acL t.nd:=by simpa using c2
  refine W_seq_seq (W_r (R_mv rfl (R_e (W_seq_ret ?_))))
  refine Ret_1 (@rfl V (iV (7:Int))) (fz_int ?_)
  · rw [fsE,if_neg (by omega),if_pos d1]
 have d1: ¬(w∈acL t.nd):=by simpa using c2
 refine W_seq_skip (W_r (R_mv rfl (R_e (W_ret ?_))))
 refine Ret_1 (@rfl V (iV (0:Int))) (fz_int ?_)
 · rw [fsE,if_neg (by omega),if_neg d1]
def r107_10:List SO:=[
 qM 36 6,
 qM 37 8,
 sO 38 (.bslice 54 1 false [.nilsl] 1 [(0,.t 37)]),
 sO 39 (.call false 69 [.t 38]),
 sO 40 (.bslice 54 1 false [.nilsl] 1 [(0,.t 39)]),
 sO 41 (.append 54 1 24 (.t 36) (.t 40)),
 qM 6 41]
def b107_1:SC:=.seq (.reg [qP 33 .lss 32 31]) (.seq (.cond (.t 33) (.skip) (.exit 2)) (.seq (.block 3 (.seq (.reg [qA 34 1 30 32,ql 35 34,qM 8 35]) (.reg r107_10))) (.reg [qC 42 .add 32 1,qM 32 42])))
def r107_12:List SO:=[
 qM 43 3,
 qM 44 4,
 qF 45 0 5,
 ql 46 45,
 qF 47 1 5,
 ql 48 47,
 sO 49 (.bslice 54 1 false [.nilsl] 1 [(0,.t 48)]),
 sO 50 (.call false 69 [.t 49]),
 qF 51 2 5,
 ql 52 51,
 sO 53 (.bslice 54 1 false [.nilsl] 1 [(0,.t 52)]),
 sO 54 (.call false 69 [.t 53]),
 qM 55 6,
 qF 56 4 5,
 ql 57 56,
 sO 58 (.callA 159 [.t 57]),
 sO 59 (.build [.bool false,.nilsl,.nilsl,.nilsl,.nilsl] [(0,1,.t 46),(1,1,.t 50),(2,1,.t 54),(3,1,.t 55),(4,1,.t 58)]),
 qA 60 5 43 44,
 sN (.store 5 (.t 60) (.t 59))]
def b107_0:SC:=.seq (.reg [qP 20 .lss 19 18]) (.seq (.cond (.t 20) (.skip) (.exit 0)) (.seq (.block 1 (.seq (.reg [qM 21 19,qA 22 5 17 19,qL 23 5 22,sO 5 (.alloc 99 [.bool false,.nilsl,.nilsl,.nilsl,.nilsl]),qM 4 21,sN (.store 5 (.t 5) (.t 23))]) (.seq (.reg [qF 24 3 5,ql 25 24,qN 26 25,qC 27 .add 26 1,sO 28 (.mks 54 1 24 [.nilsl] (.c (.int .i64 0)) (.t 27)),qM 6 28]) (.seq (.seq (.reg [qF 29 3 5,ql 30 29,qN 31 30,qI 32 0]) (.block 2 (.loop b107_1))) (.dreg [58] r107_12))))) (.reg [qC 61 .add 19 1,qM 19 61])))
def s107:SF:=⟨64,[.cell 2 true 1],.seq (.reg [sO 1 (.box 24 1 (.t 0)),sO 2 (.alloc 24 [.nilsl])]) (.seq (.reg [qF 9 0 1,ql 10 9,qN 11 10,sO 12 (.mks 99 5 104 [.bool false,.nilsl,.nilsl,.nilsl,.nilsl] (.t 11) (.t 11)),qM 3 12]) (.seq (.reg [qM 13 3,qF 14 0 1,ql 15 14,sO 16 (.cpy 5 (.t 13) (.t 15))]) (.seq (.seq (.reg [qM 17 3,qN 18 17,qI 19 0]) (.block 0 (.loop b107_0))) (.seq (.reg [qM 62 3,sO 63 (.build [.nilsl] [(0,1,.t 62)]),sN (.store 1 (.t 2) (.t 63))]) (.ret)))))⟩
theorem s107_ok:slimF Tryz.prog ⟨[107,108,109,116,120,126,127,167,169,170,171,172,194,196,198,209,222,226],[58]⟩ Tryz.f107=some s107:=by kernel_rfl
end Go.Proofs.YtmnjchcoigbngabGreat
namespace Go.Proofs.YtmnjchcoigbngabGreat
open Go Go.Proofs
attribute [local irreducible] mksV
theorem copied_E (t:Dt) (u1 u2 u5 u12 u28 u58:Nat) (Hi:Heap) (hb:Bd t) (h201:(Hi 201).ver=u1) (h202:(Hi 202).ver=u2) (h205:(Hi 205).ver=u5) (h212:(Hi 212).ver=u12) (h228:(Hi 228).ver=u28) (h258:(Hi 258).ver=u58∧(Hi 258).live=false):CallOK Tryz.prog 107 [(V.agg [(V.sl (List.map cN (t.nd)))])] Hi (V.agg [(V.ms 212 (u12+1) 0 (t.nd.length))]) (upd (upd (upd (upd (upd (upd Hi 201 (⟨u1+1,false,false,0,0,[]⟩:Blk)) 202 (⟨u2+1,false,false,0,0,[]⟩:Blk)) 205 (⟨u5+t.nd.length,false,false,0,0,[]⟩:Blk)) 228 (⟨u28+t.nd.length*1048578,false,false,0,0,[]⟩:Blk)) 258 (⟨u58+3*t.nd.length,false,false,0,0,[]⟩:Blk)) 212 (bk (u12+1) 99 5 (List.map cN (t.nd)))):=by
 refine eW (k0:=200) Tryz.func107 s107_ok fun hB=>?_
 have hbn:=hb.n
 unfold s107
 dsimp only
 refine W_r (R_box (i:=201) (n:=u1) (m:=1) (cs:=[(V.sl (List.map cN (t.nd)))]) (by rfl) h201 rfl rfl rfl (R_alloc (i:=202) (n:=u2) (m:=1) (by rfl) h202 rfl (R_e (W_r (R_fk rfl rfl (R_lk rfl rfl rfl rfl (R_len rfl ?_)))))))
 refine (R_mks (i:=212) (n:=u12) (m:=t.nd.length) (q:=t.nd.length) (by rfl) h212 (@rfl V (iV ((t.nd.length:Nat):Int))) (@rfl V (iV ((t.nd.length:Nat):Int))) (by omega) (by omega) (by omega) ?_)
 refine R_mv rfl (R_e (W_r (R_mv rfl (R_fk rfl rfl (R_lk rfl rfl rfl rfl (R_cpyd (l:=t.nd) (f:=cN) (n:=5) (@rfl V (V.ms 212 (u12+1) 0 (t.nd.length))) (@rfl V (V.sl (List.map cN (t.nd)))) (@rfl Blk (bk (u12+1) 99 5 (List.replicate (t.nd.length) [(V.bool false),V.nilsl,V.nilsl,V.nilsl,V.nilsl]))) (by simp) (fun _=>⟨rfl,rfl⟩) (R_e ?_)))))))
 refine W_seq_seq (W_r (R_mv rfl (R_len_ms rfl (@rfl Blk (bk (u12+1) 99 5 (List.map cN (t.nd)))) (by simp) (R_mv rfl (R_e (W_seq_blockg fun Q1 n1 x1 y1 z1=>?_))))))
 refine W_loop (fun mm T H=> ∃ (k:Nat) (v205:Nat) (v228:Nat) (v258:Nat),mm=t.nd.length - k∧T 2=(V.mp 202 (u2+1) 0 0)∧T 3=(V.ms 212 (u12+1) 0 (t.nd.length))∧T 17=(V.ms 212 (u12+1) 0 (t.nd.length))∧T 18=(iV ((t.nd.length:Nat):Int))∧T 19=(iV ((k:Nat):Int))∧(∀ j,j∉[201,202,205,228,258,212]→H j=Hi j)∧H 201=(bk (u1+1) 24 1 [[(V.sl (List.map cN (t.nd)))]])∧H 202=(bk (u2+1) 24 1 [[V.nilsl]])∧(H 205).ver=v205∧H 212=(bk (u12+1) 99 5 (List.map cN (t.nd)))∧(H 228).ver=v228∧((H 258).ver=v258∧(H 258).live=false)∧(k≤t.nd.length)∧(v205=u5+k)∧(v228≤u28+k*1048578)∧(v258=u58+3*k)) ?_ ?_
 ·
  refine ⟨_,0,u5,u28,u58,rfl,rfl,rfl,rfl,rfl,(Eq.trans (@rfl V (iV (0:Int))) rfl),(upd_out (upd_out (upd_out (upd_out (fun _ _=>rfl) (by decide)) (by decide)) (by decide)) (by decide)),rfl,rfl,h205,rfl,h228,h258,?_,?_,?_,?_⟩
  · omega
  · omega
  · omega
  · omega
 intro mm T H ⟨k,v205,v228,v258,hmm,t2,t3,t17,t18,t19,hF,h201,h202,h205,h212,h228,h258,hk,hv5,hv28,hv7⟩ Q2 p12 p22 p32
 unfold b107_0

 refine W_r (R_lss t19 t18 (R_e ?_))
 refine W_seq_if rfl (fun c3=>?_) fun c3=>?_
 ·
  have r1:=hb.ac k (by omega)
  have r2:=hb.sf k (by omega)
  have r3:=hb.ou k (by omega)
  have r4:=hb.kd k (by omega)
  have r5:=hb.ol k (by omega)
  refine W_seq_skip (W_seq_blockg fun Q4 n4 x4 y4 z4=>(W_r (R_mv t19 (R_idx_ms0 (i:=k) t17 t19 h212 oB rfl (by omega) (R_load_mp (v:=(V.agg (cN (((nth (t.nd) (k))))))) rfl h212 (ldB_map (by omega) (by rfl)) (R_alloc (i:=205) (n:=v205) (m:=5) (by rfl) h205 rfl (R_mv rfl ?_)))))))
  refine R_sk rfl rfl rfl rfl rfl rfl rfl rfl rfl (R_e (W_r (R_fk rfl rfl (R_lk rfl rfl rfl rfl (R_len rfl (R_addN rfl (@rfl V (iV ((1:Nat):Int))) (by omega) ?_))))))
  refine (R_mks (i:=228) (n:=v228) (m:=0) (q:=(((((nth (t.nd) (k))).ou).length)+1)) (by rfl) h228 (@rfl V (iV (0:Int))) (@rfl V (iV ((((((nth (t.nd) (k))).ou).length)+1:Nat):Int))) (by omega) (by omega) (by omega) ?_)
  refine R_mv rfl (R_e (W_seq_seq (W_r (R_fk rfl rfl (R_lk rfl rfl rfl rfl (R_len rfl (R_mv rfl ?_)))))))
  refine R_e (W_seq_blockg fun Q5 n5 x5 y5 z5=>?_)
  refine W_loop (fun mm T H=> ∃ (j:Nat) (w:Nat),mm=(nth t.nd k).ou.length - j∧T 2=(V.mp 202 (u2+1) 0 0)∧T 3=(V.ms 212 (u12+1) 0 (t.nd.length))∧T 4=(iV ((k:Nat):Int))∧T 5=(V.mp 205 (v205+1) 0 0)∧T 6=(V.ms 228 w 0 (j))∧T 17=(V.ms 212 (u12+1) 0 (t.nd.length))∧T 18=(iV ((t.nd.length:Nat):Int))∧T 19=(iV ((k:Nat):Int))∧T 30=(intss (((nth (t.nd) (k))).ou))∧T 31=(iV (((((nth (t.nd) (k))).ou).length:Nat):Int))∧T 32=(iV ((j:Nat):Int))∧(∀ j,j∉[201,202,205,228,258,212]→H j=Hi j)∧H 201=(bk (u1+1) 24 1 [[(V.sl (List.map cN (t.nd)))]])∧H 202=(bk (u2+1) 24 1 [[V.nilsl]])∧H 205=(bk (v205+1) 99 5 [(cN (((nth (t.nd) (k)))))])∧H 212=(bk (u12+1) 99 5 (List.map cN (t.nd)))∧H 228=(bk w 54 1 (List.map cL ((nth t.nd k).ou.take j)))∧((H 258).ver=v258∧(H 258).live=false)∧(j≤(nth t.nd k).ou.length)∧(w≤v228+1+j)) ?_ ?_
  ·
   refine ⟨_,0,(v228+1),rfl,t2,t3,rfl,rfl,(Eq.trans (@rfl V (V.ms 228 (v228+1) 0 (0))) (by rfl)),t17,t18,t19,rfl,rfl,(Eq.trans (@rfl V (iV (0:Int))) rfl),(upd_out (upd_out (upd_out hF (by decide)) (by decide)) (by decide)),h201,h202,rfl,h212,(Eq.trans (@rfl Blk (bk (v228+1) 54 1 (List.replicate (0) [V.nilsl]))) (by rfl)),h258,?_,?_⟩
   · omega
   · omega
  intro mm T H ⟨j,w,hmm,t2,t3,t4,t5,t6,t17,t18,t19,t30,t31,t32,hF,h201,h202,h205,h212,h228,h258,hj,hw⟩ Q6 p16 p26 p36
  unfold b107_1
  refine W_r (R_lss t32 t31 (R_e ?_))
  refine W_seq_if rfl (fun c7=>?_) fun c7=>?_
  ·
   have r6:=r5 j (by omega)
   refine W_seq_skip (W_seq_blockg fun Q8 n8 x8 y8 z8=>(W_r (R_idx (i:=j) t30 t32 (by omega) rfl (R_load_pp rfl rfl (R_mv rfl (R_e (W_t ?_)))))))
   refine R_mv t6 (R_mv rfl (R_bslice rfl rfl (R_callk (pjoin_pure ([(nth (((nth (t.nd) (k))).ou) (j))]) (by simp only [cat,List.append_nil]; omega)) rfl (R_bslice rfl rfl (R_append1 (l:=((nth t.nd k).ou.take j)) (f:=cL) (x:=(cat ([(nth (((nth (t.nd) (k))).ou) (j))]))) (@rfl V (V.ms 228 w 0 (j))) h228 (by (rw [List.length_take]; omega)) (@rfl V (V.sl [[(ints (cat ([(nth (((nth (t.nd) (k))).ou) (j))])))]])) rfl rfl (by omega) (by omega) (R_mv rfl (R_e ?_)))))))
   refine n8 _ _ (.done (W_t (R_addN t32 (@rfl V (iV ((1:Nat):Int))) (by omega) (R_mv rfl (R_e ?_)))))
   refine p16 _ _ _ ?_ ⟨(j+1),(w+1),rfl,t2,t3,t4,t5,(Eq.trans (@rfl V (V.ms 228 (w+1) 0 (j+1))) (by rfl)),t17,t18,t19,t30,t31,(Eq.trans (@rfl V (iV ((j+1:Nat):Int))) (by rfl)),(upd_out hF (by decide)),h201,h202,h205,h212,(Eq.trans (@rfl Blk (bk (w+1) 54 1 (List.map cL ((nth t.nd k).ou.take j++[cat ([(nth (((nth (t.nd) (k))).ou) (j))])])))) (by (rw [map_cat1 (show j < (nth t.nd k).ou.length by omega)]; done))),h258,?_,?_⟩
   · omega
   · omega
   · omega
  refine W_seq_exit (p36 _ _ _ (x5 _ _ (.done (W_dt (by exact (lateC (h258).2 lateN)) (R_mv t3 (R_mv t4 (R_fk t5 h205 ?_)))))))
  refine R_lk rfl h205 rfl rfl (R_fk t5 h205 (R_lk rfl h205 rfl rfl (R_bslice rfl rfl (R_callk (pjoin_pure ([((nth (t.nd) (k))).ac]) (by simp only [cat,List.append_nil]; omega)) rfl (R_fk t5 h205 (R_lk rfl h205 rfl rfl (R_bslice rfl rfl ?_)))))))
  refine R_callk (pjoin_pure ([((nth (t.nd) (k))).sf]) (by simp only [cat,List.append_nil]; omega)) rfl (R_mv t6 (R_fk t5 h205 (R_lk rfl h205 rfl rfl (R_callA (i:=258) (n:=v258) (B:=(bz (v258+3) 3 1 (List.map cI (((nth (t.nd) (k))).kd)))) (by rfl) (h258).1 (evcons rfl evnil) rfl (fun H2 h2=>cloneA 258 (by decide) (((nth (t.nd) (k))).kd) v258 H2 h2 (by omega)) (R_build rfl rfl (R_idx_ms0 (i:=k) (@rfl V (V.ms 212 (u12+1) 0 (t.nd.length))) (@rfl V (iV ((k:Nat):Int))) h212 oB rfl (by omega) (R_store (vs:=[(V.bool (((nth (t.nd) (k))).lf)),(ints (cat ([((nth (t.nd) (k))).ac]))),(ints (cat ([((nth (t.nd) (k))).sf]))),(V.ms 228 w 0 (j)),(V.ms 258 (v258+3) 0 ((((nth (t.nd) (k))).kd).length))]) (B':=(bk (u12+1) 99 5 ((List.map cN (t.nd)).set k [(V.bool (((nth (t.nd) (k))).lf)),(ints (cat ([((nth (t.nd) (k))).ac]))),(ints (cat ([((nth (t.nd) (k))).sf]))),(V.ms 228 w 0 (j)),(V.ms 258 (v258+3) 0 ((((nth (t.nd) (k))).kd).length))]))) rfl rfl rfl h212 (stB_setc (i:=k) (by omega) rfl rfl rfl) ?_)))))))
  refine R_e (n4 _ _ (fork_ (R:=fun T H=>T 2=(V.mp 202 (u2+1) 0 0)∧T 3=(V.ms 212 (u12+1) 0 (t.nd.length))∧T 17=(V.ms 212 (u12+1) 0 (t.nd.length))∧T 18=(iV ((t.nd.length:Nat):Int))∧T 19=(iV ((k:Nat):Int))∧(∀ j,j∉[201,202,205,228,258,212]→H j=Hi j)∧H 201=(bk (u1+1) 24 1 [[(V.sl (List.map cN (t.nd)))]])∧H 202=(bk (u2+1) 24 1 [[V.nilsl]])∧H 205=(bk (v205+1) 99 5 [(cN (((nth (t.nd) (k)))))])∧H 212=(bk (u12+1) 99 5 ((List.map cN (t.nd)).set k [(V.bool (((nth (t.nd) (k))).lf)),(ints (cat ([((nth (t.nd) (k))).ac]))),(ints (cat ([((nth (t.nd) (k))).sf]))),(V.ms 228 w 0 (j)),(V.ms 258 (v258+3) 0 ((((nth (t.nd) (k))).kd).length))]))∧H 228=(bk w 54 1 (List.map cL ((nth t.nd k).ou.take j)))∧H 258=(bz (v258+3) 3 1 (List.map cI (((nth (t.nd) (k))).kd)))∧True) ⟨t2,t3,t17,t18,t19,(upd_out (upd_out hF (by decide)) (by decide)),h201,h202,h205,rfl,h228,rfl,trivial⟩ ?_))
  intro T H ⟨t2,t3,t17,t18,t19,hF,h201,h202,h205,h212,h228,h258,_⟩
  refine frz_cellg (id:=228) (id2:=212) (rows:=(List.map cN (t.nd))) (i:=k) (off:=3) (r:=[(V.bool (((nth (t.nd) (k))).lf)),(ints (cat ([((nth (t.nd) (k))).ac]))),(ints (cat ([((nth (t.nd) (k))).sf]))),(V.ms 228 w 0 (j)),(V.ms 258 (v258+3) 0 ((((nth (t.nd) (k))).kd).length))]) (m:=((nth t.nd k).ou.take j)) (g:=cL) (by decide) h228 h212 (by (simp; omega)) (by (rw [List.length_take]; omega)) rfl (fork_ (R:=fun T H=>T 2=(V.mp 202 (u2+1) 0 0)∧T 3=(V.ms 212 (u12+1) 0 (t.nd.length))∧T 17=(V.ms 212 (u12+1) 0 (t.nd.length))∧T 18=(iV ((t.nd.length:Nat):Int))∧T 19=(iV ((k:Nat):Int))∧(∀ j,j∉[201,202,205,228,258,212]→H j=Hi j)∧H 201=(bk (u1+1) 24 1 [[(V.sl (List.map cN (t.nd)))]])∧H 202=(bk (u2+1) 24 1 [[V.nilsl]])∧H 205=(bk (v205+1) 99 5 [(cN (((nth (t.nd) (k)))))])∧H 212=(bk (u12+1) 99 5 ((List.map cN (t.nd)).set k [(V.bool (((nth (t.nd) (k))).lf)),(ints (cat ([((nth (t.nd) (k))).ac]))),(ints (cat ([((nth (t.nd) (k))).sf]))),(intss ((nth t.nd k).ou.take j)),(V.ms 258 (v258+3) 0 ((((nth (t.nd) (k))).kd).length))]))∧((H 228).ver=w∧(H 228).live=false)∧H 258=(bz (v258+3) 3 1 (List.map cI (((nth (t.nd) (k))).kd)))∧True) ⟨(fzT_q t2 rfl),(fzT_q t3 (fzq_other (by decide))),(fzT_q t17 (fzq_other (by decide))),(fzT_q t18 rfl),(fzT_q t19 rfl),(upd_out (kill_out hF (by decide)) (by decide)),((upd_ne _ _ (by decide)).trans (kill_ne h201 (by decide))),((upd_ne _ _ (by decide)).trans (kill_ne h202 (by decide))),((upd_ne _ _ (by decide)).trans (kill_ne h205 (by decide))),(upd_same _ _ _),⟨(congrArg Blk.ver (upd_ne _ _ (by decide))).trans (kill_self (congrArg Blk.ver h228)).1,(congrArg Blk.live (upd_ne _ _ (by decide))).trans (kill_self (congrArg Blk.ver h228)).2⟩,((upd_ne _ _ (by decide)).trans (kill_ne h258 (by decide))),trivial⟩ ?_)
  intro T H ⟨t2,t3,t17,t18,t19,hF,h201,h202,h205,h212,h228,h258,_⟩
  refine frz_cellg (id:=258) (id2:=212) (rows:=(List.map cN (t.nd))) (i:=k) (off:=4) (r:=[(V.bool (((nth (t.nd) (k))).lf)),(ints (cat ([((nth (t.nd) (k))).ac]))),(ints (cat ([((nth (t.nd) (k))).sf]))),(intss ((nth t.nd k).ou.take j)),(V.ms 258 (v258+3) 0 ((((nth (t.nd) (k))).kd).length))]) (m:=(((nth (t.nd) (k))).kd)) (g:=cI) (by decide) h258 h212 (by (simp; omega)) (by rfl) rfl (.done ?_)
  refine fork_ (R:=fun T H=>T 2=(V.mp 202 (u2+1) 0 0)∧T 3=(V.ms 212 (u12+1) 0 (t.nd.length))∧T 17=(V.ms 212 (u12+1) 0 (t.nd.length))∧T 18=(iV ((t.nd.length:Nat):Int))∧T 19=(iV ((k:Nat):Int))∧(∀ j,j∉[201,202,205,228,258,212]→H j=Hi j)∧H 201=(bk (u1+1) 24 1 [[(V.sl (List.map cN (t.nd)))]])∧H 202=(bk (u2+1) 24 1 [[V.nilsl]])∧H 205=(bk (v205+1) 99 5 [(cN (((nth (t.nd) (k)))))])∧H 212=(bk (u12+1) 99 5 (List.map cN ((t.nd).set k ((⟨((nth (t.nd) (k))).lf,cat ([((nth (t.nd) (k))).ac]),cat ([((nth (t.nd) (k))).sf]),(nth t.nd k).ou.take j,((nth (t.nd) (k))).kd⟩:Nd)))))∧((H 228).ver=w∧(H 228).live=false)∧((H 258).ver=v258+3∧(H 258).live=false)∧True) ⟨(fzT_q t2 rfl),(fzT_q t3 (fzq_other (by decide))),(fzT_q t17 (fzq_other (by decide))),(fzT_q t18 rfl),(fzT_q t19 rfl),(upd_out (kill_out hF (by decide)) (by decide)),((upd_ne _ _ (by decide)).trans (kill_ne h201 (by decide))),((upd_ne _ _ (by decide)).trans (kill_ne h202 (by decide))),((upd_ne _ _ (by decide)).trans (kill_ne h205 (by decide))),(Eq.trans (upd_same _ _ _) (by (rw [List.map_set]; rfl))),⟨(congrArg Blk.ver (upd_ne _ _ (by decide))).trans (kill_dead h228).1,(congrArg Blk.live (upd_ne _ _ (by decide))).trans (kill_dead h228).2⟩,⟨(congrArg Blk.ver (upd_ne _ _ (by decide))).trans (kill_self (congrArg Blk.ver h258)).1,(congrArg Blk.live (upd_ne _ _ (by decide))).trans (kill_self (congrArg Blk.ver h258)).2⟩,trivial⟩ ?_
  intro T H ⟨t2,t3,t17,t18,t19,hF,h201,h202,h205,h212,h228,h258,_⟩
  refine W_t (R_addN t19 (@rfl V (iV ((1:Nat):Int))) (by omega) (R_mv rfl (R_e ?_)))
  refine p12 _ _ _ ?_ ⟨(k+1),(v205+1),w,(v258+3),rfl,t2,t3,t17,t18,(Eq.trans (@rfl V (iV ((k+1:Nat):Int))) (by rfl)),hF,h201,h202,(congrArg Blk.ver h205),(Eq.trans h212 (by (rw [cp_row (show k < t.nd.length by omega) (show (nth t.nd k).ou.length≤j by omega)]; done))),(h228).1,h258,?_,?_,?_,?_⟩
  · omega
  · omega
  · omega
  · omega
  · omega
 refine W_seq_exit (p32 _ _ _ (x1 _ _ (.done (W_r (R_mv t3 (R_build rfl rfl (R_sk t2 rfl rfl h202 rfl rfl rfl rfl rfl ?_)))))))
 refine R_e (W_ret (fork_ (R:=fun T H=>T 2=(V.mp 202 (u2+1) 0 0)∧(∀ j,j∉[201,202,205,228,258,212]→H j=Hi j)∧H 201=(bk (u1+1) 24 1 [[(V.sl (List.map cN (t.nd)))]])∧H 202=(bk (u2+1) 24 1 [[(V.ms 212 (u12+1) 0 (t.nd.length))]])∧(H 205).ver=v205∧H 212=(bk (u12+1) 99 5 (List.map cN (t.nd)))∧(H 228).ver=v228∧((H 258).ver=v258∧(H 258).live=false)∧True) ⟨t2,(upd_out hF (by decide)),h201,rfl,h205,h212,h228,h258,trivial⟩ ?_))
 intro T H ⟨t2,hF,h201,h202,h205,h212,h228,h258,_⟩
 have hkn:k=t.nd.length:=by omega
 subst hkn
 have fh:=FinX.fin (FinX.put (FinX.putv (n:=v258) (B:=(⟨u58+3*t.nd.length,false,false,0,0,[]⟩:Blk)) (FinX.putv (n:=v228) (B:=(⟨u28+t.nd.length*1048578,false,false,0,0,[]⟩:Blk)) (FinX.putv (n:=v205) (B:=(⟨u5+t.nd.length,false,false,0,0,[]⟩:Blk)) (FinX.putv (n:=(u2+1)) (B:=(⟨u2+1,false,false,0,0,[]⟩:Blk)) (FinX.putv (n:=(u1+1)) (B:=(⟨u1+1,false,false,0,0,[]⟩:Blk)) (FinX.start hF) (congrArg Blk.ver h201) (by show _≤u1+1; omega) rfl) (congrArg Blk.ver h202) (by show _≤u2+1; omega) rfl) h205 (by show _≤u5+t.nd.length; omega) rfl) h228 (by show _≤u28+t.nd.length*1048578; omega) rfl) (h258).1 (by show _≤u58+3*t.nd.length; omega) rfl) h212 (FinB.eq rfl))
 exact RetFC_1 (resV_c (u:=(V.agg [(V.ms 212 (u12+1) 0 (t.nd.length))])) t2 h202 (lB oB rfl rfl)) fh (FinV.agg1 (FinV.same fh _))
theorem copiedX_E (t:Dt) (n:Nat) (w28 w58:Nat) (u1 u2 u5 u12 u28 u58:Nat) (Hi:Heap) (hn:n < t.nd.length) (hb:Bd t) (h201:(Hi 201).ver=u1) (h202:(Hi 202).ver=u2) (h205:(Hi 205).ver=u5) (h212:(Hi 212).ver=u12) (h228:(Hi 228).ver=u28) (h258:(Hi 258).ver=u58∧(Hi 258).live=false) (h7028:(Hi 7028).ver=w28) (h7058:(Hi 7058).ver=w58∧(Hi 7058).live=false):CallOK Tryz.prog 107 [(V.agg [(V.sl (List.map cN (t.nd)))])] Hi (V.agg [(V.ms 212 (u12+1) 0 (t.nd.length))]) (upd (upd (upd (upd (upd (upd (upd (upd Hi 201 (⟨u1+1,false,false,0,0,[]⟩:Blk)) 202 (⟨u2+1,false,false,0,0,[]⟩:Blk)) 205 (⟨u5+t.nd.length,false,false,0,0,[]⟩:Blk)) 228 (⟨u28+t.nd.length*1048578,false,false,0,0,[]⟩:Blk)) 258 (⟨u58+3*t.nd.length,false,false,0,0,[]⟩:Blk)) 7028 (bk (w28+1+(nth t.nd n).ou.length) 54 1 (List.map cL ((nth t.nd n).ou)))) 7058 (bz (w58+3) 3 1 (List.map cI ((nth t.nd n).kd)))) 212 (bk (u12+1) 99 5 ((List.map cN (t.nd)).set n [(V.bool ((nth t.nd n).lf)),(ints (cat [(nth t.nd n).ac])),(ints (cat [(nth t.nd n).sf])),(V.ms 7028 (w28+1+(nth t.nd n).ou.length) 0 ((nth t.nd n).ou.length)),(V.ms 7058 (w58+3) 0 ((nth t.nd n).kd.length))]))):=by
 refine eW (k0:=200) Tryz.func107 s107_ok fun hB=>?_
 have hbn:=hb.n
 unfold s107
 dsimp only
 refine W_r (R_box (i:=201) (n:=u1) (m:=1) (cs:=[(V.sl (List.map cN (t.nd)))]) (by rfl) h201 rfl rfl rfl (R_alloc (i:=202) (n:=u2) (m:=1) (by rfl) h202 rfl (R_e (W_r (R_fk rfl rfl (R_lk rfl rfl rfl rfl (R_len rfl ?_)))))))
 refine (R_mks (i:=212) (n:=u12) (m:=t.nd.length) (q:=t.nd.length) (by rfl) h212 (@rfl V (iV ((t.nd.length:Nat):Int))) (@rfl V (iV ((t.nd.length:Nat):Int))) (by omega) (by omega) (by omega) ?_)
 refine R_mv rfl (R_e (W_r (R_mv rfl (R_fk rfl rfl (R_lk rfl rfl rfl rfl (R_cpyd (l:=t.nd) (f:=cN) (n:=5) (@rfl V (V.ms 212 (u12+1) 0 (t.nd.length))) (@rfl V (V.sl (List.map cN (t.nd)))) (@rfl Blk (bk (u12+1) 99 5 (List.replicate (t.nd.length) [(V.bool false),V.nilsl,V.nilsl,V.nilsl,V.nilsl]))) (by simp) (fun _=>⟨rfl,rfl⟩) (R_e ?_)))))))
 refine W_seq_seq (W_r (R_mv rfl (R_len_ms rfl (@rfl Blk (bk (u12+1) 99 5 (List.map cN (t.nd)))) (by simp) (R_mv rfl (R_e (W_seq_blockg fun Q1 n1 x1 y1 z1=>?_))))))
 refine W_loop (fun mm T H=>(∃ (k:Nat) (v205:Nat) (v228:Nat) (v258:Nat),mm=t.nd.length - k∧T 2=(V.mp 202 (u2+1) 0 0)∧T 3=(V.ms 212 (u12+1) 0 (t.nd.length))∧T 17=(V.ms 212 (u12+1) 0 (t.nd.length))∧T 18=(iV ((t.nd.length:Nat):Int))∧T 19=(iV ((k:Nat):Int))∧(∀ j,j∉[201,202,205,228,258,7028,7058,212]→H j=Hi j)∧H 201=(bk (u1+1) 24 1 [[(V.sl (List.map cN (t.nd)))]])∧H 202=(bk (u2+1) 24 1 [[V.nilsl]])∧(H 205).ver=v205∧H 212=(bk (u12+1) 99 5 (List.map cN (t.nd)))∧(H 228).ver=v228∧((H 258).ver=v258∧(H 258).live=false)∧(H 7028).ver=w28∧((H 7058).ver=w58∧(H 7058).live=false)∧(k < n)∧(v205=u5+k)∧(v228≤u28+k*1048578)∧(v258=u58+3*k))∨(∃ (v228:Nat) (v258:Nat) (v205:Nat),mm=t.nd.length - n∧T 2=(V.mp 202 (u2+1) 0 0)∧T 3=(V.ms 212 (u12+1) 0 (t.nd.length))∧T 17=(V.ms 212 (u12+1) 0 (t.nd.length))∧T 18=(iV ((t.nd.length:Nat):Int))∧T 19=(iV ((n:Nat):Int))∧(∀ j,j∉[201,202,205,228,258,7028,7058,212]→H j=Hi j)∧H 201=(bk (u1+1) 24 1 [[(V.sl (List.map cN (t.nd)))]])∧H 202=(bk (u2+1) 24 1 [[V.nilsl]])∧(H 205).ver=v205∧H 212=(bk (u12+1) 99 5 (List.map cN (t.nd)))∧(H 228).ver=v228∧((H 258).ver=v258∧(H 258).live=false)∧(H 7028).ver=w28∧((H 7058).ver=w58∧(H 7058).live=false)∧(v205=u5+n)∧(v228≤u28+n*1048578)∧(v258=u58+3*n))∨(∃ (k:Nat) (v205:Nat) (v228:Nat) (v258:Nat),mm=t.nd.length - k∧T 2=(V.mp 202 (u2+1) 0 0)∧T 3=(V.ms 212 (u12+1) 0 (t.nd.length))∧T 17=(V.ms 212 (u12+1) 0 (t.nd.length))∧T 18=(iV ((t.nd.length:Nat):Int))∧T 19=(iV ((k:Nat):Int))∧(∀ j,j∉[201,202,205,228,258,7028,7058,212]→H j=Hi j)∧H 201=(bk (u1+1) 24 1 [[(V.sl (List.map cN (t.nd)))]])∧H 202=(bk (u2+1) 24 1 [[V.nilsl]])∧(H 205).ver=v205∧H 212=(bk (u12+1) 99 5 ((List.map cN (t.nd)).set n [(V.bool ((nth t.nd n).lf)),(ints (cat [(nth t.nd n).ac])),(ints (cat [(nth t.nd n).sf])),(V.ms 7028 (w28+1+(nth t.nd n).ou.length) 0 ((nth t.nd n).ou.length)),(V.ms 7058 (w58+3) 0 ((nth t.nd n).kd.length))]))∧(H 228).ver=v228∧((H 258).ver=v258∧(H 258).live=false)∧H 7028=(bk (w28+1+(nth t.nd n).ou.length) 54 1 (List.map cL ((nth t.nd n).ou)))∧H 7058=(bz (w58+3) 3 1 (List.map cI ((nth t.nd n).kd)))∧(n < k)∧(k≤t.nd.length)∧(v205=u5+k)∧(v228≤u28+k*1048578)∧(v258≤u58+3*k))) ?_ ?_
 ·
  by_cases hent:n=0
  ·
   refine ⟨_,Or.inr (Or.inl ⟨u28,u58,u5,rfl,rfl,rfl,rfl,rfl,(Eq.trans (@rfl V (iV (0:Int))) (by (rw [hent]; rfl))),(upd_out (upd_out (upd_out (upd_out (fun _ _=>rfl) (by decide)) (by decide)) (by decide)) (by decide)),rfl,rfl,h205,rfl,h228,h258,h7028,h7058,?_,?_,?_⟩)⟩
   · omega
   · omega
   · omega
  ·
   refine ⟨_,Or.inl ⟨0,u5,u28,u58,rfl,rfl,rfl,rfl,rfl,(Eq.trans (@rfl V (iV (0:Int))) rfl),(upd_out (upd_out (upd_out (upd_out (fun _ _=>rfl) (by decide)) (by decide)) (by decide)) (by decide)),rfl,rfl,h205,rfl,h228,h258,h7028,h7058,?_,?_,?_,?_⟩⟩
   · omega
   · omega
   · omega
   · omega
 intro mm T H hI Q2 p12 p22 p32
 rcases hI with ⟨k,v205,v228,v258,hmm,t2,t3,t17,t18,t19,hF,h201,h202,h205,h212,h228,h258,h7028,h7058,hk,hv5,hv28,hv7⟩|⟨v228,v258,v205,hmm,t2,t3,t17,t18,t19,hF,h201,h202,h205,h212,h228,h258,h7028,h7058,hv5,hv28,hv7⟩|⟨k,v205,v228,v258,hmm,t2,t3,t17,t18,t19,hF,h201,h202,h205,h212,h228,h258,h7028,h7058,hk,hk2,hv5,hv28,hv7⟩
 ·
  unfold b107_0
  refine W_r (R_lss t19 t18 (R_e ?_))
  refine W_seq_if rfl (fun c3=>?_) fun c3=>?_
  ·
   have r1:=hb.ac k (by omega)
   have r2:=hb.sf k (by omega)
   have r3:=hb.ou k (by omega)
   have r4:=hb.kd k (by omega)
   have r5:=hb.ol k (by omega)
   refine W_seq_skip (W_seq_blockg fun Q4 n4 x4 y4 z4=>(W_r (R_mv t19 (R_idx_ms0 (i:=k) t17 t19 h212 oB rfl (by omega) (R_load_mp (v:=(V.agg (cN (((nth (t.nd) (k))))))) rfl h212 (ldB_map (by omega) (by rfl)) (R_alloc (i:=205) (n:=v205) (m:=5) (by rfl) h205 rfl (R_mv rfl ?_)))))))
   refine R_sk rfl rfl rfl rfl rfl rfl rfl rfl rfl (R_e (W_r (R_fk rfl rfl (R_lk rfl rfl rfl rfl (R_len rfl (R_addN rfl (@rfl V (iV ((1:Nat):Int))) (by omega) ?_))))))
   refine (R_mks (i:=228) (n:=v228) (m:=0) (q:=(((((nth (t.nd) (k))).ou).length)+1)) (by rfl) h228 (@rfl V (iV (0:Int))) (@rfl V (iV ((((((nth (t.nd) (k))).ou).length)+1:Nat):Int))) (by omega) (by omega) (by omega) ?_)
   refine R_mv rfl (R_e (W_seq_seq (W_r (R_fk rfl rfl (R_lk rfl rfl rfl rfl (R_len rfl (R_mv rfl ?_)))))))
   refine R_e (W_seq_blockg fun Q5 n5 x5 y5 z5=>?_)
   refine W_loop (fun mm T H=> ∃ (j:Nat) (w:Nat),mm=(nth t.nd k).ou.length - j∧T 2=(V.mp 202 (u2+1) 0 0)∧T 3=(V.ms 212 (u12+1) 0 (t.nd.length))∧T 4=(iV ((k:Nat):Int))∧T 5=(V.mp 205 (v205+1) 0 0)∧T 6=(V.ms 228 w 0 (j))∧T 17=(V.ms 212 (u12+1) 0 (t.nd.length))∧T 18=(iV ((t.nd.length:Nat):Int))∧T 19=(iV ((k:Nat):Int))∧T 30=(intss (((nth (t.nd) (k))).ou))∧T 31=(iV (((((nth (t.nd) (k))).ou).length:Nat):Int))∧T 32=(iV ((j:Nat):Int))∧(∀ j,j∉[201,202,205,228,258,7028,7058,212]→H j=Hi j)∧H 201=(bk (u1+1) 24 1 [[(V.sl (List.map cN (t.nd)))]])∧H 202=(bk (u2+1) 24 1 [[V.nilsl]])∧H 205=(bk (v205+1) 99 5 [(cN (((nth (t.nd) (k)))))])∧H 212=(bk (u12+1) 99 5 (List.map cN (t.nd)))∧H 228=(bk w 54 1 (List.map cL ((nth t.nd k).ou.take j)))∧((H 258).ver=v258∧(H 258).live=false)∧(H 7028).ver=w28∧((H 7058).ver=w58∧(H 7058).live=false)∧(j≤(nth t.nd k).ou.length)∧(w≤v228+1+j)) ?_ ?_
   ·
    refine ⟨_,0,(v228+1),rfl,t2,t3,rfl,rfl,(Eq.trans (@rfl V (V.ms 228 (v228+1) 0 (0))) (by rfl)),t17,t18,t19,rfl,rfl,(Eq.trans (@rfl V (iV (0:Int))) rfl),(upd_out (upd_out (upd_out hF (by decide)) (by decide)) (by decide)),h201,h202,rfl,h212,(Eq.trans (@rfl Blk (bk (v228+1) 54 1 (List.replicate (0) [V.nilsl]))) (by rfl)),h258,h7028,h7058,?_,?_⟩
    · omega
    · omega
   intro mm T H ⟨j,w,hmm,t2,t3,t4,t5,t6,t17,t18,t19,t30,t31,t32,hF,h201,h202,h205,h212,h228,h258,h7028,h7058,hj,hw⟩ Q6 p16 p26 p36
   unfold b107_1
   refine W_r (R_lss t32 t31 (R_e ?_))
   refine W_seq_if rfl (fun c7=>?_) fun c7=>?_
   ·
    have r6:=r5 j (by omega)
    refine W_seq_skip (W_seq_blockg fun Q8 n8 x8 y8 z8=>(W_r (R_idx (i:=j) t30 t32 (by omega) rfl (R_load_pp rfl rfl (R_mv rfl (R_e (W_t ?_)))))))
    refine R_mv t6 (R_mv rfl (R_bslice rfl rfl (R_callk (pjoin_pure ([(nth (((nth (t.nd) (k))).ou) (j))]) (by simp only [cat,List.append_nil]; omega)) rfl (R_bslice rfl rfl (R_append1 (l:=((nth t.nd k).ou.take j)) (f:=cL) (x:=(cat ([(nth (((nth (t.nd) (k))).ou) (j))]))) (@rfl V (V.ms 228 w 0 (j))) h228 (by (rw [List.length_take]; omega)) (@rfl V (V.sl [[(ints (cat ([(nth (((nth (t.nd) (k))).ou) (j))])))]])) rfl rfl (by omega) (by omega) (R_mv rfl (R_e ?_)))))))
    refine n8 _ _ (.done (W_t (R_addN t32 (@rfl V (iV ((1:Nat):Int))) (by omega) (R_mv rfl (R_e ?_)))))
    refine p16 _ _ _ ?_ ⟨(j+1),(w+1),rfl,t2,t3,t4,t5,(Eq.trans (@rfl V (V.ms 228 (w+1) 0 (j+1))) (by rfl)),t17,t18,t19,t30,t31,(Eq.trans (@rfl V (iV ((j+1:Nat):Int))) (by rfl)),(upd_out hF (by decide)),h201,h202,h205,h212,(Eq.trans (@rfl Blk (bk (w+1) 54 1 (List.map cL ((nth t.nd k).ou.take j++[cat ([(nth (((nth (t.nd) (k))).ou) (j))])])))) (by (rw [map_cat1 (show j < (nth t.nd k).ou.length by omega)]; done))),h258,h7028,h7058,?_,?_⟩
    · omega
    · omega
    · omega
   refine W_seq_exit (p36 _ _ _ (x5 _ _ (.done (W_dt (by exact (lateC (h258).2 lateN)) (R_mv t3 (R_mv t4 (R_fk t5 h205 ?_)))))))
   refine R_lk rfl h205 rfl rfl (R_fk t5 h205 (R_lk rfl h205 rfl rfl (R_bslice rfl rfl (R_callk (pjoin_pure ([((nth (t.nd) (k))).ac]) (by simp only [cat,List.append_nil]; omega)) rfl (R_fk t5 h205 (R_lk rfl h205 rfl rfl (R_bslice rfl rfl ?_)))))))
   refine R_callk (pjoin_pure ([((nth (t.nd) (k))).sf]) (by simp only [cat,List.append_nil]; omega)) rfl (R_mv t6 (R_fk t5 h205 (R_lk rfl h205 rfl rfl (R_callA (i:=258) (n:=v258) (B:=(bz (v258+3) 3 1 (List.map cI (((nth (t.nd) (k))).kd)))) (by rfl) (h258).1 (evcons rfl evnil) rfl (fun H2 h2=>cloneA 258 (by decide) (((nth (t.nd) (k))).kd) v258 H2 h2 (by omega)) (R_build rfl rfl (R_idx_ms0 (i:=k) (@rfl V (V.ms 212 (u12+1) 0 (t.nd.length))) (@rfl V (iV ((k:Nat):Int))) h212 oB rfl (by omega) (R_store (vs:=[(V.bool (((nth (t.nd) (k))).lf)),(ints (cat ([((nth (t.nd) (k))).ac]))),(ints (cat ([((nth (t.nd) (k))).sf]))),(V.ms 228 w 0 (j)),(V.ms 258 (v258+3) 0 ((((nth (t.nd) (k))).kd).length))]) (B':=(bk (u12+1) 99 5 ((List.map cN (t.nd)).set k [(V.bool (((nth (t.nd) (k))).lf)),(ints (cat ([((nth (t.nd) (k))).ac]))),(ints (cat ([((nth (t.nd) (k))).sf]))),(V.ms 228 w 0 (j)),(V.ms 258 (v258+3) 0 ((((nth (t.nd) (k))).kd).length))]))) rfl rfl rfl h212 (stB_setc (i:=k) (by omega) rfl rfl rfl) ?_)))))))
   refine R_e (n4 _ _ (fork_ (R:=fun T H=>T 2=(V.mp 202 (u2+1) 0 0)∧T 3=(V.ms 212 (u12+1) 0 (t.nd.length))∧T 17=(V.ms 212 (u12+1) 0 (t.nd.length))∧T 18=(iV ((t.nd.length:Nat):Int))∧T 19=(iV ((k:Nat):Int))∧(∀ j,j∉[201,202,205,228,258,7028,7058,212]→H j=Hi j)∧H 201=(bk (u1+1) 24 1 [[(V.sl (List.map cN (t.nd)))]])∧H 202=(bk (u2+1) 24 1 [[V.nilsl]])∧H 205=(bk (v205+1) 99 5 [(cN (((nth (t.nd) (k)))))])∧H 212=(bk (u12+1) 99 5 ((List.map cN (t.nd)).set k [(V.bool (((nth (t.nd) (k))).lf)),(ints (cat ([((nth (t.nd) (k))).ac]))),(ints (cat ([((nth (t.nd) (k))).sf]))),(V.ms 228 w 0 (j)),(V.ms 258 (v258+3) 0 ((((nth (t.nd) (k))).kd).length))]))∧H 228=(bk w 54 1 (List.map cL ((nth t.nd k).ou.take j)))∧H 258=(bz (v258+3) 3 1 (List.map cI (((nth (t.nd) (k))).kd)))∧(H 7028).ver=w28∧((H 7058).ver=w58∧(H 7058).live=false)∧True) ⟨t2,t3,t17,t18,t19,(upd_out (upd_out hF (by decide)) (by decide)),h201,h202,h205,rfl,h228,rfl,h7028,h7058,trivial⟩ ?_))
   intro T H ⟨t2,t3,t17,t18,t19,hF,h201,h202,h205,h212,h228,h258,h7028,h7058,_⟩
   refine frz_cellg (id:=228) (id2:=212) (rows:=(List.map cN (t.nd))) (i:=k) (off:=3) (r:=[(V.bool (((nth (t.nd) (k))).lf)),(ints (cat ([((nth (t.nd) (k))).ac]))),(ints (cat ([((nth (t.nd) (k))).sf]))),(V.ms 228 w 0 (j)),(V.ms 258 (v258+3) 0 ((((nth (t.nd) (k))).kd).length))]) (m:=((nth t.nd k).ou.take j)) (g:=cL) (by decide) h228 h212 (by (simp; omega)) (by (rw [List.length_take]; omega)) rfl (fork_ (R:=fun T H=>T 2=(V.mp 202 (u2+1) 0 0)∧T 3=(V.ms 212 (u12+1) 0 (t.nd.length))∧T 17=(V.ms 212 (u12+1) 0 (t.nd.length))∧T 18=(iV ((t.nd.length:Nat):Int))∧T 19=(iV ((k:Nat):Int))∧(∀ j,j∉[201,202,205,228,258,7028,7058,212]→H j=Hi j)∧H 201=(bk (u1+1) 24 1 [[(V.sl (List.map cN (t.nd)))]])∧H 202=(bk (u2+1) 24 1 [[V.nilsl]])∧H 205=(bk (v205+1) 99 5 [(cN (((nth (t.nd) (k)))))])∧H 212=(bk (u12+1) 99 5 ((List.map cN (t.nd)).set k [(V.bool (((nth (t.nd) (k))).lf)),(ints (cat ([((nth (t.nd) (k))).ac]))),(ints (cat ([((nth (t.nd) (k))).sf]))),(intss ((nth t.nd k).ou.take j)),(V.ms 258 (v258+3) 0 ((((nth (t.nd) (k))).kd).length))]))∧((H 228).ver=w∧(H 228).live=false)∧H 258=(bz (v258+3) 3 1 (List.map cI (((nth (t.nd) (k))).kd)))∧(H 7028).ver=w28∧((H 7058).ver=w58∧(H 7058).live=false)∧True) ⟨(fzT_q t2 rfl),(fzT_q t3 (fzq_other (by decide))),(fzT_q t17 (fzq_other (by decide))),(fzT_q t18 rfl),(fzT_q t19 rfl),(upd_out (kill_out hF (by decide)) (by decide)),((upd_ne _ _ (by decide)).trans (kill_ne h201 (by decide))),((upd_ne _ _ (by decide)).trans (kill_ne h202 (by decide))),((upd_ne _ _ (by decide)).trans (kill_ne h205 (by decide))),(upd_same _ _ _),⟨(congrArg Blk.ver (upd_ne _ _ (by decide))).trans (kill_self (congrArg Blk.ver h228)).1,(congrArg Blk.live (upd_ne _ _ (by decide))).trans (kill_self (congrArg Blk.ver h228)).2⟩,((upd_ne _ _ (by decide)).trans (kill_ne h258 (by decide))),((congrArg Blk.ver (upd_ne _ _ (by decide))).trans (kill_ver h7028)),⟨(congrArg Blk.ver (upd_ne _ _ (by decide))).trans (kill_dead h7058).1,(congrArg Blk.live (upd_ne _ _ (by decide))).trans (kill_dead h7058).2⟩,trivial⟩ ?_)
   intro T H ⟨t2,t3,t17,t18,t19,hF,h201,h202,h205,h212,h228,h258,h7028,h7058,_⟩
   refine frz_cellg (id:=258) (id2:=212) (rows:=(List.map cN (t.nd))) (i:=k) (off:=4) (r:=[(V.bool (((nth (t.nd) (k))).lf)),(ints (cat ([((nth (t.nd) (k))).ac]))),(ints (cat ([((nth (t.nd) (k))).sf]))),(intss ((nth t.nd k).ou.take j)),(V.ms 258 (v258+3) 0 ((((nth (t.nd) (k))).kd).length))]) (m:=(((nth (t.nd) (k))).kd)) (g:=cI) (by decide) h258 h212 (by (simp; omega)) (by rfl) rfl (.done ?_)
   refine fork_ (R:=fun T H=>T 2=(V.mp 202 (u2+1) 0 0)∧T 3=(V.ms 212 (u12+1) 0 (t.nd.length))∧T 17=(V.ms 212 (u12+1) 0 (t.nd.length))∧T 18=(iV ((t.nd.length:Nat):Int))∧T 19=(iV ((k:Nat):Int))∧(∀ j,j∉[201,202,205,228,258,7028,7058,212]→H j=Hi j)∧H 201=(bk (u1+1) 24 1 [[(V.sl (List.map cN (t.nd)))]])∧H 202=(bk (u2+1) 24 1 [[V.nilsl]])∧H 205=(bk (v205+1) 99 5 [(cN (((nth (t.nd) (k)))))])∧H 212=(bk (u12+1) 99 5 (List.map cN ((t.nd).set k ((⟨((nth (t.nd) (k))).lf,cat ([((nth (t.nd) (k))).ac]),cat ([((nth (t.nd) (k))).sf]),(nth t.nd k).ou.take j,((nth (t.nd) (k))).kd⟩:Nd)))))∧((H 228).ver=w∧(H 228).live=false)∧((H 258).ver=v258+3∧(H 258).live=false)∧(H 7028).ver=w28∧((H 7058).ver=w58∧(H 7058).live=false)∧True) ⟨(fzT_q t2 rfl),(fzT_q t3 (fzq_other (by decide))),(fzT_q t17 (fzq_other (by decide))),(fzT_q t18 rfl),(fzT_q t19 rfl),(upd_out (kill_out hF (by decide)) (by decide)),((upd_ne _ _ (by decide)).trans (kill_ne h201 (by decide))),((upd_ne _ _ (by decide)).trans (kill_ne h202 (by decide))),((upd_ne _ _ (by decide)).trans (kill_ne h205 (by decide))),(Eq.trans (upd_same _ _ _) (by (rw [List.map_set]; rfl))),⟨(congrArg Blk.ver (upd_ne _ _ (by decide))).trans (kill_dead h228).1,(congrArg Blk.live (upd_ne _ _ (by decide))).trans (kill_dead h228).2⟩,⟨(congrArg Blk.ver (upd_ne _ _ (by decide))).trans (kill_self (congrArg Blk.ver h258)).1,(congrArg Blk.live (upd_ne _ _ (by decide))).trans (kill_self (congrArg Blk.ver h258)).2⟩,((congrArg Blk.ver (upd_ne _ _ (by decide))).trans (kill_ver h7028)),⟨(congrArg Blk.ver (upd_ne _ _ (by decide))).trans (kill_dead h7058).1,(congrArg Blk.live (upd_ne _ _ (by decide))).trans (kill_dead h7058).2⟩,trivial⟩ ?_
   intro T H ⟨t2,t3,t17,t18,t19,hF,h201,h202,h205,h212,h228,h258,h7028,h7058,_⟩
   refine W_t (R_addN t19 (@rfl V (iV ((1:Nat):Int))) (by omega) (R_mv rfl (R_e ?_)))
   by_cases hto:k+1=n
   ·
    refine p12 _ _ _ ?_ (Or.inr (Or.inl ⟨w,(v258+3),(v205+1),rfl,t2,t3,t17,t18,(Eq.trans (@rfl V (iV ((k+1:Nat):Int))) (by (rw [hto]; done))),hF,h201,h202,(congrArg Blk.ver h205),(Eq.trans h212 (by (rw [cp_row (show k < t.nd.length by omega) (show (nth t.nd k).ou.length≤j by omega)]; done))),(h228).1,h258,h7028,h7058,?_,?_,?_⟩))
    · omega
    · omega
    · omega
    · omega
   ·
    refine p12 _ _ _ ?_ (Or.inl ⟨(k+1),(v205+1),w,(v258+3),rfl,t2,t3,t17,t18,(Eq.trans (@rfl V (iV ((k+1:Nat):Int))) (by rfl)),hF,h201,h202,(congrArg Blk.ver h205),(Eq.trans h212 (by (rw [cp_row (show k < t.nd.length by omega) (show (nth t.nd k).ou.length≤j by omega)]; done))),(h228).1,h258,h7028,h7058,?_,?_,?_,?_⟩)
    · omega
    · omega
    · omega
    · omega
    · omega
  · exfalso; omega
 ·
  unfold b107_0
  refine W_r (R_lss t19 t18 (R_e ?_))
  refine W_seq_if rfl (fun c9=>?_) fun c9=>?_
  ·
   have r1:=hb.ac n (by omega)
   have r2:=hb.sf n (by omega)
   have r3:=hb.ou n (by omega)
   have r4:=hb.kd n (by omega)
   have r5:=hb.ol n (by omega)
   refine W_seq_skip (W_seq_blockg fun Q10 n10 x10 y10 z10=>(W_r (R_mv t19 (R_idx_ms0 (i:=n) t17 t19 h212 oB rfl (by omega) (R_load_mp (v:=(V.agg (cN (((nth (t.nd) (n))))))) rfl h212 (ldB_map (by omega) (by rfl)) (R_alloc (i:=205) (n:=v205) (m:=5) (by rfl) h205 rfl (R_mv rfl ?_)))))))
   refine R_sk rfl rfl rfl rfl rfl rfl rfl rfl rfl (R_e (W_rk 7000 (R_fk rfl rfl (R_lk rfl rfl rfl rfl (R_len rfl (R_addN rfl (@rfl V (iV ((1:Nat):Int))) (by omega) ?_))))))
   refine (R_mks (i:=7028) (n:=w28) (m:=0) (q:=(((((nth (t.nd) (n))).ou).length)+1)) (by rfl) h7028 (@rfl V (iV (0:Int))) (@rfl V (iV ((((((nth (t.nd) (n))).ou).length)+1:Nat):Int))) (by omega) (by omega) (by omega) ?_)
   refine R_mv rfl (R_e (W_seq_seq (W_r (R_fk rfl rfl (R_lk rfl rfl rfl rfl (R_len rfl (R_mv rfl ?_)))))))
   refine R_e (W_seq_blockg fun Q11 n11 x11 y11 z11=>?_)
   refine W_loop (fun mm T H=> ∃ (j:Nat),mm=(nth t.nd n).ou.length - j∧T 2=(V.mp 202 (u2+1) 0 0)∧T 3=(V.ms 212 (u12+1) 0 (t.nd.length))∧T 4=(iV ((n:Nat):Int))∧T 5=(V.mp 205 (v205+1) 0 0)∧T 6=(V.ms 7028 (w28+1+j) 0 (j))∧T 17=(V.ms 212 (u12+1) 0 (t.nd.length))∧T 18=(iV ((t.nd.length:Nat):Int))∧T 19=(iV ((n:Nat):Int))∧T 30=(intss (((nth (t.nd) (n))).ou))∧T 31=(iV (((((nth (t.nd) (n))).ou).length:Nat):Int))∧T 32=(iV ((j:Nat):Int))∧(∀ j,j∉[201,202,205,228,258,7028,7058,212]→H j=Hi j)∧H 201=(bk (u1+1) 24 1 [[(V.sl (List.map cN (t.nd)))]])∧H 202=(bk (u2+1) 24 1 [[V.nilsl]])∧H 205=(bk (v205+1) 99 5 [(cN (((nth (t.nd) (n)))))])∧H 212=(bk (u12+1) 99 5 (List.map cN (t.nd)))∧(H 228).ver=v228∧((H 258).ver=v258∧(H 258).live=false)∧H 7028=(bk (w28+1+j) 54 1 (List.map cL ((nth t.nd n).ou.take j)))∧((H 7058).ver=w58∧(H 7058).live=false)∧(j≤(nth t.nd n).ou.length)) ?_ ?_
   ·
    refine ⟨_,0,rfl,t2,t3,rfl,rfl,(Eq.trans (@rfl V (V.ms 7028 (w28+1) 0 (0))) (by rfl)),t17,t18,t19,rfl,rfl,(Eq.trans (@rfl V (iV (0:Int))) rfl),(upd_out (upd_out (upd_out hF (by decide)) (by decide)) (by decide)),h201,h202,rfl,h212,h228,h258,(Eq.trans (@rfl Blk (bk (w28+1) 54 1 (List.replicate (0) [V.nilsl]))) (by rfl)),h7058,?_⟩
    · omega
   intro mm T H ⟨j,hmm,t2,t3,t4,t5,t6,t17,t18,t19,t30,t31,t32,hF,h201,h202,h205,h212,h228,h258,h7028,h7058,hj⟩ Q12 p112 p212 p312
   unfold b107_1
   refine W_r (R_lss t32 t31 (R_e ?_))
   refine W_seq_if rfl (fun c13=>?_) fun c13=>?_
   ·
    have r6:=r5 j (by omega)
    refine W_seq_skip (W_seq_blockg fun Q14 n14 x14 y14 z14=>(W_r (R_idx (i:=j) t30 t32 (by omega) rfl (R_load_pp rfl rfl (R_mv rfl (R_e (W_t ?_)))))))
    refine R_mv t6 (R_mv rfl (R_bslice rfl rfl (R_callk (pjoin_pure ([(nth (((nth (t.nd) (n))).ou) (j))]) (by simp only [cat,List.append_nil]; omega)) rfl (R_bslice rfl rfl (R_append1 (l:=((nth t.nd n).ou.take j)) (f:=cL) (x:=(cat ([(nth (((nth (t.nd) (n))).ou) (j))]))) (@rfl V (V.ms 7028 (w28+1+j) 0 (j))) h7028 (by (rw [List.length_take]; omega)) (@rfl V (V.sl [[(ints (cat ([(nth (((nth (t.nd) (n))).ou) (j))])))]])) rfl rfl (by omega) (by omega) (R_mv rfl (R_e ?_)))))))
    refine n14 _ _ (.done (W_t (R_addN t32 (@rfl V (iV ((1:Nat):Int))) (by omega) (R_mv rfl (R_e ?_)))))
    refine p112 _ _ _ ?_ ⟨(j+1),rfl,t2,t3,t4,t5,(Eq.trans (@rfl V (V.ms 7028 (w28+1+j+1) 0 (j+1))) (by rfl)),t17,t18,t19,t30,t31,(Eq.trans (@rfl V (iV ((j+1:Nat):Int))) (by rfl)),(upd_out hF (by decide)),h201,h202,h205,h212,h228,h258,(Eq.trans (@rfl Blk (bk (w28+1+j+1) 54 1 (List.map cL ((nth t.nd n).ou.take j++[cat ([(nth (((nth (t.nd) (n))).ou) (j))])])))) (by (rw [map_cat1 (show j < (nth t.nd n).ou.length by omega)]; rfl))),h7058,?_⟩
    · omega
    · omega
   have hje:j=(nth t.nd n).ou.length:=by omega
   refine W_seq_exit (p312 _ _ _ (x11 _ _ (.done (W_dtk 7000 (by exact (lateC (h7058).2 lateN)) (R_mv t3 (R_mv t4 (R_fk t5 h205 ?_)))))))
   refine R_lk rfl h205 rfl rfl (R_fk t5 h205 (R_lk rfl h205 rfl rfl (R_bslice rfl rfl (R_callk (pjoin_pure ([((nth (t.nd) (n))).ac]) (by simp only [cat,List.append_nil]; omega)) rfl (R_fk t5 h205 (R_lk rfl h205 rfl rfl (R_bslice rfl rfl ?_)))))))
   refine R_callk (pjoin_pure ([((nth (t.nd) (n))).sf]) (by simp only [cat,List.append_nil]; omega)) rfl (R_mv t6 (R_fk t5 h205 (R_lk rfl h205 rfl rfl (R_callA (i:=7058) (n:=w58) (B:=(bz (w58+3) 3 1 (List.map cI (((nth (t.nd) (n))).kd)))) (by rfl) (h7058).1 (evcons rfl evnil) rfl (fun H2 h2=>cloneA 7058 (by decide) (((nth (t.nd) (n))).kd) w58 H2 h2 (by omega)) (R_build rfl rfl (R_idx_ms0 (i:=n) (@rfl V (V.ms 212 (u12+1) 0 (t.nd.length))) (@rfl V (iV ((n:Nat):Int))) h212 oB rfl (by omega) (R_store (vs:=[(V.bool (((nth (t.nd) (n))).lf)),(ints (cat ([((nth (t.nd) (n))).ac]))),(ints (cat ([((nth (t.nd) (n))).sf]))),(V.ms 7028 (w28+1+j) 0 (j)),(V.ms 7058 (w58+3) 0 ((((nth (t.nd) (n))).kd).length))]) (B':=(bk (u12+1) 99 5 ((List.map cN (t.nd)).set n [(V.bool (((nth (t.nd) (n))).lf)),(ints (cat ([((nth (t.nd) (n))).ac]))),(ints (cat ([((nth (t.nd) (n))).sf]))),(V.ms 7028 (w28+1+j) 0 (j)),(V.ms 7058 (w58+3) 0 ((((nth (t.nd) (n))).kd).length))]))) rfl rfl rfl h212 (stB_setc (i:=n) (by omega) rfl rfl rfl) ?_)))))))
   refine R_e (n10 _ _ (.done (W_t (R_addN t19 (@rfl V (iV ((1:Nat):Int))) (by omega) (R_mv rfl (R_e ?_))))))
   refine p12 _ _ _ ?_ (Or.inr (Or.inr (⟨(n+1),(v205+1),v228,v258,rfl,t2,t3,t17,t18,(Eq.trans (@rfl V (iV ((n+1:Nat):Int))) (by rfl)),(upd_out (upd_out hF (by decide)) (by decide)),h201,h202,(congrArg Blk.ver h205),(Eq.trans (@rfl Blk (bk (u12+1) 99 5 ((List.map cN (t.nd)).set n [(V.bool (((nth (t.nd) (n))).lf)),(ints (cat ([((nth (t.nd) (n))).ac]))),(ints (cat ([((nth (t.nd) (n))).sf]))),(V.ms 7028 (w28+1+j) 0 (j)),(V.ms 7058 (w58+3) 0 ((((nth (t.nd) (n))).kd).length))]))) (by (rw [hje]; done))),h228,h258,(Eq.trans h7028 (by (rw [hje,List.take_length]; done))),(Eq.trans (@rfl Blk (bz (w58+3) 3 1 (List.map cI (((nth (t.nd) (n))).kd)))) (by rfl)),?_,?_,?_,?_,?_⟩)))
   · omega
   · omega
   · omega
   · omega
   · rw [Nat.succ_mul]; exact Nat.le_trans hv28 (Nat.add_le_add_left (Nat.le_add_right _ _) _)
   · omega
  · exfalso; omega
 ·
  unfold b107_0
  refine W_r (R_lss t19 t18 (R_e ?_))
  refine W_seq_if rfl (fun c15=>?_) fun c15=>?_
  ·
   have r1:=hb.ac k (by omega)
   have r2:=hb.sf k (by omega)
   have r3:=hb.ou k (by omega)
   have r4:=hb.kd k (by omega)
   have r5:=hb.ol k (by omega)
   refine W_seq_skip (W_seq_blockg fun Q16 n16 x16 y16 z16=>(W_r (R_mv t19 (R_idx_ms0 (i:=k) t17 t19 h212 oB rfl (by omega) (R_load_mp (v:=(V.agg (cN (((nth (t.nd) (k))))))) rfl h212 (ldB_setc (by omega) (by omega) (by rfl)) (R_alloc (i:=205) (n:=v205) (m:=5) (by rfl) h205 rfl (R_mv rfl ?_)))))))
   refine R_sk rfl rfl rfl rfl rfl rfl rfl rfl rfl (R_e (W_r (R_fk rfl rfl (R_lk rfl rfl rfl rfl (R_len rfl (R_addN rfl (@rfl V (iV ((1:Nat):Int))) (by omega) ?_))))))
   refine (R_mks (i:=228) (n:=v228) (m:=0) (q:=(((((nth (t.nd) (k))).ou).length)+1)) (by rfl) h228 (@rfl V (iV (0:Int))) (@rfl V (iV ((((((nth (t.nd) (k))).ou).length)+1:Nat):Int))) (by omega) (by omega) (by omega) ?_)
   refine R_mv rfl (R_e (W_seq_seq (W_r (R_fk rfl rfl (R_lk rfl rfl rfl rfl (R_len rfl (R_mv rfl ?_)))))))
   refine R_e (W_seq_blockg fun Q17 n17 x17 y17 z17=>?_)
   refine W_loop (fun mm T H=> ∃ (j:Nat) (w:Nat),mm=(nth t.nd k).ou.length - j∧T 2=(V.mp 202 (u2+1) 0 0)∧T 3=(V.ms 212 (u12+1) 0 (t.nd.length))∧T 4=(iV ((k:Nat):Int))∧T 5=(V.mp 205 (v205+1) 0 0)∧T 6=(V.ms 228 w 0 (j))∧T 17=(V.ms 212 (u12+1) 0 (t.nd.length))∧T 18=(iV ((t.nd.length:Nat):Int))∧T 19=(iV ((k:Nat):Int))∧T 30=(intss (((nth (t.nd) (k))).ou))∧T 31=(iV (((((nth (t.nd) (k))).ou).length:Nat):Int))∧T 32=(iV ((j:Nat):Int))∧(∀ j,j∉[201,202,205,228,258,7028,7058,212]→H j=Hi j)∧H 201=(bk (u1+1) 24 1 [[(V.sl (List.map cN (t.nd)))]])∧H 202=(bk (u2+1) 24 1 [[V.nilsl]])∧H 205=(bk (v205+1) 99 5 [(cN (((nth (t.nd) (k)))))])∧H 212=(bk (u12+1) 99 5 ((List.map cN (t.nd)).set n [(V.bool ((nth t.nd n).lf)),(ints (cat [(nth t.nd n).ac])),(ints (cat [(nth t.nd n).sf])),(V.ms 7028 (w28+1+(nth t.nd n).ou.length) 0 ((nth t.nd n).ou.length)),(V.ms 7058 (w58+3) 0 ((nth t.nd n).kd.length))]))∧H 228=(bk w 54 1 (List.map cL ((nth t.nd k).ou.take j)))∧((H 258).ver=v258∧(H 258).live=false)∧H 7028=(bk (w28+1+(nth t.nd n).ou.length) 54 1 (List.map cL ((nth t.nd n).ou)))∧H 7058=(bz (w58+3) 3 1 (List.map cI ((nth t.nd n).kd)))∧(j≤(nth t.nd k).ou.length)∧(w≤v228+1+j)) ?_ ?_
   ·
    refine ⟨_,0,(v228+1),rfl,t2,t3,rfl,rfl,(Eq.trans (@rfl V (V.ms 228 (v228+1) 0 (0))) (by rfl)),t17,t18,t19,rfl,rfl,(Eq.trans (@rfl V (iV (0:Int))) rfl),(upd_out (upd_out (upd_out hF (by decide)) (by decide)) (by decide)),h201,h202,rfl,h212,(Eq.trans (@rfl Blk (bk (v228+1) 54 1 (List.replicate (0) [V.nilsl]))) (by rfl)),h258,h7028,h7058,?_,?_⟩
    · omega
    · omega
   intro mm T H ⟨j,w,hmm,t2,t3,t4,t5,t6,t17,t18,t19,t30,t31,t32,hF,h201,h202,h205,h212,h228,h258,h7028,h7058,hj,hw⟩ Q18 p118 p218 p318
   unfold b107_1
   refine W_r (R_lss t32 t31 (R_e ?_))
   refine W_seq_if rfl (fun c19=>?_) fun c19=>?_
   ·
    have r6:=r5 j (by omega)
    refine W_seq_skip (W_seq_blockg fun Q20 n20 x20 y20 z20=>(W_r (R_idx (i:=j) t30 t32 (by omega) rfl (R_load_pp rfl rfl (R_mv rfl (R_e (W_t ?_)))))))
    refine R_mv t6 (R_mv rfl (R_bslice rfl rfl (R_callk (pjoin_pure ([(nth (((nth (t.nd) (k))).ou) (j))]) (by simp only [cat,List.append_nil]; omega)) rfl (R_bslice rfl rfl (R_append1 (l:=((nth t.nd k).ou.take j)) (f:=cL) (x:=(cat ([(nth (((nth (t.nd) (k))).ou) (j))]))) (@rfl V (V.ms 228 w 0 (j))) h228 (by (rw [List.length_take]; omega)) (@rfl V (V.sl [[(ints (cat ([(nth (((nth (t.nd) (k))).ou) (j))])))]])) rfl rfl (by omega) (by omega) (R_mv rfl (R_e ?_)))))))
    refine n20 _ _ (.done (W_t (R_addN t32 (@rfl V (iV ((1:Nat):Int))) (by omega) (R_mv rfl (R_e ?_)))))
    refine p118 _ _ _ ?_ ⟨(j+1),(w+1),rfl,t2,t3,t4,t5,(Eq.trans (@rfl V (V.ms 228 (w+1) 0 (j+1))) (by rfl)),t17,t18,t19,t30,t31,(Eq.trans (@rfl V (iV ((j+1:Nat):Int))) (by rfl)),(upd_out hF (by decide)),h201,h202,h205,h212,(Eq.trans (@rfl Blk (bk (w+1) 54 1 (List.map cL ((nth t.nd k).ou.take j++[cat ([(nth (((nth (t.nd) (k))).ou) (j))])])))) (by (rw [map_cat1 (show j < (nth t.nd k).ou.length by omega)]; done))),h258,h7028,h7058,?_,?_⟩
    · omega
    · omega
    · omega
   refine W_seq_exit (p318 _ _ _ (x17 _ _ (.done (W_dt (by exact (lateC (h258).2 lateN)) (R_mv t3 (R_mv t4 (R_fk t5 h205 ?_)))))))
   refine R_lk rfl h205 rfl rfl (R_fk t5 h205 (R_lk rfl h205 rfl rfl (R_bslice rfl rfl (R_callk (pjoin_pure ([((nth (t.nd) (k))).ac]) (by simp only [cat,List.append_nil]; omega)) rfl (R_fk t5 h205 (R_lk rfl h205 rfl rfl (R_bslice rfl rfl ?_)))))))
   refine R_callk (pjoin_pure ([((nth (t.nd) (k))).sf]) (by simp only [cat,List.append_nil]; omega)) rfl (R_mv t6 (R_fk t5 h205 (R_lk rfl h205 rfl rfl (R_callA (i:=258) (n:=v258) (B:=(bz (v258+3) 3 1 (List.map cI (((nth (t.nd) (k))).kd)))) (by rfl) (h258).1 (evcons rfl evnil) rfl (fun H2 h2=>cloneA 258 (by decide) (((nth (t.nd) (k))).kd) v258 H2 h2 (by omega)) (R_build rfl rfl (R_idx_ms0 (i:=k) (@rfl V (V.ms 212 (u12+1) 0 (t.nd.length))) (@rfl V (iV ((k:Nat):Int))) h212 oB rfl (by omega) (R_store (vs:=[(V.bool (((nth (t.nd) (k))).lf)),(ints (cat ([((nth (t.nd) (k))).ac]))),(ints (cat ([((nth (t.nd) (k))).sf]))),(V.ms 228 w 0 (j)),(V.ms 258 (v258+3) 0 ((((nth (t.nd) (k))).kd).length))]) (B':=(bk (u12+1) 99 5 (((List.map cN (t.nd)).set n [(V.bool ((nth t.nd n).lf)),(ints (cat [(nth t.nd n).ac])),(ints (cat [(nth t.nd n).sf])),(V.ms 7028 (w28+1+(nth t.nd n).ou.length) 0 ((nth t.nd n).ou.length)),(V.ms 7058 (w58+3) 0 ((nth t.nd n).kd.length))]).set k [(V.bool (((nth (t.nd) (k))).lf)),(ints (cat ([((nth (t.nd) (k))).ac]))),(ints (cat ([((nth (t.nd) (k))).sf]))),(V.ms 228 w 0 (j)),(V.ms 258 (v258+3) 0 ((((nth (t.nd) (k))).kd).length))]))) rfl rfl rfl h212 (stB_sets (i:=k) (nth_setc (by omega) (by omega)) rfl rfl rfl) ?_)))))))
   refine R_e (n16 _ _ (fork_ (R:=fun T H=>T 2=(V.mp 202 (u2+1) 0 0)∧T 3=(V.ms 212 (u12+1) 0 (t.nd.length))∧T 17=(V.ms 212 (u12+1) 0 (t.nd.length))∧T 18=(iV ((t.nd.length:Nat):Int))∧T 19=(iV ((k:Nat):Int))∧(∀ j,j∉[201,202,205,228,258,7028,7058,212]→H j=Hi j)∧H 201=(bk (u1+1) 24 1 [[(V.sl (List.map cN (t.nd)))]])∧H 202=(bk (u2+1) 24 1 [[V.nilsl]])∧H 205=(bk (v205+1) 99 5 [(cN (((nth (t.nd) (k)))))])∧H 212=(bk (u12+1) 99 5 (((List.map cN (t.nd)).set n [(V.bool ((nth t.nd n).lf)),(ints (cat [(nth t.nd n).ac])),(ints (cat [(nth t.nd n).sf])),(V.ms 7028 (w28+1+(nth t.nd n).ou.length) 0 ((nth t.nd n).ou.length)),(V.ms 7058 (w58+3) 0 ((nth t.nd n).kd.length))]).set k [(V.bool (((nth (t.nd) (k))).lf)),(ints (cat ([((nth (t.nd) (k))).ac]))),(ints (cat ([((nth (t.nd) (k))).sf]))),(V.ms 228 w 0 (j)),(V.ms 258 (v258+3) 0 ((((nth (t.nd) (k))).kd).length))]))∧H 228=(bk w 54 1 (List.map cL ((nth t.nd k).ou.take j)))∧H 258=(bz (v258+3) 3 1 (List.map cI (((nth (t.nd) (k))).kd)))∧H 7028=(bk (w28+1+(nth t.nd n).ou.length) 54 1 (List.map cL ((nth t.nd n).ou)))∧H 7058=(bz (w58+3) 3 1 (List.map cI ((nth t.nd n).kd)))∧True) ⟨t2,t3,t17,t18,t19,(upd_out (upd_out hF (by decide)) (by decide)),h201,h202,h205,rfl,h228,rfl,h7028,h7058,trivial⟩ ?_))
   intro T H ⟨t2,t3,t17,t18,t19,hF,h201,h202,h205,h212,h228,h258,h7028,h7058,_⟩
   refine frz_cellg (id:=228) (id2:=212) (rows:=((List.map cN (t.nd)).set n [(V.bool ((nth t.nd n).lf)),(ints (cat [(nth t.nd n).ac])),(ints (cat [(nth t.nd n).sf])),(V.ms 7028 (w28+1+(nth t.nd n).ou.length) 0 ((nth t.nd n).ou.length)),(V.ms 7058 (w58+3) 0 ((nth t.nd n).kd.length))])) (i:=k) (off:=3) (r:=[(V.bool (((nth (t.nd) (k))).lf)),(ints (cat ([((nth (t.nd) (k))).ac]))),(ints (cat ([((nth (t.nd) (k))).sf]))),(V.ms 228 w 0 (j)),(V.ms 258 (v258+3) 0 ((((nth (t.nd) (k))).kd).length))]) (m:=((nth t.nd k).ou.take j)) (g:=cL) (by decide) h228 h212 (by (simp; omega)) (by (rw [List.length_take]; omega)) rfl (fork_ (R:=fun T H=>T 2=(V.mp 202 (u2+1) 0 0)∧T 3=(V.ms 212 (u12+1) 0 (t.nd.length))∧T 17=(V.ms 212 (u12+1) 0 (t.nd.length))∧T 18=(iV ((t.nd.length:Nat):Int))∧T 19=(iV ((k:Nat):Int))∧(∀ j,j∉[201,202,205,228,258,7028,7058,212]→H j=Hi j)∧H 201=(bk (u1+1) 24 1 [[(V.sl (List.map cN (t.nd)))]])∧H 202=(bk (u2+1) 24 1 [[V.nilsl]])∧H 205=(bk (v205+1) 99 5 [(cN (((nth (t.nd) (k)))))])∧H 212=(bk (u12+1) 99 5 (((List.map cN (t.nd)).set n [(V.bool ((nth t.nd n).lf)),(ints (cat [(nth t.nd n).ac])),(ints (cat [(nth t.nd n).sf])),(V.ms 7028 (w28+1+(nth t.nd n).ou.length) 0 ((nth t.nd n).ou.length)),(V.ms 7058 (w58+3) 0 ((nth t.nd n).kd.length))]).set k [(V.bool (((nth (t.nd) (k))).lf)),(ints (cat ([((nth (t.nd) (k))).ac]))),(ints (cat ([((nth (t.nd) (k))).sf]))),(intss ((nth t.nd k).ou.take j)),(V.ms 258 (v258+3) 0 ((((nth (t.nd) (k))).kd).length))]))∧((H 228).ver=w∧(H 228).live=false)∧H 258=(bz (v258+3) 3 1 (List.map cI (((nth (t.nd) (k))).kd)))∧H 7028=(bk (w28+1+(nth t.nd n).ou.length) 54 1 (List.map cL ((nth t.nd n).ou)))∧H 7058=(bz (w58+3) 3 1 (List.map cI ((nth t.nd n).kd)))∧True) ⟨(fzT_q t2 rfl),(fzT_q t3 (fzq_other (by decide))),(fzT_q t17 (fzq_other (by decide))),(fzT_q t18 rfl),(fzT_q t19 rfl),(upd_out (kill_out hF (by decide)) (by decide)),((upd_ne _ _ (by decide)).trans (kill_ne h201 (by decide))),((upd_ne _ _ (by decide)).trans (kill_ne h202 (by decide))),((upd_ne _ _ (by decide)).trans (kill_ne h205 (by decide))),(upd_same _ _ _),⟨(congrArg Blk.ver (upd_ne _ _ (by decide))).trans (kill_self (congrArg Blk.ver h228)).1,(congrArg Blk.live (upd_ne _ _ (by decide))).trans (kill_self (congrArg Blk.ver h228)).2⟩,((upd_ne _ _ (by decide)).trans (kill_ne h258 (by decide))),((upd_ne _ _ (by decide)).trans (kill_ne h7028 (by decide))),((upd_ne _ _ (by decide)).trans (kill_ne h7058 (by decide))),trivial⟩ ?_)
   intro T H ⟨t2,t3,t17,t18,t19,hF,h201,h202,h205,h212,h228,h258,h7028,h7058,_⟩
   refine frz_cellg (id:=258) (id2:=212) (rows:=((List.map cN (t.nd)).set n [(V.bool ((nth t.nd n).lf)),(ints (cat [(nth t.nd n).ac])),(ints (cat [(nth t.nd n).sf])),(V.ms 7028 (w28+1+(nth t.nd n).ou.length) 0 ((nth t.nd n).ou.length)),(V.ms 7058 (w58+3) 0 ((nth t.nd n).kd.length))])) (i:=k) (off:=4) (r:=[(V.bool (((nth (t.nd) (k))).lf)),(ints (cat ([((nth (t.nd) (k))).ac]))),(ints (cat ([((nth (t.nd) (k))).sf]))),(intss ((nth t.nd k).ou.take j)),(V.ms 258 (v258+3) 0 ((((nth (t.nd) (k))).kd).length))]) (m:=(((nth (t.nd) (k))).kd)) (g:=cI) (by decide) h258 h212 (by (simp; omega)) (by rfl) rfl (.done ?_)
   refine fork_ (R:=fun T H=>T 2=(V.mp 202 (u2+1) 0 0)∧T 3=(V.ms 212 (u12+1) 0 (t.nd.length))∧T 17=(V.ms 212 (u12+1) 0 (t.nd.length))∧T 18=(iV ((t.nd.length:Nat):Int))∧T 19=(iV ((k:Nat):Int))∧(∀ j,j∉[201,202,205,228,258,7028,7058,212]→H j=Hi j)∧H 201=(bk (u1+1) 24 1 [[(V.sl (List.map cN (t.nd)))]])∧H 202=(bk (u2+1) 24 1 [[V.nilsl]])∧H 205=(bk (v205+1) 99 5 [(cN (((nth (t.nd) (k)))))])∧H 212=(bk (u12+1) 99 5 (((List.map cN (t.nd)).set n [(V.bool ((nth t.nd n).lf)),(ints (cat [(nth t.nd n).ac])),(ints (cat [(nth t.nd n).sf])),(V.ms 7028 (w28+1+(nth t.nd n).ou.length) 0 ((nth t.nd n).ou.length)),(V.ms 7058 (w58+3) 0 ((nth t.nd n).kd.length))]).set k [(V.bool (((nth (t.nd) (k))).lf)),(ints (cat ([((nth (t.nd) (k))).ac]))),(ints (cat ([((nth (t.nd) (k))).sf]))),(intss ((nth t.nd k).ou.take j)),(ints (((nth (t.nd) (k))).kd))]))∧((H 228).ver=w∧(H 228).live=false)∧((H 258).ver=v258+3∧(H 258).live=false)∧H 7028=(bk (w28+1+(nth t.nd n).ou.length) 54 1 (List.map cL ((nth t.nd n).ou)))∧H 7058=(bz (w58+3) 3 1 (List.map cI ((nth t.nd n).kd)))∧True) ⟨(fzT_q t2 rfl),(fzT_q t3 (fzq_other (by decide))),(fzT_q t17 (fzq_other (by decide))),(fzT_q t18 rfl),(fzT_q t19 rfl),(upd_out (kill_out hF (by decide)) (by decide)),((upd_ne _ _ (by decide)).trans (kill_ne h201 (by decide))),((upd_ne _ _ (by decide)).trans (kill_ne h202 (by decide))),((upd_ne _ _ (by decide)).trans (kill_ne h205 (by decide))),(upd_same _ _ _),⟨(congrArg Blk.ver (upd_ne _ _ (by decide))).trans (kill_dead h228).1,(congrArg Blk.live (upd_ne _ _ (by decide))).trans (kill_dead h228).2⟩,⟨(congrArg Blk.ver (upd_ne _ _ (by decide))).trans (kill_self (congrArg Blk.ver h258)).1,(congrArg Blk.live (upd_ne _ _ (by decide))).trans (kill_self (congrArg Blk.ver h258)).2⟩,((upd_ne _ _ (by decide)).trans (kill_ne h7028 (by decide))),((upd_ne _ _ (by decide)).trans (kill_ne h7058 (by decide))),trivial⟩ ?_
   intro T H ⟨t2,t3,t17,t18,t19,hF,h201,h202,h205,h212,h228,h258,h7028,h7058,_⟩
   refine W_t (R_addN t19 (@rfl V (iV ((1:Nat):Int))) (by omega) (R_mv rfl (R_e ?_)))
   refine p12 _ _ _ ?_ (Or.inr (Or.inr (⟨(k+1),(v205+1),w,(v258+3),rfl,t2,t3,t17,t18,(Eq.trans (@rfl V (iV ((k+1:Nat):Int))) (by rfl)),hF,h201,h202,(congrArg Blk.ver h205),(Eq.trans h212 (by (rw [sets_back (f:=cN) (l:=t.nd) (i:=k) (j:=n) (by omega) (by omega) (cp_cN (show (nth t.nd k).ou.length≤j by omega))]; done))),(h228).1,h258,h7028,h7058,?_,?_,?_,?_,?_⟩)))
   · omega
   · omega
   · omega
   · omega
   · omega
   · omega
  refine W_seq_exit (p32 _ _ _ (x1 _ _ (.done (W_r (R_mv t3 (R_build rfl rfl (R_sk t2 rfl rfl h202 rfl rfl rfl rfl rfl ?_)))))))
  refine R_e (W_ret (fork_ (R:=fun T H=>T 2=(V.mp 202 (u2+1) 0 0)∧(∀ j,j∉[201,202,205,228,258,7028,7058,212]→H j=Hi j)∧H 201=(bk (u1+1) 24 1 [[(V.sl (List.map cN (t.nd)))]])∧H 202=(bk (u2+1) 24 1 [[(V.ms 212 (u12+1) 0 (t.nd.length))]])∧(H 205).ver=v205∧H 212=(bk (u12+1) 99 5 ((List.map cN (t.nd)).set n [(V.bool ((nth t.nd n).lf)),(ints (cat [(nth t.nd n).ac])),(ints (cat [(nth t.nd n).sf])),(V.ms 7028 (w28+1+(nth t.nd n).ou.length) 0 ((nth t.nd n).ou.length)),(V.ms 7058 (w58+3) 0 ((nth t.nd n).kd.length))]))∧(H 228).ver=v228∧((H 258).ver=v258∧(H 258).live=false)∧H 7028=(bk (w28+1+(nth t.nd n).ou.length) 54 1 (List.map cL ((nth t.nd n).ou)))∧H 7058=(bz (w58+3) 3 1 (List.map cI ((nth t.nd n).kd)))∧True) ⟨t2,(upd_out hF (by decide)),h201,rfl,h205,h212,h228,h258,h7028,h7058,trivial⟩ ?_))
  intro T H ⟨t2,hF,h201,h202,h205,h212,h228,h258,h7028,h7058,_⟩
  have hkn:k=t.nd.length:=by omega
  subst hkn
  have fh:=FinX.fin (FinX.put (FinX.put (FinX.put (FinX.putv (n:=v258) (B:=(⟨u58+3*t.nd.length,false,false,0,0,[]⟩:Blk)) (FinX.putv (n:=v228) (B:=(⟨u28+t.nd.length*1048578,false,false,0,0,[]⟩:Blk)) (FinX.putv (n:=v205) (B:=(⟨u5+t.nd.length,false,false,0,0,[]⟩:Blk)) (FinX.putv (n:=(u2+1)) (B:=(⟨u2+1,false,false,0,0,[]⟩:Blk)) (FinX.putv (n:=(u1+1)) (B:=(⟨u1+1,false,false,0,0,[]⟩:Blk)) (FinX.start hF) (congrArg Blk.ver h201) (by show _≤u1+1; omega) rfl) (congrArg Blk.ver h202) (by show _≤u2+1; omega) rfl) h205 (by show _≤u5+t.nd.length; omega) rfl) h228 (by show _≤u28+t.nd.length*1048578; omega) rfl) (h258).1 (by show _≤u58+3*t.nd.length; omega) rfl) h7028 (FinB.eq rfl)) h7058 (FinB.eq rfl)) h212 (FinB.eq rfl))
  exact RetFC_1 (resV_c (u:=(V.agg [(V.ms 212 (u12+1) 0 (t.nd.length))])) t2 h202 (lB oB rfl rfl)) fh (FinV.agg1 (FinV.same fh _))
end Go.Proofs.YtmnjchcoigbngabGreat
namespace Go.Proofs.YtmnjchcoigbngabGreat
open Go Go.Proofs Go.Shelf Go.RowKit Go.Lib
structure InsLay (P:Program) (ρ:Ren) (n1:String) (k bytes:Nat) (z:Value):Prop where
  mixed:P.follows .mixedOrders=true
  f22:P.funcs[ρ.f 22]?=some {Body2.n22 ρ with name:=n1}
  ov: ∀ args w,(callFunc (ρ.f 29) args).run P w=((Extern.SlicesOverlaps.overlaps #[(ρ.t 24),(ρ.t 24)] #[(ρ.t 4)] args).run P w).andThen fun v w'=>.ok (.value v) w'
  t0:P.underlying (ρ.t 0)=some (TypeDesc.tuple #[])
  a0: ∀ w,(isAgg (ρ.t 0)).run P w=.ok false w
  z0: ∀ w,(Go.sizeOf (ρ.t 0)).run P w=.ok 1 w
  v0: ∀ w,(zeroValue (ρ.t 0)).run P w=.ok (Value.tuple #[]) w
  t3:P.underlying (ρ.t 3)=some (TypeDesc.int IntKind.i64)
  a3: ∀ w,(isAgg (ρ.t 3)).run P w=.ok false w
  z3: ∀ w,(Go.sizeOf (ρ.t 3)).run P w=.ok 1 w
  v3: ∀ w,(zeroValue (ρ.t 3)).run P w=.ok (Value.int IntKind.i64 0) w
  t4:P.underlying (ρ.t 4)=some (TypeDesc.bool)
  a4: ∀ w,(isAgg (ρ.t 4)).run P w=.ok false w
  z4: ∀ w,(Go.sizeOf (ρ.t 4)).run P w=.ok 1 w
  v4: ∀ w,(zeroValue (ρ.t 4)).run P w=.ok (Value.bool false) w
  z9: ∀ w,(Go.sizeOf (ρ.t 9)).run P w=.ok k w
  t24:P.underlying (ρ.t 24)=some (TypeDesc.slice (ρ.t 9))
  a24: ∀ w,(isAgg (ρ.t 24)).run P w=.ok false w
  z24: ∀ w,(Go.sizeOf (ρ.t 24)).run P w=.ok 1 w
  v24: ∀ w,(zeroValue (ρ.t 24)).run P w=.ok (Value.slice none 0 0) w
  i9:(P.info? (ρ.t 9)).map (fun i=>(i.zero,i.size,i.bytes))=some (some z,k,bytes)
  hk:0 < k
  hz:z.cells.size=k
variable {P:Program} {ρ:Ren} {n1:String} {k bytes:Nat} {z:Value}
theorem run_copy_rowk (w:World) (dT sT ty elem:TypeId) (g o dLen dCap:Nat) (a:Addr) (sLen sCap:Nat) (cur:Array Value) (t:TypeId) (cs:List Value) (k:Nat)
    (hu:P.underlying dT=some (.slice elem)) (hs:(P.info? elem).map (·.size)=some k)
    (hg:w.heap[g]?=some (.cells cur t (0,0))) (hn:cs.length=Nat.min sLen dLen*k)
    (hsrc: ∀ j v,cs[j]?=some v→w.cell? (a.add j)=some v) (hfit:o+cs.length≤cur.size) (h1: ∀ v∈cs,v.oneCell'=true):
    (Builtin.copy_ #[dT,sT] ty #[.slice (some ⟨g,o,none⟩) dLen dCap,.slice (some a) sLen sCap]).run P w=
      .ok (goInt (Nat.min sLen dLen)) (w.setRow g (cur.toList.take o++cs++cur.toList.drop (o+cs.length)).toArray):=by
  have hl:=run_loadCells_list (P:=P) w a cs hsrc
  have hst:=run_storeCells_at P g o t cs 0 cur w hg (by simpa using hfit) h1
  cases hq:P.info? elem with
  |none=>simp [hq] at hs
  |some i=>
    have hi:i.size=k:=by simpa [hq] using hs
    simp [Builtin.copy_,run_underlying hu,Builtin.lenOf,Builtin.firstCells,sizeOf,typeInfo,hq,hi,← hn,hl,hst]
def put (cc:Array Value) (o:Nat) (cs:List Value):Array Value:=(cc.toList.take o++cs++cc.toList.drop (o+cs.length)).toArray
set_option maxHeartbeats 4000000 in
set_option maxRecDepth 100000 in
theorem ins_shift (L:InsLay P ρ n1 k bytes z) (b n c i vb vc:Nat) (cc cv:Array Value) (tb tv:TypeId) (w:World) (hi:i < n) (hroom:n+1≤c) (hc63:c≤9223372036854775807) (hvb:vb≠b)
    (hb:w.heap[b]?=some (.cells cc tb (0,0))) (hv:w.heap[vb]?=some (.cells cv tv (0,0))) (hcc:c*k=cc.size) (hcv:k≤cv.size) (vs:List Value) (hvs:vs=cv.toList.take k)
    (h1c: ∀ v∈cc.toList.take (n*k),v.oneCell'=true) (h1v: ∀ v∈vs,v.oneCell'=true):
    Calls P (ρ.f 22) #[.slice (some ⟨b,0,none⟩) n c,.int .i64 i,.slice (some ⟨vb,0,none⟩) 1 vc] w fun e w'=>
      e=.returned (.slice (some ⟨b,0,none⟩) (n+1) c)∧w'=w.drew.setRow b (put (put cc ((i+1)*k) ((cc.toList.take (n*k)).drop (i*k))) (i*k) vs):=by
  have hk:=L.hk
  have hvl:vs.length=k:=by rw [hvs,List.length_take,Array.length_toList]; omega
  have t0:=L.t0; have a0:=L.a0; have z0:=L.z0; have v0:=L.v0; have t3:=L.t3; have a3:=L.a3; have z3:=L.z3; have v3:=L.v3; have t4:=L.t4; have a4:=L.a4; have z4:=L.z4; have v4:=L.v4; have z9:=L.z9; have t24:=L.t24; have a24:=L.a24; have z24:=L.z24; have v24:=L.v24
  have u0:=run_underlying L.t0; have u3:=run_underlying L.t3; have u4:=run_underlying L.t4; have u24:=run_underlying L.t24
  have hz2: ¬ ((i:Int)=(n:Int)):=by omega
  have hsz:(P.info? (ρ.t 9)).map (·.size)=some k:=by
    obtain ⟨i0,hi0,h0,h1,h2⟩:=info_parts L.i9
    rw [hi0]; simp [h1]
  have hov: ∀ lb cb,(callFunc (ρ.f 29) #[.slice (some ⟨vb,0,none⟩) 1 vc,.slice (some ⟨b,(i+1)*k,none⟩) lb cb]).run P w=.ok (.value (.bool false)) w:=fun lb cb=>by
    rw [L.ov,
      Lib.run_overlaps_apart w (ρ.t 24) (ρ.t 4) (ρ.t 9) L.t24 k L.z9 ⟨vb,0,none⟩ ⟨b,(i+1)*k,none⟩ 1 vc lb cb hvb tv tb cv.size cc.size (by simp [World.shape?,hv]) (by simp [World.shape?,hb]) (by rw [← hcc]; have:0 < c*k:=Nat.mul_pos (by omega) hk; omega) (by simp [World.frozen?,hv]) (by simp [World.frozen?,hv])]
    rfl
  have mixed:=L.mixed
  have hw1:IntKind.i64.wrap ((i:Int)+1)=(i:Int)+1:=by rw [IntKind.wrap_i64]; omega
  have hb1:(0:Int)≤(i:Int)+1:=by omega
  have hin:i≤n:=by omega
  have htn:((i:Int)+1).toNat=i+1:=by omega
  have hb2: ¬ (c=i+1):=by omega
  have hb3:(i:Int)≤(n:Int)+1:=by omega
  have hb4: ¬ (c=i):=by omega
  have hnk:n*k≤cc.size:=by rw [← hcc]; exact Nat.mul_le_mul_right k (by omega)
  have hn1k:(n+1)*k≤cc.size:=by rw [← hcc]; exact Nat.mul_le_mul_right k (by omega)
  have hik:i*k≤n*k:=Nat.mul_le_mul_right k hin
  obtain ⟨ds,hds⟩: ∃ ds,ds=(cc.toList.take (n*k)).drop (i*k):=⟨_,rfl⟩
  have hdl:ds.length=(n - i)*k:=by rw [hds,List.length_drop,List.length_take,Array.length_toList,Nat.min_eq_left hnk,Nat.sub_mul]
  rw [← hds]
  have e1:Nat.min (n+1 - i) (n - i)=n - i:=by simp only [Nat.min_def]; split <;> omega
  have e2:(i+1)*k+(n - i)*k=(n+1)*k:=by rw [← Nat.add_mul]; congr 1; omega
  have hcp1: ∀ ty dc sc,(Builtin.copy_ #[(ρ.t 24),(ρ.t 24)] ty #[.slice (some ⟨b,(i+1)*k,none⟩) (n - i) dc,.slice (some ⟨b,i*k,none⟩) (n+1 - i) sc]).run P w.drew=.ok (goInt (n - i:Nat)) (w.drew.setRow b (put cc ((i+1)*k) ds)):=fun ty dc sc=>by
    have h:=run_copy_rowk (P:=P) w.drew (ρ.t 24) (ρ.t 24) ty (ρ.t 9) b ((i+1)*k) (n - i) dc ⟨b,i*k,none⟩ (n+1 - i) sc cc tb ds k L.t24 hsz hb (by rw [hdl,e1])
      (fun j v hj=>by
        rw [Addr.add_lit]
        have hj':=hj
        rw [hds,List.getElem?_drop,List.getElem?_take] at hj
        split at hj
        · rw [Array.getElem?_toList] at hj
          simp [World.cell?,show w.drew.heap[b]?=_ from hb,hj]
        · cases hj) (by rw [hdl,e2]; exact hn1k) (fun v hv=>h1c v (List.mem_of_mem_drop (hds ▸ hv)))
    rw [e1] at h
    exact h
  have hps:(put cc ((i+1)*k) ds).size=cc.size:=by
    simp only [put,List.size_toArray,List.length_append,List.length_take,List.length_drop,Array.length_toList,hdl,e2]
    omega
  obtain ⟨W1,hW1⟩: ∃ W1,W1=w.drew.setRow b (put cc ((i+1)*k) ds):=⟨_,rfl⟩
  have hB1:W1.heap[b]?=some (.cells (put cc ((i+1)*k) ds) tb (0,0)):=by rw [hW1]; exact setRow_heap w.drew b cc _ tb _ hb
  have hV1:W1.heap[vb]?=some (.cells cv tv (0,0)):=by rw [hW1,setRow_other w.drew b vb _ hvb]; exact hv
  have hcp2: ∀ ty dc,(Builtin.copy_ #[(ρ.t 24),(ρ.t 24)] ty #[.slice (some ⟨b,i*k,none⟩) (n+1 - i) dc,.slice (some ⟨vb,0,none⟩) 1 vc]).run P W1=.ok (goInt (1:Nat)) (W1.setRow b (put (put cc ((i+1)*k) ds) (i*k) vs)):=fun ty dc=>by
    have e3:Nat.min 1 (n+1 - i)=1:=by simp only [Nat.min_def]; split <;> omega
    have h:=run_copy_rowk (P:=P) W1 (ρ.t 24) (ρ.t 24) ty (ρ.t 9) b (i*k) (n+1 - i) dc ⟨vb,0,none⟩ 1 vc _ tb vs k L.t24 hsz hB1 (by rw [e3,hvl,Nat.one_mul])
      (fun j v hj=>by
        rw [Addr.add_lit]
        rw [hvs,List.getElem?_take] at hj
        split at hj
        · rw [Array.getElem?_toList] at hj
          simp [World.cell?,hV1,hj]
        · cases hj) (by rw [hps,hvl]; have:(i+1)*k≤(n+1)*k:=Nat.mul_le_mul_right k (by omega); rw [Nat.add_mul,Nat.one_mul] at this; omega) h1v
    rw [e3] at h
    exact h
  have hfin:W1.setRow b (put (put cc ((i+1)*k) ds) (i*k) vs)=w.drew.setRow b (put (put cc ((i+1)*k) ds) (i*k) vs):=by rw [hW1,setRow_setRow]
  rw [← hW1] at hcp1
  clear hW1 hds e1 e2 hvs
  go_enter L.f22,Body2.n22_ntmps ρ
  go_wp2_with (simp only [hov])
  go_region_law_o (refine step_copy_runI rfl _ _ (ρ.t 24) (ρ.t 24) rfl _ _ (by simp [Act.eval,Act.put]) (by simp [Act.eval,Act.put]) (hcp1 _ _ _) ?_)
  go_wp2_with (at_builtin; refine wpList_copy_runI _ rfl _ _ (ρ.t 24) (ρ.t 24) rfl _ _ rfl rfl (hcp2 _ _) ?_)
  go_ret
  first|exact ⟨rfl,rfl⟩|exact ⟨rfl,hfin⟩
theorem alloc_setRow (w:World) (a b:Array Value) (e:TypeId):(w.alloc (.cells a e)).setRow w.heap.size b=w.alloc (.cells b e):=by
  have h:(w.alloc (.cells a e)).heap[w.heap.size]?=some (.cells a e (0,0)):=heap_push_eq _ _
  unfold World.setRow World.alloc
  congr 1
  refine Array.ext_getElem? fun j=>?_
  rw [Array.getElem?_modify]
  split
  · rename_i hj
    subst hj
    simp [Obj.cells]
  · rename_i hj
    simp only [Array.getElem?_push]
    rw [if_neg (fun x=>hj x.symm),if_neg (fun x=>hj x.symm)]
set_option maxHeartbeats 4000000 in
set_option maxRecDepth 100000 in
theorem ins_grow (L:InsLay P ρ n1 k bytes z) (b n c i vb vc:Nat) (cc cv:Array Value) (tb tv:TypeId) (w:World) (hi:i < n) (hnc:n≤c) (hroom:c < n+1) (hc63:c < 9223372036854775807) (hbig:(n+1)*bytes≤140737488355328)
    (hb:w.heap[b]?=some (.cells cc tb (0,0))) (hv:w.heap[vb]?=some (.cells cv tv (0,0))) (hcc:c*k=cc.size) (hcv:k≤cv.size) (vs:List Value) (hvs:vs=cv.toList.take k)
    (h1c: ∀ v∈cc.toList.take (n*k),v.oneCell'=true) (h1v: ∀ v∈vs,v.oneCell'=true):
    Calls P (ρ.f 22) #[.slice (some ⟨b,0,none⟩) n c,.int .i64 i,.slice (some ⟨vb,0,none⟩) 1 vc] w fun e w'=>
      ∃ G R,R.size=G*k∧n+1≤G∧G≤maxLen∧e=.returned (.slice (some ⟨w.heap.size,0,none⟩) (n+1) G)∧w'=w.drew.drew.alloc (.cells (put (put R (i*k) vs) ((i+1)*k) ((cc.toList.take (n*k)).drop (i*k))) (ρ.t 9))∧R.toList.take (i*k)=cc.toList.take (i*k):=by
  have hk:=L.hk; have hzl:=L.hz
  have hvl:vs.length=k:=by rw [hvs,List.length_take,Array.length_toList]; omega
  have t0:=L.t0; have a0:=L.a0; have z0:=L.z0; have v0:=L.v0; have t3:=L.t3; have a3:=L.a3; have z3:=L.z3; have v3:=L.v3; have t4:=L.t4; have a4:=L.a4; have z4:=L.z4; have v4:=L.v4; have z9:=L.z9; have t24:=L.t24; have a24:=L.a24; have z24:=L.z24; have v24:=L.v24
  have u0:=run_underlying L.t0; have u3:=run_underlying L.t3; have u4:=run_underlying L.t4; have u24:=run_underlying L.t24
  have mixed:=L.mixed
  obtain ⟨i0,hi0,hz0,hzs,hzb⟩:=info_parts L.i9
  have hz2: ¬ ((i:Int)=(n:Int)):=by omega
  have hz3:(c:Int) < (n:Int)+1:=by omega
  have hsz:(P.info? (ρ.t 9)).map (·.size)=some k:=by rw [hi0]; simp [hzs]
  have hbw:b < w.heap.size:=(Array.getElem?_eq_some_iff.1 hb).1
  have hvw:vb < w.heap.size:=(Array.getElem?_eq_some_iff.1 hv).1
  have hkk:(n:Int)+1 - (i:Int)=((n+1 - i:Nat):Int):=by omega
  have hik:i+(n+1 - i)=n+1:=by omega
  have hnk:n*k≤cc.size:=by rw [← hcc]; exact Nat.mul_le_mul_right k (by omega)
  have hikn:i*k≤n*k:=Nat.mul_le_mul_right k (by omega)
  have hold:(Builtin.firstCells i0.size i (.slice (some ⟨b,0,none⟩) i c)).run P w.drew=.ok (cc.toList.take (i*k)).toArray w.drew:=by
    rw [hzs]
    exact run_firstCells_some w.drew k i ⟨b,0,none⟩ i c (cc.toList.take (i*k)) (by rw [List.length_take,Array.length_toList]; omega) (fun j v hj=>by
      rw [Addr.add_lit]
      rw [List.getElem?_take] at hj
      split at hj
      · rw [Array.getElem?_toList] at hj
        simp [World.cell?,show w.drew.heap[b]?=_ from hb,hj]
      · cases hj)
  have hrz: ∀ ty,(Builtin.append_ #[(ρ.t 24),(ρ.t 3)] ty #[.slice (some ⟨b,0,none⟩) i c,.int .i64 ((n:Int)+1 - (i:Int))]).run P w=
      .ok (.slice (some ⟨w.heap.size,0,none⟩) (n+1) (grownCap w (n+1) c (ρ.t 9))) (w.drew.alloc (.cells ((cc.toList.take (i*k)).toArray++Builtin.zeroCells z.cells (n+1 - i)++Builtin.zeroCells z.cells (grownCap w (n+1) c (ρ.t 9) - (n+1))) (ρ.t 9))):=fun ty=>by
    have h:=Lib.run_append_grow_zeros w (ρ.t 24) (ρ.t 3) ty (ρ.t 9) i0 _ .i64 .i64 L.t24 L.t3 hi0 hz0 (some ⟨b,0,none⟩) i c _ hold (n+1 - i) (by omega) (by omega) (by omega) (by omega) (by rw [hzb]; have:(n+1 - i)*bytes≤(n+1)*bytes:=Nat.mul_le_mul_right _ (by omega); omega) (by rw [hzb,hik]; exact growslice_fits hroom hbig)
    rw [hik] at h
    rw [hkk]
    exact h
  have hGn:n+1≤grownCap w (n+1) c (ρ.t 9):=grownCap_ge w _ _ _
  have hGm:grownCap w (n+1) c (ρ.t 9)≤maxLen:=grownCap_le_maxLen w (n+1) c (ρ.t 9) (by unfold maxLen; omega)
  obtain ⟨G,hG⟩: ∃ G,G=grownCap w (n+1) c (ρ.t 9):=⟨_,rfl⟩
  rw [← hG] at hGn hGm
  obtain ⟨ROW,hROW⟩: ∃ ROW:Array Value,ROW=(cc.toList.take (i*k)).toArray++Builtin.zeroCells z.cells (n+1 - i)++Builtin.zeroCells z.cells (G - (n+1)):=⟨_,rfl⟩
  rw [← hG] at hrz
  rw [← hROW] at hrz
  have hRl:ROW.size=G*k:=by
    rw [hROW]
    simp only [Array.size_append,List.size_toArray,List.length_take,Array.length_toList,size_zeroCells,hzl,Nat.min_eq_left (show i*k≤cc.size by omega),← Nat.add_mul]
    congr 1; omega
  have hRt:ROW.toList.take (i*k)=cc.toList.take (i*k):=by
    rw [hROW]
    simp only [Array.toList_append,List.append_assoc]
    rw [List.take_append_of_le_length (by simp; omega),List.take_take,Nat.min_self]
  have hG63:G≤9223372036854775807:=by unfold maxLen at hGm; omega
  have hGi: ¬ (G=i):=by omega
  have hGim: ¬ (G=i+1):=by omega
  have hci: ¬ (c=i):=by omega
  have hn1G:(n+1)*k≤G*k:=Nat.mul_le_mul_right k hGn
  obtain ⟨ds,hds⟩: ∃ ds,ds=(cc.toList.take (n*k)).drop (i*k):=⟨_,rfl⟩
  have hdl:ds.length=(n - i)*k:=by rw [hds,List.length_drop,List.length_take,Array.length_toList,Nat.min_eq_left hnk,Nat.sub_mul]
  rw [← hds]
  have e1:Nat.min (n - i) (n - i)=n - i:=Nat.min_self _
  have e2:(i+1)*k+(n - i)*k=(n+1)*k:=by rw [← Nat.add_mul]; congr 1; omega
  have e4:i*k+k≤(n+1)*k:=by have:(i+1)*k≤(n+1)*k:=Nat.mul_le_mul_right k (by omega); rw [Nat.add_mul,Nat.one_mul] at this; exact this
  obtain ⟨W1,hW1⟩: ∃ W1,W1=w.drew.alloc (.cells ROW (ρ.t 9)):=⟨_,rfl⟩
  have hcpA: ∀ (W:World),W.heap=W1.heap→ ∀ ty dc,(Builtin.copy_ #[(ρ.t 24),(ρ.t 24)] ty #[.slice (some ⟨w.heap.size,i*k,none⟩) (n+1 - i) dc,.slice (some ⟨vb,0,none⟩) 1 vc]).run P W=.ok (goInt (1:Nat)) (W.setRow w.heap.size (put ROW (i*k) vs)):=fun W hW ty dc=>by
    have e3:Nat.min 1 (n+1 - i)=1:=by simp only [Nat.min_def]; split <;> omega
    have hN:W.heap[w.heap.size]?=some (.cells ROW (ρ.t 9) (0,0)):=by rw [hW,hW1]; exact heap_push_eq w.drew _
    have hV:W.heap[vb]?=some (.cells cv tv (0,0)):=by rw [hW,hW1,heap_push_lt w.drew _ hvw]; exact hv
    have h:=run_copy_rowk (P:=P) W (ρ.t 24) (ρ.t 24) ty (ρ.t 9) w.heap.size (i*k) (n+1 - i) dc ⟨vb,0,none⟩ 1 vc ROW (ρ.t 9) vs k L.t24 hsz hN (by rw [e3,hvl,Nat.one_mul])
      (fun j v hj=>by
        rw [Addr.add_lit]
        rw [hvs,List.getElem?_take] at hj
        split at hj
        · rw [Array.getElem?_toList] at hj
          simp [World.cell?,hV,hj]
        · cases hj) (by rw [hRl,hvl]; omega) h1v
    rw [e3] at h
    exact h
  have hps:(put ROW (i*k) vs).size=ROW.size:=by
    simp only [put,List.size_toArray,List.length_append,List.length_take,List.length_drop,Array.length_toList,hvl]
    omega
  have hcpB: ∀ (W:World),W.heap=(W1.setRow w.heap.size (put ROW (i*k) vs)).heap→ ∀ ty dc sc,(Builtin.copy_ #[(ρ.t 24),(ρ.t 24)] ty #[.slice (some ⟨w.heap.size,(i+1)*k,none⟩) (n - i) dc,.slice (some ⟨b,i*k,none⟩) (n - i) sc]).run P W=.ok (goInt (n - i:Nat)) (W.setRow w.heap.size (put (put ROW (i*k) vs) ((i+1)*k) ds)):=fun W hW ty dc sc=>by
    have hN:W.heap[w.heap.size]?=some (.cells (put ROW (i*k) vs) (ρ.t 9) (0,0)):=by
      rw [hW,hW1]; exact setRow_heap _ _ ROW _ (ρ.t 9) _ (heap_push_eq w.drew _)
    have hB:W.heap[b]?=some (.cells cc tb (0,0)):=by
      rw [hW,hW1,setRow_other _ _ b _ (by omega),heap_push_lt w.drew _ hbw]; exact hb
    have h:=run_copy_rowk (P:=P) W (ρ.t 24) (ρ.t 24) ty (ρ.t 9) w.heap.size ((i+1)*k) (n - i) dc ⟨b,i*k,none⟩ (n - i) sc _ (ρ.t 9) ds k L.t24 hsz hN (by rw [hdl,e1])
      (fun j v hj=>by
        rw [Addr.add_lit]
        rw [hds,List.getElem?_drop,List.getElem?_take] at hj
        split at hj
        · rw [Array.getElem?_toList] at hj
          simp [World.cell?,hB,hj]
        · cases hj) (by rw [hdl,e2,hps,hRl]; exact hn1G) (fun v hv=>h1c v (List.mem_of_mem_drop (hds ▸ hv)))
    rw [e1] at h
    exact h
  subst hW1
  have hw1:IntKind.i64.wrap ((i:Int)+1)=(i:Int)+1:=by rw [IntKind.wrap_i64]; omega
  have hb1:(0:Int)≤(i:Int)+1:=by omega
  have hin:i≤n:=by omega
  have htn:((i:Int)+1).toNat=i+1:=by omega
  have hb3:(i:Int)≤(n:Int):=by omega
  have hE1:((w.alloc (.cells ROW (ρ.t 9))).drew).heap=(w.drew.alloc (.cells ROW (ρ.t 9))).heap:=rfl
  have hF1:(((w.alloc (.cells ROW (ρ.t 9))).drew.setRow w.heap.size (put ROW (i*k) vs)).drew).heap=((w.drew.alloc (.cells ROW (ρ.t 9))).setRow w.heap.size (put ROW (i*k) vs)).heap:=rfl
  have hcall:Calls P (ρ.f 22) #[.slice (some ⟨b,0,none⟩) n c,.int .i64 i,.slice (some ⟨vb,0,none⟩) 1 vc] w fun e w'=>e=.returned (.slice (some ⟨w.heap.size,0,none⟩) (n+1) G)∧w'=(((w.alloc (.cells ROW (ρ.t 9))).drew.setRow w.heap.size (put ROW (i*k) vs)).drew).setRow w.heap.size (put (put ROW (i*k) vs) ((i+1)*k) ds):=by
    clear hkk hik hold hROW hG hRl hds e1 e2 e4 hRt hvs
    go_enter L.f22,Body2.n22_ntmps ρ
    go_wp2_with (first
      |(at_builtin; refine Lib.wpList_append_run _ rfl _ _ _ _ rfl _ _ rfl rfl _ _ (hrz _) ?_)
      |(at_builtin; refine wpList_copy_runI _ rfl _ _ (ρ.t 24) (ρ.t 24) rfl _ _ rfl rfl (hcpA _ hE1 _ _) ?_)
      |(at_builtin; refine wpList_copy_runI _ rfl _ _ (ρ.t 24) (ρ.t 24) rfl _ _ rfl rfl (hcpB _ hF1 _ _ _) ?_))
    go_region_law_o (refine step_copy_runI rfl _ _ (ρ.t 24) (ρ.t 24) rfl (.slice (some ⟨w.heap.size,(i+1)*k,none⟩) (n - i) (G - (i+1))) (.slice (some ⟨b,i*k,none⟩) (n - i) (c - i)) (by simp [Act.eval,Act.put]) (by simp [Act.eval,Act.put]) (hcpB _ hF1 (ρ.t 3) (G - (i+1)) (c - i)) ?_)
    go_wp2
    go_ret
    exact ⟨rfl,rfl⟩
  refine hcall.mono fun e w' h=>?_
  obtain ⟨rfl,rfl⟩:=h
  refine ⟨G,ROW,hRl,hGn,hGm,rfl,?_,hRt⟩
  have q:=alloc_setRow w ROW (put ROW (i*k) vs) (ρ.t 9)
  have q2:=alloc_setRow w (put ROW (i*k) vs) (put (put ROW (i*k) vs) ((i+1)*k) ds) (ρ.t 9)
  have q3:(((w.alloc (.cells ROW (ρ.t 9))).drew.setRow w.heap.size (put ROW (i*k) vs)).drew).setRow w.heap.size (put (put ROW (i*k) vs) ((i+1)*k) ds)=((((w.alloc (.cells ROW (ρ.t 9))).setRow w.heap.size (put ROW (i*k) vs))).setRow w.heap.size (put (put ROW (i*k) vs) ((i+1)*k) ds)).drew.drew:=rfl
  rw [q3,q,q2]
  rfl
set_option maxHeartbeats 4000000 in
set_option maxRecDepth 100000 in
theorem ins_end (L:InsLay P ρ n1 k bytes z) (b n c vb vc:Nat) (w w':World) (v:Value) (hnc:n≤c)
    (hr: ∀ ty,(Builtin.append_ #[(ρ.t 24),(ρ.t 24)] ty #[.slice (some ⟨b,0,none⟩) n c,.slice (some ⟨vb,0,none⟩) 1 vc]).run P w=.ok v w'):
    Calls P (ρ.f 22) #[.slice (some ⟨b,0,none⟩) n c,.int .i64 n,.slice (some ⟨vb,0,none⟩) 1 vc] w fun e u=>e=.returned v∧u=w':=by
  have hk:=L.hk
  have t0:=L.t0; have a0:=L.a0; have z0:=L.z0; have v0:=L.v0; have t3:=L.t3; have a3:=L.a3; have z3:=L.z3; have v3:=L.v3; have t4:=L.t4; have a4:=L.a4; have z4:=L.z4; have v4:=L.v4; have z9:=L.z9; have t24:=L.t24; have a24:=L.a24; have z24:=L.z24; have v24:=L.v24
  have u0:=run_underlying L.t0; have u3:=run_underlying L.t3; have u4:=run_underlying L.t4; have u24:=run_underlying L.t24
  have mixed:=L.mixed
  go_enter L.f22,Body2.n22_ntmps ρ
  go_wp2_with (at_builtin; refine Lib.wpList_append_run _ rfl _ _ _ _ rfl _ _ rfl rfl _ _ (hr _) ?_)
  all_goals (go_ret; exact ⟨rfl,rfl⟩)
set_option maxHeartbeats 4000000 in
set_option maxRecDepth 100000 in
theorem ins_none (L:InsLay P ρ n1 k bytes z) (vb vc:Nat) (w w':World) (v:Value)
    (hr: ∀ ty,(Builtin.append_ #[(ρ.t 24),(ρ.t 24)] ty #[.slice none 0 0,.slice (some ⟨vb,0,none⟩) 1 vc]).run P w=.ok v w'):
    Calls P (ρ.f 22) #[.slice none 0 0,.int .i64 0,.slice (some ⟨vb,0,none⟩) 1 vc] w fun e u=>e=.returned v∧u=w':=by
  have hk:=L.hk
  have t0:=L.t0; have a0:=L.a0; have z0:=L.z0; have v0:=L.v0; have t3:=L.t3; have a3:=L.a3; have z3:=L.z3; have v3:=L.v3; have t4:=L.t4; have a4:=L.a4; have z4:=L.z4; have v4:=L.v4; have z9:=L.z9; have t24:=L.t24; have a24:=L.a24; have z24:=L.z24; have v24:=L.v24
  have u0:=run_underlying L.t0; have u3:=run_underlying L.t3; have u4:=run_underlying L.t4; have u24:=run_underlying L.t24
  have mixed:=L.mixed
  go_enter L.f22,Body2.n22_ntmps ρ
  go_wp2_with (at_builtin; refine Lib.wpList_append_run _ rfl _ _ _ _ rfl _ _ rfl rfl _ _ (hr _) ?_)
  all_goals (go_ret; exact ⟨rfl,rfl⟩)
set_option maxHeartbeats 4000000 in
set_option maxRecDepth 100000 in
theorem ins_some (L:InsLay P ρ n1 k bytes z) (a:Addr) (vb vc:Nat) (w w':World) (v:Value)
    (hr: ∀ ty,(Builtin.append_ #[(ρ.t 24),(ρ.t 24)] ty #[.slice (some a) 0 0,.slice (some ⟨vb,0,none⟩) 1 vc]).run P w=.ok v w'):
    Calls P (ρ.f 22) #[.slice (some a) 0 0,.int .i64 0,.slice (some ⟨vb,0,none⟩) 1 vc] w fun e u=>e=.returned v∧u=w':=by
  have hk:=L.hk
  have t0:=L.t0; have a0:=L.a0; have z0:=L.z0; have v0:=L.v0; have t3:=L.t3; have a3:=L.a3; have z3:=L.z3; have v3:=L.v3; have t4:=L.t4; have a4:=L.a4; have z4:=L.z4; have v4:=L.v4; have z9:=L.z9; have t24:=L.t24; have a24:=L.a24; have z24:=L.z24; have v24:=L.v24
  have u0:=run_underlying L.t0; have u3:=run_underlying L.t3; have u4:=run_underlying L.t4; have u24:=run_underlying L.t24
  have mixed:=L.mixed
  go_enter L.f22,Body2.n22_ntmps ρ
  go_wp2_with (at_builtin; refine Lib.wpList_append_run _ rfl _ _ _ _ rfl _ _ rfl rfl _ _ (hr _) ?_)
  all_goals (go_ret; exact ⟨rfl,rfl⟩)
end Go.Proofs.YtmnjchcoigbngabGreat
namespace Go.Proofs.YtmnjchcoigbngabGreat
open Go Go.Proofs Go.Shelf Go.Lib
theorem put_get {cc:Array Value} {o:Nat} {cs:List Value} (h:o+cs.length≤cc.size) (q:Nat):(put cc o cs)[q]?=if o≤q∧q < o+cs.length then cs[q - o]? else cc[q]?:=by
  unfold put
  rw [seg_get h]
theorem put_size {cc:Array Value} {o:Nat} {cs:List Value} (h:o+cs.length≤cc.size):(put cc o cs).size=cc.size:=by
  simp only [put,List.size_toArray,List.length_append,List.length_take,List.length_drop,Array.length_toList]
  omega
theorem ins_rows {x:Cx} {rows:List (List V)} {row:List V} {k i:Nat} {cc cv F:Array Value} (hsz: ∀ r∈rows,r.length=k) (hsz1:row.length=k) (hi:i≤rows.length)
    (hr: ∀ (r:Nat) (row:List V) (j:Nat) (v:V),rows[r]?=some row→row[j]?=some v→R x v (cc.getD (r*k+j) undef))
    (hv: ∀ (j:Nat) (v:V),row[j]?=some v→R x v (cv.getD j undef))
    (ha: ∀ q,q < i*k→F[q]?=cc[q]?) (hb: ∀ q,q < k→F[i*k+q]?=cv[q]?) (hc: ∀ q,q < (rows.length - i)*k→F[(i+1)*k+q]?=cc[i*k+q]?):
    ∀ (r:Nat) (row':List V) (j:Nat) (v:V),(rows.take i++row::rows.drop i)[r]?=some row'→row'[j]?=some v→R x v (F.getD (r*k+j) undef):=by
  intro r row' j v h1 h2
  have hlt:(rows.take i).length=i:=by rw [List.length_take]; omega
  rw [List.getElem?_append] at h1
  split at h1
  · rename_i hlt'
    rw [hlt] at hlt'
    rw [List.getElem?_take,if_pos hlt'] at h1
    have hjk:j < k:=by rw [← hsz _ (List.mem_of_getElem? h1)]; exact (List.getElem?_eq_some_iff.1 h2).1
    have:r*k+j < i*k:=by
      have:(r+1)*k≤i*k:=Nat.mul_le_mul_right k hlt'
      rw [Nat.add_mul,Nat.one_mul] at this; omega
    rw [Array.getD_eq_getD_getElem?,ha _ this,← Array.getD_eq_getD_getElem?]
    exact hr r row' j v h1 h2
  · rename_i hge
    rw [hlt] at h1 hge
    by_cases he:r=i
    · subst he
      rw [Nat.sub_self] at h1
      simp only [List.getElem?_cons_zero,Option.some.injEq] at h1
      subst h1
      have hjk:j < k:=by rw [← hsz1]; exact (List.getElem?_eq_some_iff.1 h2).1
      rw [Array.getD_eq_getD_getElem?,hb _ hjk,← Array.getD_eq_getD_getElem?]
      exact hv j v h2
    · obtain ⟨q,hq⟩: ∃ q,r - i=q+1:=⟨r - i - 1,by omega⟩
      rw [hq,List.getElem?_cons_succ,List.getElem?_drop] at h1
      have hjk:j < k:=by rw [← hsz _ (List.mem_of_getElem? h1)]; exact (List.getElem?_eq_some_iff.1 h2).1
      have hql:=(List.getElem?_eq_some_iff.1 h1).1
      have hlt2:q*k+j < (rows.length - i)*k:=by
        have:(q+1)*k≤(rows.length - i)*k:=Nat.mul_le_mul_right k (by omega)
        rw [Nat.add_mul,Nat.one_mul] at this; omega
      have e1:r*k+j=(i+1)*k+(q*k+j):=by rw [← Nat.add_assoc,← Nat.add_mul]; congr 2; omega
      have e2:i*k+(q*k+j)=(i+q)*k+j:=by rw [Nat.add_mul]; omega
      rw [e1,Array.getD_eq_getD_getElem?,hc _ hlt2,← Array.getD_eq_getD_getElem?,e2]
      exact hr _ row' j v h1 h2
section
variable {P:Program} {ρ:Ren} {n1:String} {k bytes:Nat} {z:Value}
theorem ins_full (L:InsLay P ρ n1 k bytes z) {zz:List V} (hzz:zeroOf P (ρ.t 9)=some zz) (hzl:zz.length=k) {x:Cx} (hx:Inv x) {id id2 ver ver2 ty2 i:Nat} {rows:List (List V)} {row:List V} {c0 c2:Value}
    {lz:Bool} (hlz:(lz&&rows.isEmpty)=false) (hH:x.H id=⟨ver,true,lz,ρ.t 9,k,rows⟩) (hH2:x.H id2=⟨ver2,true,false,ty2,k,[row]⟩) (hne:id≠id2) (hi:i≤rows.length)
    (hf:fitRows k rows=true) (hf1:fitRows k [row]=true) (hb:(rows.length+1)*bytes≤140737488355328) (hm:rows.length+1≤9223372036854775807)
    (r0:R x (.ms id ver 0 rows.length) c0) (r2:R x (.ms id2 ver2 0 1) c2):
    Calls P (ρ.f 22) #[c0,.int .i64 i,c2] x.w fun e w'=> ∃ c y,e=.returned c∧y.w=w'∧y.H=upd x.H id ⟨ver+1,true,lz,ρ.t 9,k,rows.take i++row::rows.drop i⟩∧Inv y∧R y (.ms id (ver+1) 0 (rows.length+1)) c∧Frame x y:=by
  have hk:=L.hk
  have ho:(x.H id).own=true:=by rw [hH]; simp only [Blk.own,hlz]; rfl
  have ho2:(x.H id2).own=true:=by rw [hH2]; rfl
  obtain ⟨hsz,hone⟩:=fitRows_spec hf
  obtain ⟨hsz1,hone1⟩:=fitRows_spec hf1
  have r0':=r0; have r2':=r2
  cases r0 with
  |ms _ _ _ _ b n cap hv hh=>
  cases r2 with
  |ms _ _ _ _ b2 m2 cap2 hv2 hh2=>
  obtain ⟨e1,e2,e3,e4,e5,e6⟩:=hh (by rw [hH]) (by rw [hH])
  obtain ⟨d1,d2,d3,d4,d5,d6⟩:=hh2 (by rw [hH2]) (by rw [hH2])
  obtain ⟨e7,e8⟩:=e5 ho
  obtain ⟨d7,d8⟩:=d5 ho2
  obtain ⟨cc,b1,bb2,bb3,bb4⟩:=hx.blk id ho
  obtain ⟨cv,v1,vv2,vv3,vv4⟩:=hx.blk id2 ho2
  have hrs:rowSize x.w (x.σ id)=cc.size:=by unfold rowSize; rw [b1]
  have hrs2:rowSize x.w (x.σ id2)=cv.size:=by unfold rowSize; rw [v1]
  rw [hrs,hH] at e8
  rw [hrs2,hH2] at d8
  rw [hH] at e7 b1 bb3 bb4
  rw [hH2] at d7 v1 vv3 vv4
  simp only [Nat.zero_mul,Nat.zero_add] at e7 d7 e8 d8
  simp only at b1 bb3 bb4 v1 vv3 vv4
  subst e1; subst d1; subst e7; subst d7
  have hvb:x.σ id2≠x.σ id:=fun e=>hne (hx.inj id id2 ho ho2 e.symm)
  have hcv:k≤cv.size:=by simpa using vv3
  have hsz1':row.length=k:=hsz1 row (by simp)
  have hrow: ∀ (j:Nat) (v:V),row[j]?=some v→R x v (cv.getD j undef):=fun j v hj=>by
    have:=vv4 0 row j v rfl hj
    simpa using this
  have h1c: ∀ v∈cc.toList.take (rows.length*k),v.oneCell'=true:=fun v hv=>by
    obtain ⟨q,hq⟩:=List.getElem?_of_mem hv
    rw [List.getElem?_take] at hq
    split at hq
    · rename_i hlt
      obtain ⟨rw',u,h5,h6,h7⟩:=CRR_cell hsz hlt
      have h8:=bb4 _ _ _ _ h5 h6
      rw [h7,Array.getD_eq_getD_getElem?,← Array.getElem?_toList,hq] at h8
      exact h8.one (hone _ (List.mem_of_getElem? h5) _ (List.mem_of_getElem? h6))
    · cases hq
  obtain ⟨vs,hvs⟩: ∃ vs,vs=cv.toList.take k:=⟨_,rfl⟩
  have hvl:vs.length=k:=by rw [hvs,List.length_take,Array.length_toList]; omega
  have hvg: ∀ q,q < k→vs[q]?=cv[q]?:=fun q hq=>by rw [hvs,List.getElem?_take,if_pos hq,Array.getElem?_toList]
  have h1v: ∀ v∈vs,v.oneCell'=true:=fun v hv=>by
    obtain ⟨q,hq⟩:=List.getElem?_of_mem hv
    have hlt:q < k:=by rw [← hvl]; exact (List.getElem?_eq_some_iff.1 hq).1
    have hu: ∃ u,row[q]?=some u:=⟨_,List.getElem?_eq_getElem (by rw [hsz1']; exact hlt)⟩
    obtain ⟨u,hu⟩:=hu
    have h8:=hrow q u hu
    rw [Array.getD_eq_getD_getElem?,← hvg q hlt,hq] at h8
    exact h8.one (hone1 row (by simp) u (List.mem_of_getElem? hu))
  obtain ⟨n,hn⟩: ∃ n,n=rows.length:=⟨_,rfl⟩
  have hnew: ∀ r∈rows.take i++row::rows.drop i,r.length=k:=fun r hr=>by
    rcases List.mem_append.1 hr with hr|hr
    · exact hsz r (List.mem_of_mem_take hr)
    · rcases List.mem_cons.1 hr with hr|hr
      · rw [hr]; exact hsz1'
      · exact hsz r (List.mem_of_mem_drop hr)
  have hnewl:(rows.take i++row::rows.drop i).length=rows.length+1:=by simp; omega
  by_cases hend:i=rows.length
  · obtain ⟨i0,hi0,hz0,hzs,hzb⟩:=info_parts L.i9
    obtain ⟨y,c,hr,y1,y2,y3,y4⟩:=append_run (P:=P) (esz:=k) (bytes:=bytes) (new:=[row]) hx L.t24 hi0 hzz hzs hzb hzl (by omega) (i:=id) (ver:=ver) (len:=rows.length) (u:=.ms id2 ver2 0 1) (by rw [hH]) (by rw [hH]) (by rw [hH]) (by rw [hH]) (by rw [hH])
      (by simp [rowsOf,hH2]) hf1 hb hm r0' r2' 0
    rw [hend]
    refine (ins_end L (x.σ id) rows.length cap (x.σ id2) cap2 x.w y.w c e2 fun ty=>hr).mono fun e w' h=>?_
    obtain ⟨rfl,rfl⟩:=h
    refine ⟨c,y,rfl,rfl,?_,y2,y4,y3⟩
    rw [y1,hH]
    simp
  have hlt:i < rows.length:=by omega
  have hnk:rows.length*k≤cc.size:=by rw [← e8]; exact Nat.mul_le_mul_right k e2
  have hik:i*k≤rows.length*k:=Nat.mul_le_mul_right k hi
  obtain ⟨ds,hds⟩: ∃ ds,ds=(cc.toList.take (rows.length*k)).drop (i*k):=⟨_,rfl⟩
  have hdl:ds.length=(rows.length - i)*k:=by rw [hds,List.length_drop,List.length_take,Array.length_toList (xs:=cc),Nat.min_eq_left hnk,Nat.sub_mul]
  have hdg: ∀ q,q < (rows.length - i)*k→ds[q]?=cc[i*k+q]?:=fun q hq=>by
    rw [hds,List.getElem?_drop,List.getElem?_take,if_pos (by rw [Nat.sub_mul] at hq; omega),Array.getElem?_toList]
  have e9:(i+1)*k+(rows.length - i)*k=(rows.length+1)*k:=by rw [← Nat.add_mul]; congr 1; omega
  have e10:(i+1)*k=i*k+k:=by rw [Nat.add_mul,Nat.one_mul]
  by_cases hroom:rows.length+1≤cap
  · have hn1k:(rows.length+1)*k≤cc.size:=by rw [← e8]; exact Nat.mul_le_mul_right k hroom
    refine (ins_shift L (x.σ id) rows.length cap i (x.σ id2) cap2 cc cv _ _ x.w hlt hroom (by unfold maxLen at e3; omega) hvb b1 v1 e8 hcv vs hvs h1c h1v).mono fun e w' h=>?_
    obtain ⟨rfl,rfl⟩:=h
    rw [← hds]
    have hs1:(put cc ((i+1)*k) ds).size=cc.size:=put_size (by rw [hdl,e9]; exact hn1k)
    have hfit2:i*k+vs.length≤(put cc ((i+1)*k) ds).size:=by rw [hs1,hvl]; omega
    obtain ⟨dI,dF⟩:=step_draw hx (x.w.drawn+1) (Nat.le_succ _)
    obtain ⟨hI,hF⟩:=step_set dI id ho cc (put (put cc ((i+1)*k) ds) (i*k) vs) (by rw [hH]; exact b1) (by rw [put_size hfit2,hs1]) (ver+1) (rows.take i++row::rows.drop i) (by simp only [hH]; omega) (by simp only [hH]; omega) (by simp only [hH]; simp)
      (by simp only [hH]; exact hnew) (by simp only [hH]; rw [hnewl]; exact hn1k) (by
        simp only [hH]
        refine ins_rows hsz hsz1' hi (fun r row j v h5 h6=>(bb4 r row j v h5 h6).frame hx dF) (fun j v h5=>(hrow j v h5).frame hx dF) (fun q hq=>?_) (fun q hq=>?_) (fun q hq=>?_)
        · rw [put_get hfit2,if_neg (by omega),put_get (by rw [hdl,e9]; exact hn1k),if_neg (by omega)]
        · rw [put_get hfit2,if_pos (by omega),Nat.add_sub_cancel_left]; exact hvg q hq
        · rw [put_get hfit2,if_neg (by omega),put_get (by rw [hdl,e9]; exact hn1k),if_pos (by rw [hdl]; omega),Nat.add_sub_cancel_left]; exact hdg q hq)
    refine ⟨_,_,rfl,?_,?_,hI,?_,dF.trans hF⟩
    · rfl
    · simp only [hH]
    · refine .ms _ _ _ _ _ _ _ (by simp [upd_same]) fun _ _=>?_
      simp only [upd_same,hH]
      refine ⟨trivial,hroom,e3,by rw [hnewl]; omega,fun _=>⟨by simp,?_⟩,fun h=>by simp [Blk.own] at h⟩
      have:rowSize (({x.w with drawn:=x.w.drawn+1}:World).setRow (x.σ id) (put (put cc ((i+1)*k) ds) (i*k) vs)) (x.σ id)=cc.size:=by
        have q:=setRow_heap ({x.w with drawn:=x.w.drawn+1}:World) (x.σ id) cc (put (put cc ((i+1)*k) ds) (i*k) vs) _ _ b1
        unfold rowSize
        rw [q]
        show (put (put cc ((i+1)*k) ds) (i*k) vs).size=cc.size
        rw [put_size hfit2,hs1]
      rw [this,Nat.zero_add]; exact e8
  · refine (ins_grow L (x.σ id) rows.length cap i (x.σ id2) cap2 cc cv _ _ x.w hlt e2 (by omega) (by omega) hb b1 v1 e8 hcv vs hvs h1c h1v).mono fun e w' h=>?_
    obtain ⟨G,Rw,g1,g2,g3,rfl,rfl,g4⟩:=h
    rw [← hds]
    have hGk:(rows.length+1)*k≤Rw.size:=by rw [g1]; exact Nat.mul_le_mul_right k g2
    have hfit1:i*k+vs.length≤Rw.size:=by rw [hvl]; omega
    have hs1:(put Rw (i*k) vs).size=Rw.size:=put_size hfit1
    have hfit2:(i+1)*k+ds.length≤(put Rw (i*k) vs).size:=by rw [hs1,hdl,e9]; exact hGk
    obtain ⟨dI,dF⟩:=step_draw hx (x.w.drawn+2) (by omega)
    obtain ⟨hI,hF⟩:=step_own dI id (put (put Rw (i*k) vs) ((i+1)*k) ds) lz (ρ.t 9) k (rows.take i++row::rows.drop i) hnew (by rw [hnewl,put_size hfit2,hs1]; exact hGk) (by
        refine ins_rows hsz hsz1' hi (fun r row j v h5 h6=>(bb4 r row j v h5 h6).frame hx dF) (fun j v h5=>(hrow j v h5).frame hx dF) (fun q hq=>?_) (fun q hq=>?_) (fun q hq=>?_)
        · rw [put_get hfit2,if_neg (by omega),put_get hfit1,if_neg (by omega)]
          have:=congrArg (fun l=>l[q]?) g4
          simp only [List.getElem?_take,if_pos hq,Array.getElem?_toList] at this
          exact this
        · rw [put_get hfit2,if_neg (by omega),put_get hfit1,if_pos (by omega),Nat.add_sub_cancel_left]; exact hvg q hq
        · rw [put_get hfit2,if_pos (by rw [hdl]; omega),Nat.add_sub_cancel_left]; exact hdg q hq)
    refine ⟨_,_,rfl,?_,?_,hI,?_,dF.trans hF⟩
    · rfl
    · simp only [hH]
    · refine .ms _ _ _ _ _ _ _ (by simp [upd_same,hH]) fun _ _=>?_
      simp only [upd_same,hH]
      refine ⟨trivial,g2,g3,by rw [hnewl]; omega,fun _=>⟨by simp,?_⟩,fun h=>by simp [Blk.own] at h⟩
      rw [rowSize_new,put_size hfit2,hs1,g1,Nat.zero_add]
theorem CallOK_insert (L:InsLay P ρ n1 k bytes z) (hcf:callable P (ρ.f 22)) {zz:List V} (hzz:zeroOf P (ρ.t 9)=some zz) (hzl:zz.length=k) {id id2 ver ver2 ty2 i n:Nat} {rows:List (List V)} {row:List V} {H:Heap}
    {lz:Bool} (hlz:(lz&&(rows.take n).isEmpty)=false) (hH:H id=⟨ver,true,lz,ρ.t 9,k,rows⟩) (hH2:H id2=⟨ver2,true,false,ty2,k,[row]⟩) (hne:id≠id2) (hn:n≤rows.length) (hi:i≤n)
    (hf:fitRows k (rows.take n)=true) (hf1:fitRows k [row]=true) (hb:(n+1)*bytes≤140737488355328) (hm:n+1≤9223372036854775807):
    CallOK P (ρ.f 22) [.ms id ver 0 n,iV i,.ms id2 ver2 0 1] H (.ms id (ver+2) 0 (n+1)) (upd H id ⟨ver+2,true,lz,ρ.t 9,k,(rows.take n).take i++row::(rows.take n).drop i⟩):=by
  refine ⟨hcf,fun x cs hxH hx hr=>?_⟩
  subst hxH
  obtain ⟨c0,c1,c2,rfl⟩: ∃ c0 c1 c2,cs=[c0,c1,c2]:=by
    have:=hr.1
    match cs with
    |[a,b,c]=>exact ⟨a,b,c,rfl⟩
    |[]=>simp at this
    |[_]=>simp at this
    |[_,_]=>simp at this
    |_::_::_::_::_=>simp at this
  have r0:R x (.ms id ver 0 n) c0:=hr.2 0 _ rfl
  have r1:R x (iV i) c1:=hr.2 1 _ rfl
  have r2:R x (.ms id2 ver2 0 1) c2:=hr.2 2 _ rfl
  have hc1:c1=.int .i64 i:=by
    unfold iV at r1
    cases r1; rfl
  subst hc1
  have hlz2:(lz&&rows.isEmpty)=false:=by
    cases lz with
    |false=>rfl
    |true=>
      cases rows with
      |nil=>simp at hlz
      |cons a l=>rfl
  have ho:(x.H id).own=true:=by rw [hH]; simp only [Blk.own,hlz2]; rfl
  obtain ⟨cc,b1,bb2,bb3,bb4⟩:=hx.blk id ho
  have hlen:(rows.take n).length=n:=by rw [List.length_take]; omega
  obtain ⟨hI,hF⟩:=step_set hx id ho cc cc b1 rfl (ver+1) (rows.take n) (by rw [hH]; exact Nat.le_succ _) (by rw [hH]; simp) (by rw [hH]; exact hlz) (fun r h=>bb2 r (by rw [hH]; exact List.mem_of_mem_take h))
    (by rw [hlen]; refine Nat.le_trans (Nat.mul_le_mul_right _ ?_) bb3; rw [hH]; exact hn) (fun r row j v h1 h2=>by
      rw [List.getElem?_take] at h1
      split at h1
      · exact bb4 r row j v (by rw [hH]; exact h1) h2
      · cases h1)
  have hw:x.w.setRow (x.σ id) cc=x.w:=setRow_self x.w _ cc _ _ b1
  rw [hw] at hI hF
  have q0:R {x with H:=upd x.H id ⟨ver+1,true,(x.H id).lz,(x.H id).ty,(x.H id).sz,rows.take n⟩} (.ms id (ver+1) 0 (rows.take n).length) c0:=by
    cases r0 with
    |ms _ _ _ _ b m cap hv hh=>
    obtain ⟨e1,e2,e3,e4,e5,e6⟩:=hh (by rw [hH]) (by rw [hH])
    obtain ⟨e7,e8⟩:=e5 ho
    refine .ms _ _ _ _ _ _ _ (by simp [upd_same]) fun _ _=>?_
    simp only [upd_same,hlen]
    exact ⟨e1,e2,e3,by omega,fun _=>⟨e7,e8⟩,fun h=>by rw [hH] at h; simp only [Blk.own,hlz] at h; cases h⟩
  have h:=ins_full L hzz hzl hI (id:=id) (id2:=id2) (ver:=ver+1) (ver2:=ver2) (ty2:=ty2) (i:=i) (rows:=rows.take n) (row:=row) hlz (by simp [upd_same,hH]) (by simp only [upd_ne _ _ (Ne.symm hne)]; exact hH2) hne (by rw [hlen]; exact hi) hf hf1 (by rw [hlen]; exact hb) (by rw [hlen]; exact hm) q0 (r2.frame hx hF)
  refine h.mono fun e w' h=>?_
  obtain ⟨c,y,rfl,h1,h2,h3,h4,h5⟩:=h
  refine ⟨c,y,rfl,h1,?_,h3,?_,hF.trans h5⟩
  · rw [h2]
    funext j
    by_cases e:j=id
    · subst e; simp only [upd_same]
    · simp only [upd_ne _ _ e]
  · rw [hlen] at h4; exact h4
theorem CallOK_insert0 (L:InsLay P ρ n1 k bytes z) (hcf:callable P (ρ.f 22)) {zz:List V} (hzz:zeroOf P (ρ.t 9)=some zz) (hzl:zz.length=k) {id id2 ver ver2 ty2:Nat} {row:List V} {H:Heap}
    (hH:H id=⟨ver,true,true,ρ.t 9,k,[]⟩) (hH2:H id2=⟨ver2,true,false,ty2,k,[row]⟩) (hf1:fitRows k [row]=true) (hb:bytes≤140737488355328):
    CallOK P (ρ.f 22) [.ms id ver 0 0,iV 0,.ms id2 ver2 0 1] H (.ms id (ver+2) 0 1) (upd H id ⟨ver+2,true,true,ρ.t 9,k,[row]⟩):=by
  refine ⟨hcf,fun x cs hxH hx hr=>?_⟩
  subst hxH
  obtain ⟨c0,c1,c2,rfl⟩: ∃ c0 c1 c2,cs=[c0,c1,c2]:=by
    have:=hr.1
    match cs with
    |[a,b,c]=>exact ⟨a,b,c,rfl⟩
    |[]=>simp at this
    |[_]=>simp at this
    |[_,_]=>simp at this
    |_::_::_::_::_=>simp at this
  have r0:R x (.ms id ver 0 0) c0:=hr.2 0 _ rfl
  have r1:R x (iV 0) c1:=hr.2 1 _ rfl
  have r2:R x (.ms id2 ver2 0 1) c2:=hr.2 2 _ rfl
  have hc1:c1=.int .i64 0:=by
    unfold iV at r1
    cases r1; rfl
  subst hc1
  have hk:=L.hk
  have ho2:(x.H id2).own=true:=by rw [hH2]; rfl
  obtain ⟨i0,hi0,hz0,hzs,hzb⟩:=info_parts L.i9
  obtain ⟨y,c,hrun,y1,y2,y3,y4⟩:=append_run (P:=P) (esz:=k) (bytes:=bytes) (new:=[row]) hx L.t24 hi0 hzz hzs hzb hzl (by omega) (i:=id) (ver:=ver) (len:=0) (u:=.ms id2 ver2 0 1) (by rw [hH]) (by rw [hH]) (by rw [hH]; rfl) (by rw [hH]) (by rw [hH])
      (by simp [rowsOf,hH2]) hf1 (by simpa using hb) (by simp) r0 r2 0
  have hcall:Calls P (ρ.f 22) #[c0,.int .i64 0,c2] x.w fun e w'=>e=.returned c∧w'=y.w:=by
    cases r2 with
    |ms _ _ _ _ b2 m2 cap2 hv2 hh2=>
    obtain ⟨d1,d2,d3,d4,d5,d6⟩:=hh2 (by rw [hH2]) (by rw [hH2])
    obtain ⟨d7,d8⟩:=d5 ho2
    subst d1; subst d7
    simp only [Nat.zero_mul] at hrun ⊢
    cases r0 with
    |ms _ _ _ _ b n cap hv hh=>
      obtain ⟨e1,e2,e3,e4,e5,e6⟩:=hh (by rw [hH]) (by rw [hH])
      have hcap:=e6 (by rw [hH]; rfl)
      subst e1; subst hcap
      cases b with
      |none=>exact ins_none L (x.σ id2) cap2 x.w y.w c (fun _=>hrun)
      |some a=>exact ins_some L a (x.σ id2) cap2 x.w y.w c (fun _=>hrun)
  refine hcall.mono fun e w' h=>?_
  obtain ⟨rfl,rfl⟩:=h
  have hyi:y.H id=⟨ver+1,true,true,ρ.t 9,k,[row]⟩:=by rw [y1,hH]; simp [upd_same]
  have hfin:FinH y.H (upd y.H id ⟨ver+2,true,true,ρ.t 9,k,[row]⟩):=fun j=>by
    by_cases e:j=id
    · subst e; rw [upd_same,hyi]; exact FinB.up (by omega) rfl
    · rw [upd_ne _ _ e]; exact .refl _
  obtain ⟨f1,f2⟩:=fin_step y2 hfin
  have f3:=FinV.ms hfin (id:=id) (ver:=ver+1) (n:=ver+2) (off:=0) (len:=0+[row].length) (by rw [hyi]) (by rw [hyi]) (by simp) (by simp)
  refine ⟨c,finC y _,rfl,rfl,?_,f1,f3 y c rfl y2 y4,y3.trans f2⟩
  show upd y.H id _=_
  rw [y1]
  funext j
  by_cases e:j=id
  · subst e; simp only [upd_same]
  · simp only [upd_ne _ _ e]
theorem CallOK_insertL (L:InsLay P ρ n1 k bytes z) (hcf:callable P (ρ.f 22)) {zz:List V} (hzz:zeroOf P (ρ.t 9)=some zz) (hzl:zz.length=k) {id id2 ver ver2 ty2 i n:Nat} {rows:List (List V)} {row:List V} {H:Heap}
    {lz:Bool} (hn:n=rows.length) (hH:H id=⟨ver,true,lz,ρ.t 9,k,rows⟩) (hH2:H id2=⟨ver2,true,false,ty2,k,[row]⟩) (hne:id≠id2) (hi:i≤n)
    (hf:fitRows k rows=true) (hf1:fitRows k [row]=true) (hb:(n+1)*bytes≤140737488355328) (hm:n+1≤9223372036854775807):
    CallOK P (ρ.f 22) [.ms id ver 0 n,iV i,.ms id2 ver2 0 1] H (.ms id (ver+2) 0 (n+1)) (upd H id ⟨ver+2,true,lz,ρ.t 9,k,rows.take i++row::rows.drop i⟩):=by
  subst hn
  by_cases h0:(lz&&rows.isEmpty)=false
  · have:=CallOK_insert L hcf hzz hzl (i:=i) (by rw [List.take_length]; exact h0) hH hH2 hne (Nat.le_refl _) hi (by rw [List.take_length]; exact hf) hf1 hb hm
    rw [List.take_length] at this
    exact this
  · cases lz with
    |false=>exact (h0 rfl).elim
    |true=>
      cases rows with
      |cons a l=>exact (h0 rfl).elim
      |nil=>
        have hi0:i=0:=by simpa using hi
        subst hi0
        exact CallOK_insert0 L hcf hzz hzl hH hH2 hf1 (by simpa using hb)
end
end Go.Proofs.YtmnjchcoigbngabGreat
namespace Go.Proofs.YtmnjchcoigbngabGreat
open Go Go.Proofs Go.Shelf
def insRen108:Go.Shelf.Ren:=⟨fun|22=>108|29=>160|30=>161|n=>n,fun|24=>37|9=>54|n=>n,fun n=>n⟩
theorem insLay108:InsLay Tryz.prog insRen108 Tryz.f108.name 1 24 (.slice none 0 0):={
  mixed:=by kernel_rfl
  f22:=Tryz.func108.trans (congrArg some (by kernel_rfl))
  ov:=fun args w=>run_callFunc_extern Tryz.func160 (by kernel_rfl) (by kernel_rfl) (by kernel_rfl) (by kernel_rfl) args w
  t0:=Tryz.underlying0,a0:=Tryz.isAgg0,z0:=Tryz.sizeOf0,v0:=Tryz.zeroValue0
  t3:=Tryz.underlying3,a3:=Tryz.isAgg3,z3:=Tryz.sizeOf3,v3:=Tryz.zeroValue3
  t4:=Tryz.underlying4,a4:=Tryz.isAgg4,z4:=Tryz.sizeOf4,v4:=Tryz.zeroValue4
  z9:=Tryz.sizeOf54
  t24:=Tryz.underlying37,a24:=Tryz.isAgg37,z24:=Tryz.sizeOf37,v24:=Tryz.zeroValue37
  i9:=by kernel_rfl
  hk:=by decide
  hz:=by kernel_rfl}
theorem insCall108:callable Tryz.prog 108:=⟨_,Tryz.func108,by kernel_rfl,by kernel_rfl⟩
end Go.Proofs.YtmnjchcoigbngabGreat
namespace Go.Proofs.YtmnjchcoigbngabGreat
open Go Go.Proofs Go.Shelf
def insRen109:Go.Shelf.Ren:=⟨fun|22=>109|29=>162|30=>163|n=>n,fun|24=>54|9=>3|n=>n,fun n=>n⟩
theorem insLay109:InsLay Tryz.prog insRen109 Tryz.f109.name 1 8 (.int .i64 0):={
  mixed:=by kernel_rfl
  f22:=Tryz.func109.trans (congrArg some (by kernel_rfl))
  ov:=fun args w=>run_callFunc_extern Tryz.func162 (by kernel_rfl) (by kernel_rfl) (by kernel_rfl) (by kernel_rfl) args w
  t0:=Tryz.underlying0,a0:=Tryz.isAgg0,z0:=Tryz.sizeOf0,v0:=Tryz.zeroValue0
  t3:=Tryz.underlying3,a3:=Tryz.isAgg3,z3:=Tryz.sizeOf3,v3:=Tryz.zeroValue3
  t4:=Tryz.underlying4,a4:=Tryz.isAgg4,z4:=Tryz.sizeOf4,v4:=Tryz.zeroValue4
  z9:=Tryz.sizeOf3
  t24:=Tryz.underlying54,a24:=Tryz.isAgg54,z24:=Tryz.sizeOf54,v24:=Tryz.zeroValue54
  i9:=by kernel_rfl
  hk:=by decide
  hz:=by kernel_rfl}
theorem insCall109:callable Tryz.prog 109:=⟨_,Tryz.func109,by kernel_rfl,by kernel_rfl⟩
end Go.Proofs.YtmnjchcoigbngabGreat
namespace Go.Proofs.YtmnjchcoigbngabGreat
open Go Go.Proofs
theorem insertcL {H:Heap} {id id2 ver ver2 i n:Nat} {lz:Bool} {l:List (List Int)} {w:(List Int)} (hn:n=l.length) (hH:H id=⟨ver,true,lz,54,1,List.map cL l⟩) (hH2:H id2=⟨ver2,true,false,54,1,[cL w]⟩) (hne:id≠id2) (hi:i≤n) (hb:n≤1048576):
    CallOK Tryz.prog 108 [.ms id ver 0 n,iV i,.ms id2 ver2 0 1] H (.ms id (ver+2) 0 (n+1)) (upd H id ⟨ver+2,true,lz,54,1,List.map cL (inW i w l)⟩):=by
  have hf: ∀ l:List (List Int),fitRows 1 (List.map cL l)=true:=fun l=>by
    simp only [fitRows,List.all_eq_true]
    intro r hr
    obtain ⟨x,_,rfl⟩:=List.mem_map.1 hr
    rfl
  have h:=CallOK_insertL insLay108 insCall108 (zz:=[.nilsl]) (by kernel_rfl) rfl (by rw [List.length_map]; exact hn) hH hH2 hne hi (hf l) (hf [w]) (by omega) (by omega)
  unfold inW
  rw [List.map_append,List.map_cons,List.map_take,List.map_drop]
  exact h
theorem insertcI {H:Heap} {id id2 ver ver2 i n:Nat} {lz:Bool} {l:List Int} {w:Int} (hn:n=l.length) (hH:H id=⟨ver,true,lz,3,1,List.map cI l⟩) (hH2:H id2=⟨ver2,true,false,3,1,[cI w]⟩) (hne:id≠id2) (hi:i≤n) (hb:n≤1048576):
    CallOK Tryz.prog 109 [.ms id ver 0 n,iV i,.ms id2 ver2 0 1] H (.ms id (ver+2) 0 (n+1)) (upd H id ⟨ver+2,true,lz,3,1,List.map cI (inW i w l)⟩):=by
  have hf: ∀ l:List Int,fitRows 1 (List.map cI l)=true:=fun l=>by
    simp only [fitRows,List.all_eq_true]
    intro r hr
    obtain ⟨x,_,rfl⟩:=List.mem_map.1 hr
    rfl
  have h:=CallOK_insertL insLay109 insCall109 (zz:=[.int .i64 0]) (by kernel_rfl) rfl (by rw [List.length_map]; exact hn) hH hH2 hne hi (hf l) (hf [w]) (by omega) (by omega)
  unfold inW
  rw [List.map_append,List.map_cons,List.map_take,List.map_drop]
  exact h
theorem dgrow_pure (t:Dt) (n:Int) (outs w:List Int) (hb:Bd t) (ho:outs.length≤1048576) (hw:w.length≤1048576):PureC Tryz.prog 48 [(V.agg [(V.sl (List.map cN (t.nd)))]),(iV (n)),(ints outs),(ints w)] (V.tup [(V.agg [(V.sl (List.map cN ((grT t n outs w).nd)))]),(iV (grE t n outs w))]):=by
 refine pW Tryz.func48 s48_ok fun hB=>?_
 unfold s48
 dsimp only
 have hbn:=hb.n
 refine W_r (R_box (i:=4) (n:=0) (m:=1) (cs:=[(V.sl (List.map cN (t.nd)))]) rfl (congrArg Blk.ver rfl) rfl rfl rfl (R_alloc (i:=8) (n:=0) (m:=1) rfl (congrArg Blk.ver rfl) rfl (R_mv rfl (R_e (W_seq_seq (W_r (R_lk rfl rfl rfl rfl ?_)))))))
 refine R_callk (dvalid_pure t hb) rfl (R_mv rfl (R_e (W_seq_seq (W_r (R_mv rfl (R_neq rfl rfl (R_e ?_)))))))
 refine W_seq_if rfl (fun c1=>?_) fun c1=>?_
 ·
  refine W_seq_seq (W_r (R_lk rfl rfl rfl rfl (R_mv rfl (R_sk rfl rfl rfl rfl rfl rfl rfl rfl rfl (R_mv rfl (R_e (W_seq_ret ?_)))))))
  refine RetC_2 (resV_c (u:=(V.agg [(V.sl (List.map cN (t.nd)))])) rfl (@rfl Blk (bk 1 24 1 [[(V.sl (List.map cN (t.nd)))]])) (lB oB rfl rfl)) (resV_t (@rfl V (iV (dvE t)))) (fz_agg1 (fz_sl ?_ (fun _=>by simp))) (fz_int ?_)
  · have z9:grE t n outs w=dvE t:=by
      unfold grE; rw [if_pos (by omega)]
    rw [grT_no (by rw [z9]; first|exact (by decide)|omega)]
  · have z9:grE t n outs w=dvE t:=by
      unfold grE; rw [if_pos (by omega)]
    exact z9.symm
 have hv:dvE t=0:=by omega
 refine W_seq_skip (W_seq_seq (W_r (R_lk rfl rfl rfl rfl (R_mv rfl (R_callk (dnode_pure t ((n)) false) rfl (R_mv rfl (R_e ?_)))))))
 refine W_seq_seq (W_r (R_mv rfl (R_neq rfl rfl (R_e ?_))))
 refine W_seq_if rfl (fun c2=>?_) fun c2=>?_
 ·
  refine W_seq_seq (W_r (R_lk rfl rfl rfl rfl (R_mv rfl (R_sk rfl rfl rfl rfl rfl rfl rfl rfl rfl (R_mv rfl (R_e (W_seq_ret ?_)))))))
  refine RetC_2 (resV_c (u:=(V.agg [(V.sl (List.map cN (t.nd)))])) rfl (@rfl Blk (bk 1 24 1 [[(V.sl (List.map cN (t.nd)))]])) (lB oB rfl rfl)) (resV_t (@rfl V (iV (noE t ((n)) false)))) (fz_agg1 (fz_sl ?_ (fun _=>by simp))) (fz_int ?_)
  · have z9:grE t n outs w=noE t n false:=by
      unfold grE; rw [if_neg (by omega),if_pos (by omega)]
    rw [grT_no (by rw [z9]; first|exact (by decide)|omega)]
  · have z9:grE t n outs w=noE t n false:=by
      unfold grE; rw [if_neg (by omega),if_pos (by omega)]
    exact z9.symm
 obtain ⟨n0,n1,n2⟩:=no_ok (t:=t) (n:=n) (b:=false) (by omega)
 have nb:n.toNat < t.nd.length:=by omega
 have hin:=nd_in hv nb n2
 have hkd:=hb.kd _ nb
 have hou:=hb.ou _ nb
 refine W_seq_skip (W_seq_seq (W_r (R_mv rfl (R_fk rfl rfl (R_lk rfl rfl rfl rfl (R_mv rfl (R_idxI (i:=(n)) (@rfl V (V.sl (List.map cN (t.nd)))) (@rfl V (iV (n))) (by omega) (by omega) rfl ?_)))))))
 refine R_fld_pp (cs':=(List.drop 2 (cN (((nth (t.nd) (n).toNat)))))) rfl rfl (R_load_pp rfl rfl (R_callk (values_pure outs (((nth (t.nd) (n).toNat)).sf)) rfl (R_mv rfl (R_e (W_seq_seq (W_r (R_mv rfl ?_)))))))
 refine R_neq rfl rfl (R_e ?_)
 refine W_seq_if rfl (fun c3=>?_) fun c3=>?_
 ·
  refine W_seq_seq (W_r (R_lk rfl rfl rfl rfl (R_mv rfl (R_sk rfl rfl rfl rfl rfl rfl rfl rfl rfl (R_mv rfl (R_e (W_seq_ret ?_)))))))
  refine RetC_2 (resV_c (u:=(V.agg [(V.sl (List.map cN (t.nd)))])) rfl (@rfl Blk (bk 1 24 1 [[(V.sl (List.map cN (t.nd)))]])) (lB oB rfl rfl)) (resV_t (@rfl V (iV (vlE outs (((nth (t.nd) (n).toNat)).sf))))) (fz_agg1 (fz_sl ?_ (fun _=>by simp))) (fz_int ?_)
  · have z9:grE t n outs w=vlE outs (nth t.nd n.toNat).sf:=by
      unfold grE; rw [if_neg (by omega),if_neg (by omega),if_pos (by omega)]
    rw [grT_no (by rw [z9]; first|exact (by decide)|omega)]
  · have z9:grE t n outs w=vlE outs (nth t.nd n.toNat).sf:=by
      unfold grE; rw [if_neg (by omega),if_neg (by omega),if_pos (by omega)]
    exact z9.symm
 refine W_seq_skip (W_r (R_fk rfl rfl (R_lk rfl rfl rfl rfl (R_mv rfl (R_idxI (i:=(n)) (@rfl V (V.sl (List.map cN (t.nd)))) (@rfl V (iV (n))) (by omega) (by omega) rfl (R_load_pp rfl rfl (R_mv rfl ?_)))))))
 refine R_callk (dchild_pure (((nth (t.nd) (n).toNat))) outs hin.srt hou) rfl (R_mv rfl (R_ext rfl rfl (R_ext rfl rfl (R_mv rfl (R_mv rfl (R_e (W_seq_seq ?_)))))))
 refine W_r (R_mv rfl (R_e ?_))
 refine W_seq_if rfl (fun c4=>?_) fun c4=>?_
 ·
  have d5:lxH (nth t.nd n.toNat).ou outs:=c4
  refine W_seq_seq ?_
  refine W_seq_regc (fun T H=>T 8=(V.mp 8 1 0 0)∧T 9=(iV (7:Int))∧H 4=(bk 1 24 1 [[(V.sl (List.map cN (t.nd)))]])∧H 8=(bk 1 24 1 [[(V.sl (List.map cN (t.nd)))]])∧H 16=(⟨0,false,false,0,0,[]⟩:Blk)∧H 82=(⟨0,false,false,0,0,[]⟩:Blk)∧H 95=(⟨0,false,false,0,0,[]⟩:Blk)∧H 201=(⟨0,false,false,0,0,[]⟩:Blk)∧H 202=(⟨0,false,false,0,0,[]⟩:Blk)∧H 205=(⟨0,false,false,0,0,[]⟩:Blk)∧H 212=(⟨0,false,false,0,0,[]⟩:Blk)∧H 228=(⟨0,false,false,0,0,[]⟩:Blk)∧H 258=(⟨0,false,false,0,0,[]⟩:Blk)∧H 7028=(⟨0,false,false,0,0,[]⟩:Blk)∧H 7058=(⟨0,false,false,0,0,[]⟩:Blk)∧True) ?_ ?_
  ·
   refine R_lk rfl rfl rfl rfl (R_sk rfl rfl rfl rfl rfl rfl rfl rfl rfl (R_mv rfl ?_))
   exact R_nil ⟨rfl,rfl,rfl,rfl,rfl,rfl,rfl,rfl,rfl,rfl,rfl,rfl,rfl,rfl,rfl,trivial⟩
  intro T H ⟨t8,t9,h4,h8,h16,h82,h95,h201,h202,h205,h212,h228,h258,h7028,h7058,_⟩
  refine W_seq_ret ?_
  refine RetC_2 (resV_c (u:=(V.agg [(V.sl (List.map cN (t.nd)))])) t8 h8 (lB oB rfl rfl)) (resV_t t9) (fz_agg1 (fz_sl ?_ (fun _=>by simp))) (fz_int ?_)
  · have z9:grE t n outs w=7:=by
      unfold grE; rw [if_neg (by omega),if_neg (by omega),if_neg (by omega),if_pos d5]
    rw [grT_no (by rw [z9]; first|exact (by decide)|omega)]
  · have z9:grE t n outs w=7:=by
      unfold grE; rw [if_neg (by omega),if_neg (by omega),if_neg (by omega),if_pos d5]
    exact z9.symm
 have d5: ¬lxH (nth t.nd n.toNat).ou outs:=c4
 have d6:=lx_le (w:=outs) (nth t.nd n.toNat).ou
 refine W_seq_skip (W_seq_seq ?_)
 refine W_seq_regc (fun T H=>T 1=(iV (n))∧T 2=(ints outs)∧T 3=(ints w)∧T 4=(V.mp 4 1 0 0)∧T 8=(V.mp 8 1 0 0)∧T 13=(iV ((lxN (((nth (t.nd) (n).toNat))).ou outs:Nat):Int))∧T 15=(iV (fsE t w))∧H 4=(bk 1 24 1 [[(V.sl (List.map cN (t.nd)))]])∧H 8=(bk 1 24 1 [[V.nilsl]])∧H 16=(⟨0,false,false,0,0,[]⟩:Blk)∧H 82=(⟨0,false,false,0,0,[]⟩:Blk)∧H 95=(⟨0,false,false,0,0,[]⟩:Blk)∧H 201=(⟨0,false,false,0,0,[]⟩:Blk)∧H 202=(⟨0,false,false,0,0,[]⟩:Blk)∧H 205=(⟨0,false,false,0,0,[]⟩:Blk)∧H 212=(⟨0,false,false,0,0,[]⟩:Blk)∧H 228=(⟨0,false,false,0,0,[]⟩:Blk)∧H 258=(⟨0,false,false,0,0,[]⟩:Blk)∧H 7028=(⟨0,false,false,0,0,[]⟩:Blk)∧H 7058=(⟨0,false,false,0,0,[]⟩:Blk)∧True) ?_ ?_
 ·
  refine R_lk rfl rfl rfl rfl (R_mv rfl (R_callk (dfresh_pure t w hb) rfl (R_mv rfl ?_)))
  exact R_nil ⟨rfl,rfl,rfl,rfl,rfl,rfl,rfl,rfl,rfl,rfl,rfl,rfl,rfl,rfl,rfl,rfl,rfl,rfl,rfl,rfl,trivial⟩
 intro T H ⟨t1,t2,t3,t4,t8,t13,t15,h4,h8,h16,h82,h95,h201,h202,h205,h212,h228,h258,h7028,h7058,_⟩
 refine W_seq_seq (W_r (R_mv t15 (R_neq rfl rfl (R_e ?_))))
 refine W_seq_if rfl (fun c5=>?_) fun c5=>?_
 ·
  refine W_seq_seq (W_r (R_lk t4 h4 rfl rfl (R_mv t15 (R_sk t8 rfl rfl h8 rfl rfl rfl rfl rfl (R_mv rfl (R_e (W_seq_ret ?_)))))))
  refine RetC_2 (resV_c (u:=(V.agg [(V.sl (List.map cN (t.nd)))])) t8 (@rfl Blk (bk 1 24 1 [[(V.sl (List.map cN (t.nd)))]])) (lB oB rfl rfl)) (resV_t (@rfl V (iV (fsE t w)))) (fz_agg1 (fz_sl ?_ (fun _=>by simp))) (fz_int ?_)
  · have z9:grE t n outs w=fsE t w:=by
      unfold grE; rw [if_neg (by omega),if_neg (by omega),if_neg (by omega),if_neg d5,if_pos (by omega)]
    rw [grT_no (by rw [z9]; first|exact (by decide)|omega)]
  · have z9:grE t n outs w=fsE t w:=by
      unfold grE; rw [if_neg (by omega),if_neg (by omega),if_neg (by omega),if_neg d5,if_pos (by omega)]
    exact z9.symm
 refine W_seq_skip (W_seq_seq (W_r (R_fk t4 h4 (R_lk rfl h4 rfl rfl (R_len rfl (R_geq rfl rfl (R_e ?_)))))))
 refine W_seq_if rfl (fun c6=>?_) fun c6=>?_
 ·
  refine W_seq_seq (W_r (R_lk t4 h4 rfl rfl (R_sk t8 rfl rfl h8 rfl rfl rfl rfl rfl (R_mv rfl (R_e (W_seq_ret ?_))))))
  refine RetC_2 (resV_c (u:=(V.agg [(V.sl (List.map cN (t.nd)))])) t8 (@rfl Blk (bk 1 24 1 [[(V.sl (List.map cN (t.nd)))]])) (lB oB rfl rfl)) (resV_t (@rfl V (iV (11:Int)))) (fz_agg1 (fz_sl ?_ (fun _=>by simp))) (fz_int ?_)
  · have z9:grE t n outs w=11:=by
      unfold grE; rw [if_neg (by omega),if_neg (by omega),if_neg (by omega),if_neg d5,if_neg (by omega),if_pos (by omega)]
    rw [grT_no (by rw [z9]; first|exact (by decide)|omega)]
  · have z9:grE t n outs w=11:=by
      unfold grE; rw [if_neg (by omega),if_neg (by omega),if_neg (by omega),if_neg d5,if_neg (by omega),if_pos (by omega)]
    exact z9.symm
 refine W_seq_skip (W_r (R_lk t4 h4 rfl rfl (R_callE (evcons rfl evnil) (copiedX_E t n.toNat 0 0 0 0 0 0 0 0 _ nb hb (congrArg Blk.ver h201) (congrArg Blk.ver h202) (congrArg Blk.ver h205) (congrArg Blk.ver h212) (congrArg Blk.ver h228) ⟨congrArg Blk.ver h258,congrArg Blk.live h258⟩ (congrArg Blk.ver h7028) ⟨congrArg Blk.ver h7058,congrArg Blk.live h7058⟩) (R_alloc (i:=16) (n:=0) (m:=1) rfl (congrArg Blk.ver h16) rfl (R_sk rfl rfl rfl rfl rfl rfl rfl rfl rfl (R_e (W_r ?_)))))))
 refine R_fk rfl rfl (R_lk rfl rfl rfl rfl (R_mv t1 (R_idxI_ms0 (i:=(n)) (@rfl V (V.ms 212 1 0 (t.nd.length))) (@rfl V (iV (n))) (@rfl Blk (bk 1 99 5 ((List.map cN (t.nd)).set n.toNat [(V.bool ((nth t.nd n.toNat).lf)),(ints (cat [(nth t.nd n.toNat).ac])),(ints (cat [(nth t.nd n.toNat).sf])),(V.ms 7028 (0+1+(nth t.nd n.toNat).ou.length) 0 ((nth t.nd n.toNat).ou.length)),(V.ms 7058 3 0 ((nth t.nd n.toNat).kd.length))]))) oB rfl (by omega) (by omega) (R_mv rfl (R_e (W_d (by exact (lateC (congrArg Blk.live h82) lateN)) (R_mv rfl ?_)))))))
 refine R_mv rfl (R_nilck_mp rfl (@rfl Blk (bk 1 99 5 ((List.map cN (t.nd)).set n.toNat [(V.bool ((nth t.nd n.toNat).lf)),(ints (cat [(nth t.nd n.toNat).ac])),(ints (cat [(nth t.nd n.toNat).sf])),(V.ms 7028 (0+1+(nth t.nd n.toNat).ou.length) 0 ((nth t.nd n.toNat).ou.length)),(V.ms 7058 3 0 ((nth t.nd n.toNat).kd.length))]))) oB (R_fk rfl (@rfl Blk (bk 1 99 5 ((List.map cN (t.nd)).set n.toNat [(V.bool ((nth t.nd n.toNat).lf)),(ints (cat [(nth t.nd n.toNat).ac])),(ints (cat [(nth t.nd n.toNat).sf])),(V.ms 7028 (0+1+(nth t.nd n.toNat).ou.length) 0 ((nth t.nd n.toNat).ou.length)),(V.ms 7058 3 0 ((nth t.nd n.toNat).kd.length))]))) (R_load_mp (v:=(V.ms 7028 (0+1+(nth t.nd n.toNat).ou.length) 0 ((nth t.nd n.toNat).ou.length))) rfl (@rfl Blk (bk 1 99 5 ((List.map cN (t.nd)).set n.toNat [(V.bool ((nth t.nd n.toNat).lf)),(ints (cat [(nth t.nd n.toNat).ac])),(ints (cat [(nth t.nd n.toNat).sf])),(V.ms 7028 (0+1+(nth t.nd n.toNat).ou.length) 0 ((nth t.nd n.toNat).ou.length)),(V.ms 7058 3 0 ((nth t.nd n.toNat).kd.length))]))) (ldB_setr (by (simp; omega)) (by rfl)) (R_mv t13 (R_mv t2 (R_bslice rfl rfl (R_callk (pjoin_pure ([outs]) (by simp only [cat,List.append_nil]; omega)) rfl ?_)))))))
 refine R_bslice_own (i:=82) (n:=0) (qs:=[(0,(ints (cat ([outs]))))]) (rows:=[[(ints (cat ([outs])))]]) rfl (congrArg Blk.ver h82) (mcons (congrArg (fun v=>(0,v)) rfl) rfl) rfl (R_callE (evcons rfl (evcons rfl (evcons rfl evnil))) (insertcL (l:=((nth t.nd n.toNat).ou)) (w:=(cat ([outs]))) (by omega) (@rfl Blk (bk (0+1+(nth t.nd n.toNat).ou.length) 54 1 (List.map cL ((nth t.nd n.toNat).ou)))) (show _=(bk 1 54 1 (List.map cL ([cat ([outs])]))) from rfl) (by decide) d6 hou) (R_nilck_mp rfl (@rfl Blk (bk 1 99 5 ((List.map cN (t.nd)).set n.toNat [(V.bool ((nth t.nd n.toNat).lf)),(ints (cat [(nth t.nd n.toNat).ac])),(ints (cat [(nth t.nd n.toNat).sf])),(V.ms 7028 (0+1+(nth t.nd n.toNat).ou.length) 0 ((nth t.nd n.toNat).ou.length)),(V.ms 7058 3 0 ((nth t.nd n.toNat).kd.length))]))) oB (R_fk rfl (@rfl Blk (bk 1 99 5 ((List.map cN (t.nd)).set n.toNat [(V.bool ((nth t.nd n.toNat).lf)),(ints (cat [(nth t.nd n.toNat).ac])),(ints (cat [(nth t.nd n.toNat).sf])),(V.ms 7028 (0+1+(nth t.nd n.toNat).ou.length) 0 ((nth t.nd n.toNat).ou.length)),(V.ms 7058 3 0 ((nth t.nd n.toNat).kd.length))]))) (R_store (vs:=[(V.ms 7028 ((0+1+(nth t.nd n.toNat).ou.length)+2) 0 (((nth t.nd n.toNat).ou.length)+1))]) (B':=(bk 1 99 5 ((List.map cN (t.nd)).set n.toNat [(V.bool ((nth t.nd n.toNat).lf)),(ints (cat [(nth t.nd n.toNat).ac])),(ints (cat [(nth t.nd n.toNat).sf])),(V.ms 7028 ((0+1+(nth t.nd n.toNat).ou.length)+2) 0 (((nth t.nd n.toNat).ou.length)+1)),(V.ms 7058 3 0 ((nth t.nd n.toNat).kd.length))]))) rfl rfl rfl (@rfl Blk (bk 1 99 5 ((List.map cN (t.nd)).set n.toNat [(V.bool ((nth t.nd n.toNat).lf)),(ints (cat [(nth t.nd n.toNat).ac])),(ints (cat [(nth t.nd n.toNat).sf])),(V.ms 7028 (0+1+(nth t.nd n.toNat).ou.length) 0 ((nth t.nd n.toNat).ou.length)),(V.ms 7058 3 0 ((nth t.nd n.toNat).kd.length))]))) (stB_setr (by (simp; omega)) rfl rfl (by simp)) (R_e ?_)))))
 refine W_seq_dg (fun T H=>T 3=(ints w)∧T 8=(V.mp 8 1 0 0)∧T 16=(V.mp 16 1 0 0)∧H 4=(bk 1 24 1 [[(V.sl (List.map cN (t.nd)))]])∧H 8=(bk 1 24 1 [[V.nilsl]])∧H 16=(bk 1 24 1 [[(V.ms 212 1 0 (t.nd.length))]])∧H 82=(bk 1 54 1 [[(ints (cat ([outs])))]])∧H 95=(bk 1 3 1 [[(iV ((t.nd.length:Nat):Int))]])∧H 201=(⟨1,false,false,0,0,[]⟩:Blk)∧H 202=(⟨1,false,false,0,0,[]⟩:Blk)∧H 205=(⟨0+t.nd.length,false,false,0,0,[]⟩:Blk)∧H 212=(bk 1 99 5 ((List.map cN (t.nd)).set n.toNat [(V.bool ((nth t.nd n.toNat).lf)),(ints (cat [(nth t.nd n.toNat).ac])),(ints (cat [(nth t.nd n.toNat).sf])),(V.ms 7028 ((0+1+(nth t.nd n.toNat).ou.length)+2) 0 (((nth t.nd n.toNat).ou.length)+1)),(V.ms 7058 5 0 (((nth t.nd n.toNat).kd.length)+1))]))∧H 228=(⟨0+t.nd.length*1048578,false,false,0,0,[]⟩:Blk)∧H 258=(⟨0+3*t.nd.length,false,false,0,0,[]⟩:Blk)∧H 7028=(bk ((0+1+(nth t.nd n.toNat).ou.length)+2) 54 1 (List.map cL (inW (lxN (((nth (t.nd) (n).toNat))).ou outs) (cat ([outs])) ((nth t.nd n.toNat).ou))))∧H 7058=(bz 5 3 1 (List.map cI (inW (lxN (((nth (t.nd) (n).toNat))).ou outs) (((t.nd.length:Nat):Int)) ((nth t.nd n.toNat).kd))))∧True) (by exact (lateC (congrArg Blk.live h95) lateN)) ?_ ?_
 ·
  refine R_mv rfl (R_mv rfl (R_nilck_mp rfl (@rfl Blk (bk 1 99 5 ((List.map cN (t.nd)).set n.toNat [(V.bool ((nth t.nd n.toNat).lf)),(ints (cat [(nth t.nd n.toNat).ac])),(ints (cat [(nth t.nd n.toNat).sf])),(V.ms 7028 ((0+1+(nth t.nd n.toNat).ou.length)+2) 0 (((nth t.nd n.toNat).ou.length)+1)),(V.ms 7058 3 0 ((nth t.nd n.toNat).kd.length))]))) oB (R_fk rfl (@rfl Blk (bk 1 99 5 ((List.map cN (t.nd)).set n.toNat [(V.bool ((nth t.nd n.toNat).lf)),(ints (cat [(nth t.nd n.toNat).ac])),(ints (cat [(nth t.nd n.toNat).sf])),(V.ms 7028 ((0+1+(nth t.nd n.toNat).ou.length)+2) 0 (((nth t.nd n.toNat).ou.length)+1)),(V.ms 7058 3 0 ((nth t.nd n.toNat).kd.length))]))) (R_load_mp (v:=(V.ms 7058 3 0 ((nth t.nd n.toNat).kd.length))) rfl (@rfl Blk (bk 1 99 5 ((List.map cN (t.nd)).set n.toNat [(V.bool ((nth t.nd n.toNat).lf)),(ints (cat [(nth t.nd n.toNat).ac])),(ints (cat [(nth t.nd n.toNat).sf])),(V.ms 7028 ((0+1+(nth t.nd n.toNat).ou.length)+2) 0 (((nth t.nd n.toNat).ou.length)+1)),(V.ms 7058 3 0 ((nth t.nd n.toNat).kd.length))]))) (ldB_setr (by (simp; omega)) (by rfl)) (R_mv t13 (R_fk t4 h4 (R_lk rfl h4 rfl rfl ?_)))))))
  refine R_len rfl (R_bslice_own (i:=95) (n:=0) (qs:=[(0,(iV ((t.nd.length:Nat):Int)))]) (rows:=[[(iV ((t.nd.length:Nat):Int))]]) rfl (congrArg Blk.ver h95) (mcons (congrArg (fun v=>(0,v)) rfl) rfl) rfl (R_callE (evcons rfl (evcons rfl (evcons rfl evnil))) (insertcI (l:=((nth t.nd n.toNat).kd)) (w:=(((t.nd.length:Nat):Int))) (by omega) (@rfl Blk (bz 3 3 1 (List.map cI ((nth t.nd n.toNat).kd)))) (show _=(bk 1 3 1 (List.map cI ([((t.nd.length:Nat):Int)]))) from rfl) (by decide) (by have:=hin.len; omega) hkd) (R_nilck_mp rfl (@rfl Blk (bk 1 99 5 ((List.map cN (t.nd)).set n.toNat [(V.bool ((nth t.nd n.toNat).lf)),(ints (cat [(nth t.nd n.toNat).ac])),(ints (cat [(nth t.nd n.toNat).sf])),(V.ms 7028 ((0+1+(nth t.nd n.toNat).ou.length)+2) 0 (((nth t.nd n.toNat).ou.length)+1)),(V.ms 7058 3 0 ((nth t.nd n.toNat).kd.length))]))) oB (R_fk rfl (@rfl Blk (bk 1 99 5 ((List.map cN (t.nd)).set n.toNat [(V.bool ((nth t.nd n.toNat).lf)),(ints (cat [(nth t.nd n.toNat).ac])),(ints (cat [(nth t.nd n.toNat).sf])),(V.ms 7028 ((0+1+(nth t.nd n.toNat).ou.length)+2) 0 (((nth t.nd n.toNat).ou.length)+1)),(V.ms 7058 3 0 ((nth t.nd n.toNat).kd.length))]))) (R_store (vs:=[(V.ms 7058 5 0 (((nth t.nd n.toNat).kd.length)+1))]) (B':=(bk 1 99 5 ((List.map cN (t.nd)).set n.toNat [(V.bool ((nth t.nd n.toNat).lf)),(ints (cat [(nth t.nd n.toNat).ac])),(ints (cat [(nth t.nd n.toNat).sf])),(V.ms 7028 ((0+1+(nth t.nd n.toNat).ou.length)+2) 0 (((nth t.nd n.toNat).ou.length)+1)),(V.ms 7058 5 0 (((nth t.nd n.toNat).kd.length)+1))]))) rfl rfl rfl (@rfl Blk (bk 1 99 5 ((List.map cN (t.nd)).set n.toNat [(V.bool ((nth t.nd n.toNat).lf)),(ints (cat [(nth t.nd n.toNat).ac])),(ints (cat [(nth t.nd n.toNat).sf])),(V.ms 7028 ((0+1+(nth t.nd n.toNat).ou.length)+2) 0 (((nth t.nd n.toNat).ou.length)+1)),(V.ms 7058 3 0 ((nth t.nd n.toNat).kd.length))]))) (stB_setr (by (simp; omega)) rfl rfl (by simp)) ?_)))))
  exact R_nil ⟨t3,t8,rfl,h4,h8,rfl,rfl,rfl,rfl,rfl,rfl,rfl,rfl,rfl,rfl,rfl,trivial⟩
 intro T H ⟨t3,t8,t16,h4,h8,h16,h82,h95,h201,h202,h205,h212,h228,h258,h7028,h7058,_⟩
 refine frz_cellg (id:=7028) (id2:=212) (rows:=(List.map cN (t.nd))) (i:=n.toNat) (off:=3) (r:=[(V.bool ((nth t.nd n.toNat).lf)),(ints (cat [(nth t.nd n.toNat).ac])),(ints (cat [(nth t.nd n.toNat).sf])),(V.ms 7028 ((0+1+(nth t.nd n.toNat).ou.length)+2) 0 (((nth t.nd n.toNat).ou.length)+1)),(V.ms 7058 5 0 (((nth t.nd n.toNat).kd.length)+1))]) (m:=(inW (lxN (((nth (t.nd) (n).toNat))).ou outs) (cat ([outs])) ((nth t.nd n.toNat).ou))) (g:=cL) (by decide) h7028 h212 (by (simp; omega)) (by exact (inW_len _ _ _).symm) rfl (fork_ (R:=fun T H=>T 3=(ints w)∧T 8=(V.mp 8 1 0 0)∧T 16=(V.mp 16 1 0 0)∧H 4=(bk 1 24 1 [[(V.sl (List.map cN (t.nd)))]])∧H 8=(bk 1 24 1 [[V.nilsl]])∧H 16=(bk 1 24 1 [[(V.ms 212 1 0 (t.nd.length))]])∧H 82=(bk 1 54 1 [[(ints (cat ([outs])))]])∧H 95=(bk 1 3 1 [[(iV ((t.nd.length:Nat):Int))]])∧H 201=(⟨1,false,false,0,0,[]⟩:Blk)∧H 202=(⟨1,false,false,0,0,[]⟩:Blk)∧H 205=(⟨0+t.nd.length,false,false,0,0,[]⟩:Blk)∧H 212=(bk 1 99 5 ((List.map cN (t.nd)).set n.toNat [(V.bool ((nth t.nd n.toNat).lf)),(ints (cat [(nth t.nd n.toNat).ac])),(ints (cat [(nth t.nd n.toNat).sf])),(intss (inW (lxN (((nth (t.nd) (n).toNat))).ou outs) (cat ([outs])) ((nth t.nd n.toNat).ou))),(V.ms 7058 5 0 (((nth t.nd n.toNat).kd.length)+1))]))∧H 228=(⟨0+t.nd.length*1048578,false,false,0,0,[]⟩:Blk)∧H 258=(⟨0+3*t.nd.length,false,false,0,0,[]⟩:Blk)∧((H 7028).ver=(0+1+(nth t.nd n.toNat).ou.length)+2∧(H 7028).live=false)∧H 7058=(bz 5 3 1 (List.map cI (inW (lxN (((nth (t.nd) (n).toNat))).ou outs) (((t.nd.length:Nat):Int)) ((nth t.nd n.toNat).kd))))∧True) ⟨(fzT_q t3 rfl),(fzT_q t8 rfl),(fzT_q t16 rfl),((upd_ne _ _ (by decide)).trans (kill_ne h4 (by decide))),((upd_ne _ _ (by decide)).trans (kill_ne h8 (by decide))),((upd_ne _ _ (by decide)).trans (kill_ne h16 (by decide))),((upd_ne _ _ (by decide)).trans (kill_ne h82 (by decide))),((upd_ne _ _ (by decide)).trans (kill_ne h95 (by decide))),((upd_ne _ _ (by decide)).trans (kill_ne h201 (by decide))),((upd_ne _ _ (by decide)).trans (kill_ne h202 (by decide))),((upd_ne _ _ (by decide)).trans (kill_ne h205 (by decide))),(upd_same _ _ _),((upd_ne _ _ (by decide)).trans (kill_ne h228 (by decide))),((upd_ne _ _ (by decide)).trans (kill_ne h258 (by decide))),⟨(congrArg Blk.ver (upd_ne _ _ (by decide))).trans (kill_self (congrArg Blk.ver h7028)).1,(congrArg Blk.live (upd_ne _ _ (by decide))).trans (kill_self (congrArg Blk.ver h7028)).2⟩,((upd_ne _ _ (by decide)).trans (kill_ne h7058 (by decide))),trivial⟩ ?_)
 intro T H ⟨t3,t8,t16,h4,h8,h16,h82,h95,h201,h202,h205,h212,h228,h258,h7028,h7058,_⟩
 refine frz_cellg (id:=7058) (id2:=212) (rows:=(List.map cN (t.nd))) (i:=n.toNat) (off:=4) (r:=[(V.bool ((nth t.nd n.toNat).lf)),(ints (cat [(nth t.nd n.toNat).ac])),(ints (cat [(nth t.nd n.toNat).sf])),(intss (inW (lxN (((nth (t.nd) (n).toNat))).ou outs) (cat ([outs])) ((nth t.nd n.toNat).ou))),(V.ms 7058 5 0 (((nth t.nd n.toNat).kd.length)+1))]) (m:=(inW (lxN (((nth (t.nd) (n).toNat))).ou outs) (((t.nd.length:Nat):Int)) ((nth t.nd n.toNat).kd))) (g:=cI) (by decide) h7058 h212 (by (simp; omega)) (by exact (inW_len _ _ _).symm) rfl (.done ?_)
 refine fork_ (R:=fun T H=>T 3=(ints w)∧T 8=(V.mp 8 1 0 0)∧T 16=(V.mp 16 1 0 0)∧H 4=(bk 1 24 1 [[(V.sl (List.map cN (t.nd)))]])∧H 8=(bk 1 24 1 [[V.nilsl]])∧H 16=(bk 1 24 1 [[(V.ms 212 1 0 (t.nd.length))]])∧H 82=(bk 1 54 1 [[(ints (cat ([outs])))]])∧H 95=(bk 1 3 1 [[(iV ((t.nd.length:Nat):Int))]])∧H 201=(⟨1,false,false,0,0,[]⟩:Blk)∧H 202=(⟨1,false,false,0,0,[]⟩:Blk)∧H 205=(⟨0+t.nd.length,false,false,0,0,[]⟩:Blk)∧H 212=(bk 1 99 5 (List.map cN ((t.nd).set n.toNat ((⟨(nth t.nd n.toNat).lf,cat [(nth t.nd n.toNat).ac],cat [(nth t.nd n.toNat).sf],inW (lxN (((nth (t.nd) (n).toNat))).ou outs) (cat ([outs])) ((nth t.nd n.toNat).ou),inW (lxN (((nth (t.nd) (n).toNat))).ou outs) (((t.nd.length:Nat):Int)) ((nth t.nd n.toNat).kd)⟩:Nd)))))∧H 228=(⟨0+t.nd.length*1048578,false,false,0,0,[]⟩:Blk)∧H 258=(⟨0+3*t.nd.length,false,false,0,0,[]⟩:Blk)∧((H 7028).ver=(0+1+(nth t.nd n.toNat).ou.length)+2∧(H 7028).live=false)∧((H 7058).ver=5∧(H 7058).live=false)∧True) ⟨(fzT_q t3 rfl),(fzT_q t8 rfl),(fzT_q t16 rfl),((upd_ne _ _ (by decide)).trans (kill_ne h4 (by decide))),((upd_ne _ _ (by decide)).trans (kill_ne h8 (by decide))),((upd_ne _ _ (by decide)).trans (kill_ne h16 (by decide))),((upd_ne _ _ (by decide)).trans (kill_ne h82 (by decide))),((upd_ne _ _ (by decide)).trans (kill_ne h95 (by decide))),((upd_ne _ _ (by decide)).trans (kill_ne h201 (by decide))),((upd_ne _ _ (by decide)).trans (kill_ne h202 (by decide))),((upd_ne _ _ (by decide)).trans (kill_ne h205 (by decide))),(Eq.trans (upd_same _ _ _) (by (rw [List.map_set]; rfl))),((upd_ne _ _ (by decide)).trans (kill_ne h228 (by decide))),((upd_ne _ _ (by decide)).trans (kill_ne h258 (by decide))),⟨(congrArg Blk.ver (upd_ne _ _ (by decide))).trans (kill_dead h7028).1,(congrArg Blk.live (upd_ne _ _ (by decide))).trans (kill_dead h7028).2⟩,⟨(congrArg Blk.ver (upd_ne _ _ (by decide))).trans (kill_self (congrArg Blk.ver h7058)).1,(congrArg Blk.live (upd_ne _ _ (by decide))).trans (kill_self (congrArg Blk.ver h7058)).2⟩,trivial⟩ ?_
 intro T H ⟨t3,t8,t16,h4,h8,h16,h82,h95,h201,h202,h205,h212,h228,h258,h7028,h7058,_⟩
 refine W_seq_g (fun T H=>T 8=(V.mp 8 1 0 0)∧T 16=(V.mp 16 1 0 0)∧H 4=(bk 1 24 1 [[(V.sl (List.map cN (t.nd)))]])∧H 8=(bk 1 24 1 [[V.nilsl]])∧H 16=(bk 1 24 1 [[(V.ms 212 2 0 (t.nd.length+1))]])∧H 82=(bk 1 54 1 [[(ints (cat ([outs])))]])∧H 95=(bk 1 3 1 [[(iV ((t.nd.length:Nat):Int))]])∧H 201=(⟨1,false,false,0,0,[]⟩:Blk)∧H 202=(⟨1,false,false,0,0,[]⟩:Blk)∧H 205=(⟨0+t.nd.length,false,false,0,0,[]⟩:Blk)∧H 212=(bk 2 99 5 (List.map cN ((t.nd).set n.toNat ((⟨(nth t.nd n.toNat).lf,cat [(nth t.nd n.toNat).ac],cat [(nth t.nd n.toNat).sf],inW (lxN (((nth (t.nd) (n).toNat))).ou outs) (cat ([outs])) ((nth t.nd n.toNat).ou),inW (lxN (((nth (t.nd) (n).toNat))).ou outs) (((t.nd.length:Nat):Int)) ((nth t.nd n.toNat).kd)⟩:Nd)))++[[(V.bool true),(ints (cat ([w]))),V.nilsl,V.nilsl,V.nilsl]]))∧H 228=(⟨0+t.nd.length*1048578,false,false,0,0,[]⟩:Blk)∧H 258=(⟨0+3*t.nd.length,false,false,0,0,[]⟩:Blk)∧((H 7028).ver=(0+1+(nth t.nd n.toNat).ou.length)+2∧(H 7028).live=false)∧((H 7058).ver=5∧(H 7058).live=false)∧True) ?_ ?_
 ·
  refine R_fk t16 h16 (R_lk rfl h16 rfl rfl (R_mv t3 (R_bslice rfl rfl (R_callk (pjoin_pure ([w]) (by simp only [cat,List.append_nil]; omega)) rfl (R_build rfl rfl (R_bslice rfl rfl (R_appendN (l:=((t.nd).set n.toNat ((⟨(nth t.nd n.toNat).lf,cat [(nth t.nd n.toNat).ac],cat [(nth t.nd n.toNat).sf],inW (lxN (((nth (t.nd) (n).toNat))).ou outs) (cat ([outs])) ((nth t.nd n.toNat).ou),inW (lxN (((nth (t.nd) (n).toNat))).ou outs) (((t.nd.length:Nat):Int)) ((nth t.nd n.toNat).kd)⟩:Nd)))) (f:=cN) (@rfl V (V.ms 212 1 0 (t.nd.length))) h212 (by simp) (@rfl V (V.sl [[(V.bool true),(ints (cat ([w]))),V.nilsl,V.nilsl,V.nilsl]])) (by simp [fitRows,V.one]) (by (simp; omega)) (by (simp; omega)) ?_)))))))
  refine R_fk t16 h16 (R_sk rfl rfl rfl h16 rfl rfl rfl rfl rfl ?_)
  exact R_nil ⟨t8,t16,h4,h8,rfl,h82,h95,h201,h202,h205,rfl,h228,h258,h7028,h7058,trivial⟩
 intro T H ⟨t8,t16,h4,h8,h16,h82,h95,h201,h202,h205,h212,h228,h258,h7028,h7058,_⟩
 refine nza_map (l:=((t.nd).set n.toNat ((⟨(nth t.nd n.toNat).lf,cat [(nth t.nd n.toNat).ac],cat [(nth t.nd n.toNat).sf],inW (lxN (((nth (t.nd) (n).toNat))).ou outs) (cat ([outs])) ((nth t.nd n.toNat).ou),inW (lxN (((nth (t.nd) (n).toNat))).ou outs) (((t.nd.length:Nat):Int)) ((nth t.nd n.toNat).kd)⟩:Nd)))) (m:=([(⟨true,cat ([w]),[],[],[]⟩:Nd)])) (f:=cN) h212 rfl (.done ?_)
 refine fork_ (R:=fun T H=>T 8=(V.mp 8 1 0 0)∧T 16=(V.mp 16 1 0 0)∧H 4=(bk 1 24 1 [[(V.sl (List.map cN (t.nd)))]])∧H 8=(bk 1 24 1 [[V.nilsl]])∧H 16=(bk 1 24 1 [[(V.ms 212 2 0 (t.nd.length+1))]])∧H 82=(bk 1 54 1 [[(ints (cat ([outs])))]])∧H 95=(bk 1 3 1 [[(iV ((t.nd.length:Nat):Int))]])∧H 201=(⟨1,false,false,0,0,[]⟩:Blk)∧H 202=(⟨1,false,false,0,0,[]⟩:Blk)∧H 205=(⟨0+t.nd.length,false,false,0,0,[]⟩:Blk)∧H 212=(bk 2 99 5 (List.map cN ((t.nd).set n.toNat ((⟨(nth t.nd n.toNat).lf,cat [(nth t.nd n.toNat).ac],cat [(nth t.nd n.toNat).sf],inW (lxN (((nth (t.nd) (n).toNat))).ou outs) (cat ([outs])) ((nth t.nd n.toNat).ou),inW (lxN (((nth (t.nd) (n).toNat))).ou outs) (((t.nd.length:Nat):Int)) ((nth t.nd n.toNat).kd)⟩:Nd))++[(⟨true,cat ([w]),[],[],[]⟩:Nd)])))∧H 228=(⟨0+t.nd.length*1048578,false,false,0,0,[]⟩:Blk)∧H 258=(⟨0+3*t.nd.length,false,false,0,0,[]⟩:Blk)∧((H 7028).ver=(0+1+(nth t.nd n.toNat).ou.length)+2∧(H 7028).live=false)∧((H 7058).ver=5∧(H 7058).live=false)∧True) ⟨t8,t16,((upd_ne _ _ (by decide)).trans h4),((upd_ne _ _ (by decide)).trans h8),((upd_ne _ _ (by decide)).trans h16),((upd_ne _ _ (by decide)).trans h82),((upd_ne _ _ (by decide)).trans h95),((upd_ne _ _ (by decide)).trans h201),((upd_ne _ _ (by decide)).trans h202),((upd_ne _ _ (by decide)).trans h205),(upd_same _ _ _),((upd_ne _ _ (by decide)).trans h228),((upd_ne _ _ (by decide)).trans h258),⟨(congrArg Blk.ver (upd_ne _ _ (by decide))).trans (h7028).1,(congrArg Blk.live (upd_ne _ _ (by decide))).trans (h7028).2⟩,⟨(congrArg Blk.ver (upd_ne _ _ (by decide))).trans (h7058).1,(congrArg Blk.live (upd_ne _ _ (by decide))).trans (h7058).2⟩,trivial⟩ ?_
 intro T H ⟨t8,t16,h4,h8,h16,h82,h95,h201,h202,h205,h212,h228,h258,h7028,h7058,_⟩
 refine W_r (R_lk t16 h16 rfl rfl (R_sk t8 rfl rfl h8 rfl rfl rfl rfl rfl (R_mv rfl (R_e (W_ret ?_)))))
 refine RetC_2 (resV_c (u:=(V.agg [(V.ms 212 2 0 (t.nd.length+1))])) t8 (@rfl Blk (bk 1 24 1 [[(V.ms 212 2 0 (t.nd.length+1))]])) (lB oB rfl rfl)) (resV_t (@rfl V (iV (0:Int)))) (fz_agg1 (fz_ms h212 (by rfl) (l:=((t.nd).set n.toNat ((⟨(nth t.nd n.toNat).lf,cat [(nth t.nd n.toNat).ac],cat [(nth t.nd n.toNat).sf],inW (lxN (((nth (t.nd) (n).toNat))).ou outs) (cat ([outs])) ((nth t.nd n.toNat).ou),inW (lxN (((nth (t.nd) (n).toNat))).ou outs) (((t.nd.length:Nat):Int)) ((nth t.nd n.toNat).kd)⟩:Nd))++[(⟨true,cat ([w]),[],[],[]⟩:Nd)])) rfl (by simp) (fun _=>by simp) ?_)) (fz_int ?_)
 · have z9:grE t n outs w=0:=by
     unfold grE; rw [if_neg (by omega),if_neg (by omega),if_neg (by omega),if_neg d5,if_neg (by omega),if_neg (by omega)]
   rw [grT_yes z9]; simp [cat1,lfN,gNd]
 · have z9:grE t n outs w=0:=by
     unfold grE; rw [if_neg (by omega),if_neg (by omega),if_neg (by omega),if_neg d5,if_neg (by omega),if_neg (by omega)]
   exact z9.symm
def r49_1:List SO:=[
 qF 10 2 3,
 qL 11 2 10,
 qM 12 1,
 qM 13 2,
 sO 14 (.bslice 54 1 false [.nilsl] 2 [(0,.t 12),(1,.t 13)]),
 sO 15 (.call false 69 [.t 14]),
 sO 16 (.call false 110 [.t 11,.t 15]),
 qM 9 16,
 qE 17 9 0,
 qE 18 9 1,
 qM 7 17,
 qM 8 18]
def r49_2:List SO:=[
 qM 19 7,
 qM 20 7,
 qN 21 20,
 qM 22 2,
 qN 23 22,
 qP 24 .sub 21 23,
 sO 25 (.slice 1 (.t 19) (some (.t 24)) none),
 qM 6 25]
def s49:SF:=⟨26,[.tmp 6],.seq (.reg [sO 3 (.box 87 4 (.t 0)),sO 6 (.mv (.c (.nilsl)))]) (.seq (.reg r49_1) (.seq (.reg r49_2) (.ret)))⟩
theorem s49_ok:slimF Tryz.prog ⟨[107,108,109,116,120,126,127,167,169,170,171,172,194,196,198,209,222,226],[]⟩ Tryz.f49=some s49:=by kernel_rfl
theorem touts_pure (l:Ts) (o:Ob) (w x:List Int) (ho:oval o=0) (hw:w.length≤1048576) (hx:x.length≤1048576) (hs:(ans o (cat [w,x])).isSome=true):PureC Tryz.prog 49 [(V.agg [(iV (l.i)),(V.sl (List.map cN (l.t.nd))),(iV (o.i)),(V.sl (List.map cT (o.tr)))]),(ints w),(ints x)] (ints (bho o w x)):=by
 refine pW Tryz.func49 s49_ok fun hB=>?_
 unfold s49
 dsimp only
 have d4:=ans_len (oval_ok ho) hs
 have d5:(cat [w,x]).length=w.length+x.length:=by simp [cat]
 refine W_r (R_box (i:=3) (n:=0) (m:=4) (cs:=[(iV (l.i)),(V.sl (List.map cN (l.t.nd))),(iV (o.i)),(V.sl (List.map cT (o.tr)))]) rfl (congrArg Blk.ver rfl) rfl rfl rfl (R_mv rfl (R_e (W_r (R_fk rfl rfl (R_lk rfl rfl rfl rfl (R_mv rfl ?_)))))))
 refine R_mv rfl (R_bslice rfl rfl (R_callk (pjoin_pure ([w,x]) (by simp only [cat,List.append_nil,List.length_append,List.length_cons,List.length_nil]; omega)) rfl (R_callk (answer_pure o (cat ([w,x])) ho) rfl (R_mv rfl (R_ext rfl rfl (R_ext rfl rfl (R_mv rfl ?_)))))))
 refine R_mv rfl (R_e (W_r (R_mv rfl (R_mv rfl (R_len rfl (R_mv rfl (R_len rfl ?_)))))))
 refine R_sub rfl rfl (by omega) (by omega) (R_slice_lo (n:=(((((((ans o (cat ([w,x]))).getD []).length:Nat):Int) - ((x.length:Nat):Int))).toNat)) (@rfl V (ints ((ans o (cat ([w,x]))).getD []))) (Eq.trans (@rfl V (iV (((((ans o (cat ([w,x]))).getD []).length:Nat):Int) - ((x.length:Nat):Int)))) (iv_toNat (by omega))) (by omega) (fun _=>rfl) (R_mv rfl (R_e (W_ret ?_))))
 refine Ret_1 (@rfl V (ints (List.drop (((((((ans o (cat ([w,x]))).getD []).length:Nat):Int) - ((x.length:Nat):Int))).toNat) ((ans o (cat ([w,x]))).getD [])))) (fz_sl ?_ (fun _=>by simp))
 · unfold bho; rw [show ((((ans o (cat [w,x])).getD []).length:Int) - (x.length:Int)).toNat=w.length by omega]
theorem tstep_pure (l:Ts) (o:Ob) (hb:Bd l.t) (ho:oval o=0) (hx:(exs l).length≤5000):PureC Tryz.prog 14 [(V.agg [(iV (l.i)),(V.sl (List.map cN (l.t.nd)))]),(V.agg [(iV (o.i)),(V.sl (List.map cT (o.tr)))])] (V.tup [(V.agg [(iV ((tst l o).1.i)),(V.sl (List.map cN ((tst l o).1.t.nd)))]),(intss ((tst l o).2.1)),(V.bool ((tst l o).2.2.1)),(iV ((tst l o).2.2.2))]):=by
 refine pW Tryz.func14 s14_ok fun hB=>?_
 unfold s14
 dsimp only
 have hal:=acL_len l.t.nd
 have hxn:=xts_len l o

 refine W_r (R_box (i:=2) (n:=0) (m:=2) (cs:=[(iV (l.i)),(V.sl (List.map cN (l.t.nd)))]) rfl (congrArg Blk.ver rfl) rfl rfl rfl (R_box (i:=3) (n:=0) (m:=2) (cs:=[(iV (o.i)),(V.sl (List.map cT (o.tr)))]) rfl (congrArg Blk.ver rfl) rfl rfl rfl (R_alloc (i:=4) (n:=0) (m:=2) rfl (congrArg Blk.ver rfl) rfl (R_mv rfl (R_mv rfl (R_mv rfl (R_e ?_)))))))
 refine W_r (R_lk rfl rfl rfl rfl (R_lk rfl rfl rfl rfl (R_build rfl rfl (R_alloc (i:=8) (n:=0) (m:=4) rfl (congrArg Blk.ver rfl) rfl (R_sk rfl rfl rfl rfl rfl rfl rfl rfl rfl (R_e (W_seq_seq ?_)))))))
 refine W_r (R_lk rfl rfl rfl rfl (R_callk (tcheck_pure l o hb) rfl (R_mv rfl (R_e (W_seq_seq (W_r (R_mv rfl ?_)))))))
 refine R_neq rfl rfl (R_e ?_)
 refine W_seq_if rfl (fun c1=>?_) fun c1=>?_
 ·
  have za:=c1
  refine W_seq_seq (W_r (R_lk rfl rfl rfl rfl (R_mv rfl (R_sk rfl rfl rfl rfl rfl rfl rfl rfl rfl (R_mv rfl (R_mv rfl (R_mv rfl ?_)))))))
  refine R_e (W_seq_ret ?_)
  refine RetC_4 (resV_c (u:=(V.agg [(iV (l.i)),(V.sl (List.map cN (l.t.nd)))])) rfl (@rfl Blk (bk 1 26 2 [[(iV (l.i)),(V.sl (List.map cN (l.t.nd)))]])) (lB oB rfl rfl)) (resV_t (@rfl V V.nilsl)) (resV_t (@rfl V (V.bool false))) (resV_t (@rfl V (iV (tsE l o)))) (fz_agg2 (fz_int ?_) (fz_sl ?_ (fun _=>by simp))) (fz_nil ?_) (fz_bool ?_) (fz_int ?_)
  · rw [tst_e1 za]
  · rw [tst_e1 za]
  · rw [tst_e1 za]
  · rw [tst_e1 za]
  · rw [tst_e1 za]
 have za:=c1
 have ht:=ts_ok (show tsE l o=0 by omega)
 obtain ⟨hi1,hi2,hv,hw0,_,hl0⟩:=tv_ok ht.1
 have hbn:=hb.n
 have hll:=lvs_len hv
 refine W_seq_skip (W_r (R_lk rfl rfl rfl rfl (R_callk (tsift_pure l o hb ht.1 ho hx) rfl (R_mv rfl (R_ext rfl rfl (R_ext rfl rfl (R_ext rfl rfl ?_)))))))
 refine R_mv rfl (R_mv rfl (R_mv rfl (R_e (W_seq_seq (W_r (R_mv rfl (R_neq rfl rfl ?_)))))))
 refine R_e ?_
 refine W_seq_if rfl (fun c2=>?_) fun c2=>?_
 ·
  have zb:=c2
  refine W_seq_seq (W_r (R_lk rfl rfl rfl rfl (R_mv rfl (R_sk rfl rfl rfl rfl rfl rfl rfl rfl rfl (R_mv rfl (R_mv rfl (R_mv rfl ?_)))))))
  refine R_e (W_seq_ret ?_)
  refine RetC_4 (resV_c (u:=(V.agg [(iV (l.i)),(V.sl (List.map cN (l.t.nd)))])) rfl (@rfl Blk (bk 1 26 2 [[(iV (l.i)),(V.sl (List.map cN (l.t.nd)))]])) (lB oB rfl rfl)) (resV_t (@rfl V V.nilsl)) (resV_t (@rfl V (V.bool false))) (resV_t (@rfl V (iV (sfE l o)))) (fz_agg2 (fz_int ?_) (fz_sl ?_ (fun _=>by simp))) (fz_nil ?_) (fz_bool ?_) (fz_int ?_)
  · rw [tst_e2 za zb]
  · rw [tst_e2 za zb]
  · rw [tst_e2 za zb]
  · rw [tst_e2 za zb]
  · rw [tst_e2 za zb]
 have zb:=c2
 refine W_seq_skip (W_seq_seq (W_r (R_mv rfl (R_len rfl (R_gtr rfl rfl (R_e ?_))))))
 refine W_seq_if rfl (fun c3=>?_) fun c3=>?_
 ·
  have zc:0 < (mxW (qra l o)).length:=by have q:=c3; rw [if_pos (show sfE l o=0 by omega)] at q; omega
  refine W_seq_seq (W_r (R_lk rfl rfl rfl rfl (R_mv rfl (R_sk rfl rfl rfl rfl rfl rfl rfl rfl rfl (R_mv rfl (R_mv rfl (R_mv rfl ?_)))))))
  refine R_e (W_seq_ret ?_)
  refine RetC_4 (resV_c (u:=(V.agg [(iV (l.i)),(V.sl (List.map cN (l.t.nd)))])) rfl (@rfl Blk (bk 1 26 2 [[(iV (l.i)),(V.sl (List.map cN (l.t.nd)))]])) (lB oB rfl rfl)) (resV_t (@rfl V (intss (if sfE l o=0 then mxW (qra l o) else [])))) (resV_t (@rfl V (V.bool false))) (resV_t (@rfl V (iV (0:Int)))) (fz_agg2 (fz_int ?_) (fz_sl ?_ (fun _=>by simp))) (fz_sl ?_ (fun _=>by simp)) (fz_bool ?_) (fz_int ?_)
  · rw [tst_ask za zb zc]
  · rw [tst_ask za zb zc]
  · rw [tst_ask za zb zc]; exact if_pos (by omega)
  · rw [tst_ask za zb zc]
  · rw [tst_ask za zb zc]
 have zc: ¬0 < (mxW (qra l o)).length:=by have q:=c3; rw [if_pos (show sfE l o=0 by omega)] at q; omega
 refine W_seq_skip (W_seq_seq (W_r (R_mv rfl (R_len rfl (R_mv rfl (R_e (W_seq_blockg fun Q4 n4 x4 y4 z4=>?_)))))))
 refine W_loop (fun mm T H=> ∃ (k:Nat) (v14:Nat) (v15:Nat),mm=(exs l).length - k∧T 2=(V.mp 2 1 0 0)∧T 4=(V.mp 4 1 0 0)∧T 8=(V.mp 8 1 0 0)∧T 41=(V.sl (List.map cXt (xts l o)))∧T 42=(iV (((exs l).length:Nat):Int))∧T 43=(iV ((k:Nat):Int))∧H 2=(bk 1 26 2 [[(iV (l.i)),(V.sl (List.map cN (l.t.nd)))]])∧H 3=(bk 1 29 2 [[(iV (o.i)),(V.sl (List.map cT (o.tr)))]])∧H 4=(bk 1 26 2 [[(iV (0:Int)),V.nilsl]])∧H 8=(bk 1 87 4 [[(iV (l.i)),(V.sl (List.map cN (l.t.nd))),(iV (o.i)),(V.sl (List.map cT (o.tr)))]])∧(H 14).ver=v14∧((H 15).ver=v15∧(H 15).live=false)∧(k≤(exs l).length)∧(tsN l o=fi (inx l o) k ((exs l).length - k))) ?_ ?_
 ·
  refine ⟨_,0,0,0,rfl,rfl,rfl,rfl,(Eq.trans (@rfl V (V.sl (List.map cXt (if sfE l o=0 then xts l o else [])))) (by (rw [if_pos (show sfE l o=0 by omega)]; done))),(Eq.trans (@rfl V (iV (((if sfE l o=0 then xts l o else []).length:Nat):Int))) (by (rw [if_pos (show sfE l o=0 by omega),hxn]; done))),(Eq.trans (@rfl V (iV (0:Int))) rfl),rfl,rfl,rfl,rfl,(congrArg Blk.ver rfl),⟨(congrArg Blk.ver rfl),congrArg Blk.live (@rfl Blk (⟨0,false,false,0,0,[]⟩:Blk))⟩,?_,?_⟩
  · omega
  · rfl
 intro mm T H ⟨k,v14,v15,hmm,t2,t4,t8,t41,t42,t43,h2,h3,h4,h8,h14,h15,hk,hc⟩ Q5 p15 p25 p35
 unfold b14_0
 refine W_r (R_lss t43 t42 (R_e ?_))
 refine W_seq_if rfl (fun c6=>?_) fun c6=>?_
 ·
  have hnd:=st_node za zb zc (show k < (exs l).length by omega)
  have r1:=exs_word ht.1 (nth_mem (show k < (exs l).length by omega))
  have d9:nth (xts l o) k=_:=xts_nth (by omega)
  refine W_seq_skip (W_seq_blockg fun Q7 n7 x7 y7 z7=>(W_r (R_idx (i:=k) t41 t43 (by omega) rfl (R_load_pp rfl rfl (R_alloc (i:=14) (n:=v14) (m:=2) rfl h14 rfl (R_sk rfl rfl rfl rfl rfl rfl rfl rfl rfl (R_e ?_)))))))
  refine W_seq_seq (W_r (R_lk t8 h8 rfl rfl (R_fk rfl rfl (R_lk rfl rfl rfl rfl (R_callk (tleaf_pure l o ((((nth (xts l o) (k))).n)) (by rw [d9]; exact hnd.2.1) (by rw [d9]; exact hnd.2.2.1)) rfl (R_e ?_))))))
  refine W_seq_ifb rfl (fun c8=>?_) (fun c8=>?_)
  ·
   have d1:inx l o k=false:=by have q:=c8; rw [d9] at q; unfold inx; simpa using q
   refine W_seq_exit (x7 _ _ (.done (W_t (R_addN t43 (@rfl V (iV ((1:Nat):Int))) (by omega) (R_mv rfl (R_e ?_))))))
   refine p15 _ _ _ ?_ ⟨(k+1),(v14+1),v15,rfl,t2,t4,t8,t41,t42,(Eq.trans (@rfl V (iV ((k+1:Nat):Int))) (by rfl)),h2,h3,h4,h8,(congrArg Blk.ver rfl),h15,?_,?_⟩
   · omega
   · omega
   · rw [hc,fi_skip (p:=inx l o) d1 (by omega)]
  have d0:(nth l.t.nd (sftR l.t o (nth (exs l) k)).1.toNat).lf=false:=by have q:=c8; rw [d9] at q; simpa using q
  have d1:inx l o k=true:=by unfold inx; simpa using d0
  have d2:tsN l o=(k:Int):=by rw [hc,fi_hit (p:=inx l o) d1 (by omega)]
  have d3:=hnd.2.2.2 d0
  have hsf:=hb.sf (sftR l.t o (nth (exs l) k)).1.toNat (by omega)
  have hbh:=bho_le ho (nth (exs l) k) (nth l.t.nd (sftR l.t o (nth (exs l) k)).1.toNat).sf
  refine W_seq_skip (W_seq_seq (W_r (R_fk t2 h2 (R_lk rfl h2 rfl rfl (R_callk (dleaves_pure l.t hb) rfl (R_len rfl (R_geq rfl rfl ?_)))))))
  refine R_e ?_
  refine W_seq_if rfl (fun c9=>?_) fun c9=>?_
  ·
   have z5:128≤(acL l.t.nd).length:=by rw [← hll]; have q:=c9; unfold lvs; omega
   refine W_seq_seq (W_r (R_lk t2 h2 rfl rfl (R_sk t4 rfl rfl h4 rfl rfl rfl rfl rfl (R_mv rfl (R_mv rfl (R_mv rfl (R_e ?_)))))))
   refine W_seq_ret (y7 _ _ (p25 _ _ (y4 _ _ ?_)))
   refine RetC_4 (resV_c (u:=(V.agg [(iV (l.i)),(V.sl (List.map cN (l.t.nd)))])) t4 (@rfl Blk (bk 1 26 2 [[(iV (l.i)),(V.sl (List.map cN (l.t.nd)))]])) (lB oB rfl rfl)) (resV_t (@rfl V V.nilsl)) (resV_t (@rfl V (V.bool false))) (resV_t (@rfl V (iV (11:Int)))) (fz_agg2 (fz_int ?_) (fz_sl ?_ (fun _=>by simp))) (fz_nil ?_) (fz_bool ?_) (fz_int ?_)
   · rw [tst_lim za zb zc (by omega) z5]
   · rw [tst_lim za zb zc (by omega) z5]
   · rw [tst_lim za zb zc (by omega) z5]
   · rw [tst_lim za zb zc (by omega) z5]
   · rw [tst_lim za zb zc (by omega) z5]
  have z5:(acL l.t.nd).length < 128:=by rw [← hll]; have q:=c9; unfold lvs; omega
  refine W_seq_skip (W_d (by exact (lateC (h15).2 lateN)) (R_fk t2 h2 (R_lk rfl h2 rfl rfl (R_fk rfl rfl (R_lk rfl rfl rfl rfl (R_lk t8 h8 rfl rfl (R_fk rfl rfl ?_)))))))
  refine R_lk rfl rfl rfl rfl (R_fk t2 h2 (R_fk rfl h2 (R_lk rfl h2 rfl rfl (R_fk rfl rfl (R_lk rfl rfl rfl rfl (R_idxI (i:=(((nth (xts l o) (k))).n)) (@rfl V (V.sl (List.map cN (l.t.nd)))) (@rfl V (iV (((nth (xts l o) (k))).n))) (by (rw [d9]; show _≤(sftR l.t o (nth (exs l) k)).1; omega)) (by (rw [d9]; show (sftR l.t o (nth (exs l) k)).1 < _; omega)) rfl (R_fld_pp (cs':=(List.drop 2 (cN (((nth (l.t.nd) (((nth (xts l o) (k))).n).toNat)))))) rfl rfl ?_)))))))
  refine R_load_pp rfl rfl (R_callk (touts_pure l o (((nth (xts l o) (k))).w) (((nth (l.t.nd) (((nth (xts l o) (k))).n).toNat)).sf) ho (by rw [d9]; show (nth (exs l) k).length≤_; omega) (by rw [d9]; exact hsf) (by rw [d9]; exact d3.1)) rfl (R_fk rfl rfl (R_lk rfl rfl rfl rfl (R_callk (dgrow_pure l.t ((((nth (xts l o) (k))).n)) (bho o (((nth (xts l o) (k))).w) (((nth (l.t.nd) (((nth (xts l o) (k))).n).toNat)).sf)) (((nth (xts l o) (k))).w) hb (by simp only [d9]; omega) (by rw [d9]; show (nth (exs l) k).length≤_; omega)) rfl (R_mv rfl (R_ext rfl rfl (R_ext rfl rfl ?_)))))))
  refine R_alloc (i:=15) (n:=v15) (m:=1) rfl (h15).1 rfl (R_sk rfl rfl rfl rfl rfl rfl rfl rfl rfl (R_mv rfl (R_e (W_seq_seq ?_))))
  refine W_seq_regc (fun T H=>T 2=(V.mp 2 1 0 0)∧T 4=(V.mp 4 1 0 0)∧T 15=(V.mp 15 (v15+1) 0 0)∧T 16=(iV (grE l.t ((((nth (xts l o) (k))).n)) (bho o (((nth (xts l o) (k))).w) (((nth (l.t.nd) (((nth (xts l o) (k))).n).toNat)).sf)) (((nth (xts l o) (k))).w)))∧T 80=(V.bool (decide ((grE l.t ((((nth (xts l o) (k))).n)) (bho o (((nth (xts l o) (k))).w) (((nth (l.t.nd) (((nth (xts l o) (k))).n).toNat)).sf)) (((nth (xts l o) (k))).w))≠(0:Int))))∧H 2=(bk 1 26 2 [[(iV (l.i)),(V.sl (List.map cN (l.t.nd)))]])∧H 3=(bk 1 29 2 [[(iV (o.i)),(V.sl (List.map cT (o.tr)))]])∧H 4=(bk 1 26 2 [[(iV (0:Int)),V.nilsl]])∧H 8=(bk 1 87 4 [[(iV (l.i)),(V.sl (List.map cN (l.t.nd))),(iV (o.i)),(V.sl (List.map cT (o.tr)))]])∧H 14=(bk (v14+1) 93 2 [[(ints (((nth (xts l o) (k))).w)),(iV (((nth (xts l o) (k))).n))]])∧H 15=(bk (v15+1) 24 1 [[(V.sl (List.map cN ((grT l.t ((((nth (xts l o) (k))).n)) (bho o (((nth (xts l o) (k))).w) (((nth (l.t.nd) (((nth (xts l o) (k))).n).toNat)).sf)) (((nth (xts l o) (k))).w)).nd)))]])∧True) ?_ ?_
  ·
   refine R_mv rfl (R_neq rfl rfl ?_)
   exact R_nil ⟨t2,t4,rfl,rfl,rfl,h2,h3,h4,h8,rfl,rfl,trivial⟩
  intro T H ⟨t2,t4,t15,t16,t80,h2,h3,h4,h8,h14,h15,_⟩
  refine W_seq_if t80 (fun c10=>?_) fun c10=>?_
  ·
   have d6:=c10
   rw [d9] at d6
   refine W_seq_seq (W_r (R_lk t2 h2 rfl rfl (R_mv t16 (R_sk t4 rfl rfl h4 rfl rfl rfl rfl rfl (R_mv rfl (R_mv rfl (R_mv rfl ?_)))))))
   refine R_e (W_seq_ret (y7 _ _ (p25 _ _ (y4 _ _ ?_))))
   refine RetC_4 (resV_c (u:=(V.agg [(iV (l.i)),(V.sl (List.map cN (l.t.nd)))])) t4 (@rfl Blk (bk 1 26 2 [[(iV (l.i)),(V.sl (List.map cN (l.t.nd)))]])) (lB oB rfl rfl)) (resV_t (@rfl V V.nilsl)) (resV_t (@rfl V (V.bool false))) (resV_t (@rfl V (iV (grE l.t ((((nth (xts l o) (k))).n)) (bho o (((nth (xts l o) (k))).w) (((nth (l.t.nd) (((nth (xts l o) (k))).n).toNat)).sf)) (((nth (xts l o) (k))).w))))) (fz_agg2 (fz_int ?_) (fz_sl ?_ (fun _=>by simp))) (fz_nil ?_) (fz_bool ?_) (fz_int ?_)
   · try rw [d9]
     rw [tst_ge za zb zc d2 z5 d6]
   · try rw [d9]
     rw [tst_ge za zb zc d2 z5 d6]
   · try rw [d9]
     rw [tst_ge za zb zc d2 z5 d6]
   · try rw [d9]
     rw [tst_ge za zb zc d2 z5 d6]
   · try rw [d9]
     rw [tst_ge za zb zc d2 z5 d6]
  have d6:=c10
  rw [d9] at d6
  refine W_seq_skip (W_r (R_fk t2 h2 (R_lk rfl h2 rfl rfl (R_lk t15 h15 rfl rfl (R_build rfl rfl (R_sk t4 rfl rfl h4 rfl rfl rfl rfl rfl (R_mv rfl ?_)))))))
  refine R_mv rfl (R_mv rfl (R_e (W_ret (y7 _ _ (p25 _ _ (y4 _ _ ?_))))))
  refine RetC_4 (resV_c (u:=(V.agg [(iV (l.i)),(V.sl (List.map cN ((grT l.t ((((nth (xts l o) (k))).n)) (bho o (((nth (xts l o) (k))).w) (((nth (l.t.nd) (((nth (xts l o) (k))).n).toNat)).sf)) (((nth (xts l o) (k))).w)).nd)))])) t4 (@rfl Blk (bk 1 26 2 [[(iV (l.i)),(V.sl (List.map cN ((grT l.t ((((nth (xts l o) (k))).n)) (bho o (((nth (xts l o) (k))).w) (((nth (l.t.nd) (((nth (xts l o) (k))).n).toNat)).sf)) (((nth (xts l o) (k))).w)).nd)))]])) (lB oB rfl rfl)) (resV_t (@rfl V V.nilsl)) (resV_t (@rfl V (V.bool false))) (resV_t (@rfl V (iV (0:Int)))) (fz_agg2 (fz_int ?_) (fz_sl ?_ (fun _=>by simp))) (fz_nil ?_) (fz_bool ?_) (fz_int ?_)
  · try rw [d9]
    rw [tst_gr za zb zc d2 z5 d6]
  · try rw [d9]
    rw [tst_gr za zb zc d2 z5 d6]
  · try rw [d9]
    rw [tst_gr za zb zc d2 z5 d6]
  · try rw [d9]
    rw [tst_gr za zb zc d2 z5 d6]
  · try rw [d9]
    rw [tst_gr za zb zc d2 z5 d6]
 have zd:tsN l o < 0:=by rw [hc,fi_end (by omega)]; omega
 refine W_seq_exit (p35 _ _ _ (x4 _ _ (.done (W_r (R_lk t2 h2 rfl rfl (R_sk t4 rfl rfl h4 rfl rfl rfl rfl rfl (R_mv rfl ?_)))))))
 refine R_mv rfl (R_mv rfl (R_e (W_ret ?_)))
 refine RetC_4 (resV_c (u:=(V.agg [(iV (l.i)),(V.sl (List.map cN (l.t.nd)))])) t4 (@rfl Blk (bk 1 26 2 [[(iV (l.i)),(V.sl (List.map cN (l.t.nd)))]])) (lB oB rfl rfl)) (resV_t (@rfl V V.nilsl)) (resV_t (@rfl V (V.bool true))) (resV_t (@rfl V (iV (0:Int)))) (fz_agg2 (fz_int ?_) (fz_sl ?_ (fun _=>by simp))) (fz_nil ?_) (fz_bool ?_) (fz_int ?_)
 · rw [tst_done za zb zc zd]
 · rw [tst_done za zb zc zd]
 · rw [tst_done za zb zc zd]
 · rw [tst_done za zb zc zd]
 · rw [tst_done za zb zc zd]
def r17_6:List SO:=[
 qM 17 0,
 qM 18 5,
 qA 19 1 17 18,
 ql 20 19,
 qM 21 1,
 qM 22 5,
 qA 23 1 21 22,
 ql 24 23,
 sO 25 (.call false 58 [.t 20,.t 24]),
 sO 26 (.un .not (.t 25))]
def b17_0:SC:=.seq (.seq (.reg [qM 11 5,qM 12 0,qN 13 12,qP 14 .lss 11 13]) (.cond (.t 14) (.skip) (.exit 0))) (.seq (.block 1 (.seq (.reg r17_6) (.cond (.t 26) (.seq (.reg [sO 4 (.mv (.c (.bool false)))]) (.ret)) (.skip)))) (.reg [qM 15 5,qC 16 .add 15 1,qM 5 16]))
def s17:SF:=⟨27,[.tmp 4],.seq (.reg [sO 4 (.mv (.c (.bool false)))]) (.seq (.seq (.reg [qM 6 0,qN 7 6,qM 8 1,qN 9 8,qP 10 .neq 7 9]) (.cond (.t 10) (.seq (.reg [sO 4 (.mv (.c (.bool false)))]) (.ret)) (.skip))) (.seq (.seq (.reg [qI 5 0]) (.block 0 (.loop b17_0))) (.seq (.reg [sO 4 (.mv (.c (.bool true)))]) (.ret))))⟩
theorem s17_ok:slimF Tryz.prog ⟨[107,108,109,116,120,126,127,167,169,170,171,172,194,196,198,209,222,226],[]⟩ Tryz.f17=some s17:=by kernel_rfl
def r58_1:List SO:=[
 qM 5 0,
 qN 6 5,
 qM 7 1,
 qN 8 7,
 qP 9 .eql 6 8,
 qM 10 9,
 ⟨some (10,true),some 11,.mv (.t 0)⟩,
 ⟨some (10,true),some 12,.mv (.t 1)⟩,
 ⟨some (10,true),some 13,.call false 118 [.t 11,.t 12]⟩,
 ⟨some (10,true),some 14,.mv (.t 0)⟩,
 ⟨some (10,true),some 15,.len (.t 14)⟩,
 ⟨some (10,true),some 16,.bin .eql (.t 13) (.t 15)⟩,
 sO 17 (.pick (.t 10) (.t 16) (.c (.bool false))),
 qM 4 17]
def s58:SF:=⟨18,[.tmp 4],.seq (.reg [sO 4 (.mv (.c (.bool false)))]) (.seq (.reg r58_1) (.ret))⟩
theorem s58_ok:slimF Tryz.prog ⟨[107,108,109,116,120,126,127,167,169,170,171,172,194,196,198,209,222,226],[]⟩ Tryz.f58=some s58:=by kernel_rfl
theorem rsame1_pure (a b:List Int):PureC Tryz.prog 58 [(ints a),(ints b)] (V.bool (decide (a=b))):=by
 refine pW Tryz.func58 s58_ok fun hB=>?_
 unfold s58
 dsimp only
 refine W_r (R_mv rfl (R_e (W_r (R_mv rfl (R_len rfl (R_mv rfl (R_len rfl ?_)))))))
 refine R_eql rfl rfl (R_mv rfl ?_)
 refine Ops_seg 7 (fun T H=>T 17=(V.bool (decide ((((a.length:Nat):Int)=((b.length:Nat):Int))∧(((cmn a b:Nat):Int)=((a.length:Nat):Int)))))∧True) ?_ ?_
 ·
  by_cases g1:((a.length:Nat):Int)=((b.length:Nat):Int)
  ·
   refine G_yes (edT g1 rfl) (R_mv rfl (G_yes (edT g1 rfl) (R_mv rfl (G_yes (edT g1 rfl) ?_))))
   have q2:=cmn_l a b
   have q3:=cmn_r a b
   refine R_callk (rcommon_pure a b) rfl (G_yes (edT g1 rfl) (R_mv rfl (G_yes (edT g1 rfl) (R_len rfl (G_yes (edT g1 rfl) (R_eql rfl rfl (R_pickT (edT g1 rfl) rfl ?_)))))))
   exact ⟨(dec_andT g1),trivial⟩
  ·
   refine G_n (edF g1 rfl) (G_n (edF g1 rfl) (G_n (edF g1 rfl) (G_n (edF g1 rfl) (G_n (edF g1 rfl) (G_n (edF g1 rfl) (R_pickF (edF g1 rfl) rfl ?_))))))
   exact ⟨(dec_andF g1),trivial⟩
 intro T H ⟨t17,_⟩
 refine R_mv t17 (R_e (W_ret ?_))
 refine Ret_1 (@rfl V (V.bool (decide ((((a.length:Nat):Int)=((b.length:Nat):Int))∧(((cmn a b:Nat):Int)=((a.length:Nat):Int)))))) (fz_bool ?_)
 · exact same_dec a b
theorem swords_pure (a b:List (List Int)):PureC Tryz.prog 17 [(intss a),(intss b)] (V.bool (decide (a=b))):=by
 refine pW Tryz.func17 s17_ok fun hB=>?_
 unfold s17
 dsimp only
 refine W_r (R_mv rfl (R_e (W_seq_seq (W_r (R_mv rfl (R_len rfl (R_mv rfl ?_)))))))
 refine R_len rfl (R_neq rfl rfl (R_e ?_))
 refine W_seq_if rfl (fun c1=>?_) fun c1=>?_
 ·
  refine W_seq_seq (W_r (R_mv rfl (R_e (W_seq_ret ?_))))
  refine Ret_1 (@rfl V (V.bool false)) (fz_bool ?_)
  · exact (decide_eq_false (fun e=>by subst e; omega)).symm
 refine W_seq_skip (W_seq_seq (W_r (R_mv rfl (R_e (W_seq_blockg fun Q2 n2 x2 y2 z2=>?_)))))
 refine W_loop (fun mm T H=> ∃ (k:Nat),mm=a.length - k∧T 0=(intss a)∧T 1=(intss b)∧T 5=(iV ((k:Nat):Int))∧(k≤a.length)∧(a.length=b.length)∧(∀ j,j < k→nth a j=nth b j)) ?_ ?_
 ·
  refine ⟨_,0,rfl,rfl,rfl,(Eq.trans (@rfl V (iV (0:Int))) rfl),?_,?_,?_⟩
  · omega
  · omega
  · intro j hj; omega
 intro mm T H ⟨k,hmm,t0,t1,t5,hk,hl,hc⟩ Q3 p13 p23 p33
 unfold b17_0
 refine W_seq_seq (W_r (R_mv t5 (R_mv t0 (R_len rfl (R_lss rfl rfl (R_e ?_))))))
 refine W_seq_if rfl (fun c4=>?_) fun c4=>?_
 ·
  refine W_seq_skip (W_seq_blockg fun Q5 n5 x5 y5 z5=>(W_r (R_mv t0 (R_mv t5 (R_idx (i:=k) (@rfl V (intss a)) (@rfl V (iV ((k:Nat):Int))) (by omega) rfl (R_load_pp rfl rfl (R_mv t1 ?_)))))))
  refine R_mv t5 (R_idx (i:=k) (@rfl V (intss b)) (@rfl V (iV ((k:Nat):Int))) (by omega) rfl (R_load_pp rfl rfl (R_callk (rsame1_pure ((nth (a) (k))) ((nth (b) (k)))) rfl (R_not rfl (R_e ?_)))))
  refine W_if rfl (fun c6=>?_) fun c6=>?_
  ·
   have d1:=c6
   refine W_r (R_mv rfl (R_e (W_ret (y5 _ _ (p23 _ _ (y2 _ _ ?_))))))
   refine Ret_1 (@rfl V (V.bool false)) (fz_bool ?_)
   · exact (decide_eq_false (fun e=>d1 (by subst e; rfl))).symm
  have d1:=Decidable.not_not.1 c6
  refine W_skip (n5 _ _ (.done (W_t (R_mv t5 (R_addN rfl (@rfl V (iV ((1:Nat):Int))) (by omega) (R_mv rfl (R_e ?_)))))))
  refine p13 _ _ _ ?_ ⟨(k+1),rfl,t0,t1,(Eq.trans (@rfl V (iV ((k+1:Nat):Int))) (by rfl)),?_,?_,?_⟩
  · omega
  · omega
  · omega
  · intro j hj
    by_cases e:j=k
    · subst e; exact d1
    · exact hc j (by omega)
 refine W_seq_exit (p33 _ _ _ (x2 _ _ (.done (W_r (R_mv rfl (R_e (W_ret ?_)))))))
 refine Ret_1 (@rfl V (V.bool true)) (fz_bool ?_)
 · exact (decide_eq_true (nth_ext hl fun j hj=>hc j (by omega))).symm
def r18_5:List SO:=[
 qL 29 4 6,
 sO 30 (.call false 45 [.t 29]),
 qM 28 30,
 qE 31 28 0,
 qE 32 28 1,
 qE 33 28 2,
 qM 8 31,
 qM 9 32,
 qM 10 33]
def r18_11:List SO:=[
 qF 45 0 2,
 ql 46 45,
 sO 47 (.build [.int .i64 0,.int .i64 0,.nilsl,.nilsl] [(0,1,.t 46)]),
 qM 48 11,
 sO 49 (.build [.int .i64 0,.int .i64 0,.nilsl,.nilsl,.nilsl] [(0,4,.t 47),(4,1,.t 48)]),
 sO 12 (.alloc 48 [.int .i64 0,.int .i64 0,.nilsl,.nilsl,.nilsl]),
 sN (.store 5 (.t 12) (.t 49))]
def r18_16:List SO:=[
 qM 55 8,
 qM 56 13,
 qF 57 0 2,
 ql 58 57,
 qP 59 .mul 56 58,
 qM 60 13,
 qC 61 .add 60 1,
 qF 62 0 2,
 ql 63 62,
 qP 64 .mul 61 63,
 sO 65 (.slice 2 (.t 55) (some (.t 59)) (some (.t 64))),
 qN 66 65,
 qI 67 0]
def r18_21:List SO:=[
 qF 77 1 2,
 qF 78 0 77,
 ql 79 78,
 qF 80 1 17,
 ql 81 80,
 qA 82 5 79 81,
 qF 83 1 82,
 ql 84 83,
 sO 18 (.alloc 54 [.nilsl]),
 sN (.store 1 (.t 18) (.t 84))]
def r18_22:List SO:=[
 qM 85 14,
 qM 86 11,
 sO 87 (.mkf 60 [.t 18]),
 sO 88 (.call false 59 [.t 86,.t 87]),
 sO 89 (.bslice 3 1 false [.int .i64 0] 1 [(0,.t 88)]),
 sO 90 (.append 3 1 8 (.t 85) (.t 89)),
 qM 14 90]
def r18_23:List SO:=[
 qM 91 15,
 qL 92 4 6,
 qF 93 0 17,
 ql 94 93,
 qF 95 0 17,
 ql 96 95,
 qN 97 96,
 qC 98 .sub 97 1,
 sO 99 (.slice 1 (.t 94) none (some (.t 98))),
 qF 100 0 17,
 ql 101 100,
 qF 102 0 17,
 ql 103 102,
 qN 104 103,
 qC 105 .sub 104 1,
 sO 106 (.slice 1 (.t 101) (some (.t 105)) none),
 sO 107 (.call false 49 [.t 92,.t 99,.t 106]),
 sO 108 (.append 3 1 8 (.t 91) (.t 107)),
 qM 15 108]
def b18_1:SC:=.seq (.reg [qP 68 .lss 67 66]) (.seq (.cond (.t 68) (.skip) (.exit 2)) (.seq (.block 3 (.seq (.reg [qA 69 2 65 67,qL 70 2 69,sO 17 (.alloc 93 [.nilsl,.int .i64 0]),sN (.store 2 (.t 17) (.t 70))]) (.seq (.seq (.reg [qL 71 4 6,qF 72 1 17,ql 73 72,sO 74 (.call false 46 [.t 71,.t 73]),sO 75 (.un .not (.t 74))]) (.cond (.t 75) (.seq (.reg [sO 76 (.build [.int .i64 0,.int .i64 0,.nilsl,.nilsl,.nilsl] []),sN (.store 5 (.t 4) (.t 76)),qI 5 10]) (.ret)) (.skip))) (.seq (.reg r18_21) (.seq (.reg r18_22) (.reg r18_23)))))) (.reg [qC 109 .add 67 1,qM 67 109])))
def r18_25:List SO:=[
 qF 110 0 12,
 qF 111 2 110,
 ql 112 111,
 qM 113 14,
 sO 114 (.bslice 54 1 false [.nilsl] 1 [(0,.t 113)]),
 sO 115 (.append 54 1 24 (.t 112) (.t 114)),
 qF 116 0 12,
 qF 117 2 116,
 sN (.store 1 (.t 117) (.t 115))]
def r18_26:List SO:=[
 qF 118 0 12,
 qF 119 3 118,
 ql 120 119,
 qM 121 15,
 sO 122 (.bslice 54 1 false [.nilsl] 1 [(0,.t 121)]),
 sO 123 (.append 54 1 24 (.t 120) (.t 122)),
 qF 124 0 12,
 qF 125 3 124,
 sN (.store 1 (.t 125) (.t 123))]
def b18_0:SC:=.seq (.reg [qP 53 .lss 52 51]) (.seq (.cond (.t 53) (.skip) (.exit 0)) (.seq (.block 1 (.seq (.reg [qM 54 52,qM 13 54]) (.seq (.reg [sO 14 (.lazy 3 1),sO 15 (.lazy 3 1)]) (.seq (.seq (.reg r18_16) (.block 2 (.loop b18_1))) (.seq (.reg r18_25) (.reg r18_26)))))) (.reg [qC 126 .add 52 1,qM 52 126])))
def s18:SF:=⟨132,[.cell 4 true 5,.tmp 5],.seq (.reg [sO 2 (.box 26 2 (.t 0)),sO 3 (.box 29 2 (.t 1)),sO 4 (.alloc 48 [.int .i64 0,.int .i64 0,.nilsl,.nilsl,.nilsl]),qI 5 0]) (.seq (.reg [qL 19 2 2,qL 20 2 3,sO 21 (.build [.int .i64 0,.nilsl,.int .i64 0,.nilsl] [(0,2,.t 19),(2,2,.t 20)]),sO 6 (.alloc 87 [.int .i64 0,.nilsl,.int .i64 0,.nilsl]),sN (.store 4 (.t 6) (.t 21))]) (.seq (.seq (.reg [qL 22 4 6,sO 23 (.call false 44 [.t 22]),qM 7 23]) (.seq (.reg [qM 24 7,qC 25 .neq 24 0]) (.cond (.t 25) (.seq (.reg [sO 26 (.build [.int .i64 0,.int .i64 0,.nilsl,.nilsl,.nilsl] []),qM 27 7,sN (.store 5 (.t 4) (.t 26)),qM 5 27]) (.ret)) (.skip)))) (.seq (.reg r18_5) (.seq (.seq (.reg [qM 34 10,qC 35 .neq 34 0]) (.cond (.t 35) (.seq (.reg [sO 36 (.build [.int .i64 0,.int .i64 0,.nilsl,.nilsl,.nilsl] []),qM 37 10,sN (.store 5 (.t 4) (.t 36)),qM 5 37]) (.ret)) (.skip))) (.seq (.seq (.reg [qM 38 9,qN 39 38,qC 40 .gtr 39 0]) (.cond (.t 40) (.seq (.reg [sO 41 (.build [.int .i64 0,.int .i64 0,.nilsl,.nilsl,.nilsl] []),sN (.store 5 (.t 4) (.t 41)),qI 5 12]) (.ret)) (.skip))) (.seq (.reg [qF 42 1 2,qL 43 1 42,sO 44 (.call false 47 [.t 43]),qM 11 44]) (.seq (.reg r18_11) (.seq (.seq (.reg [qM 50 11,qN 51 50,qI 52 0]) (.block 0 (.loop b18_0))) (.seq (.seq (.reg [qL 127 5 12,sO 128 (.call false 62 [.t 127]),qC 129 .neq 128 0]) (.cond (.t 129) (.seq (.reg [sO 130 (.build [.int .i64 0,.int .i64 0,.nilsl,.nilsl,.nilsl] []),sN (.store 5 (.t 4) (.t 130)),qI 5 15]) (.ret)) (.skip))) (.seq (.reg [qL 131 5 12,sN (.store 5 (.t 4) (.t 131)),qI 5 0]) (.ret)))))))))))⟩
theorem s18_ok:slimF Tryz.prog ⟨[107,108,109,116,120,126,127,167,169,170,171,172,194,196,198,209,222,226],[14,15]⟩ Tryz.f18=some s18:=by kernel_rfl
def s60:SF:=⟨7,[.tmp 3],.seq (.reg [sO 3 (.mv (.c (.bool false)))]) (.seq (.reg [qM 4 0,ql 5 1,sO 6 (.call false 61 [.t 4,.t 5]),qM 3 6]) (.ret))⟩
theorem s60_ok:slimF Tryz.prog ⟨[107,108,109,116,120,126,127,167,169,170,171,172,194,196,198,209,222,226],[]⟩ Tryz.f60=some s60:=by kernel_rfl
theorem thyp1_pure (v w:List Int):PureC Tryz.prog 60 [(ints v),(V.pp [(ints w)])] (V.bool (decide (v=w))):=by
 refine pW Tryz.func60 s60_ok fun hB=>?_
 unfold s60
 dsimp only
 refine W_r (R_mv rfl (R_e (W_r (R_mv rfl (R_load_pp rfl rfl (R_callk (sequal_pure v w) rfl (R_mv rfl ?_)))))))
 refine R_e (W_ret ?_)
 refine Ret_1 (@rfl V (V.bool (decide (v=w)))) (fz_canon (by simp) rfl)
def r62_4:List SO:=[
 qF 15 4 1,
 ql 16 15,
 qN 17 16,
 qF 18 0 1,
 qF 19 2 18,
 ql 20 19,
 qN 21 20,
 qP 22 .neq 17 21]
def r62_9:List SO:=[
 qF 32 0 1,
 qL 33 4 32,
 qF 34 0 1,
 qF 35 1 34,
 ql 36 35,
 qM 37 5,
 sO 38 (.call false 119 [.t 33,.t 36,.t 37]),
 qM 31 38,
 qE 39 31 0,
 qE 40 31 1,
 qE 41 31 2,
 qM 6 39,
 qM 7 40,
 qM 8 41]
def b62_0:SC:=.seq (.reg [qP 27 .lss 26 25]) (.seq (.cond (.t 27) (.skip) (.exit 0)) (.seq (.block 1 (.seq (.reg [qM 28 26,qA 29 1 24 26,ql 30 29,qM 4 28,qM 5 30]) (.seq (.reg r62_9) (.seq (.seq (.reg [qM 42 8,qC 43 .neq 42 0]) (.cond (.t 43) (.seq (.reg [qM 44 8,qM 2 44]) (.ret)) (.skip))) (.seq (.reg [qM 45 7,qM 46 4,qP 47 .neq 45 46]) (.cond (.t 47) (.seq (.reg [qI 2 15]) (.ret)) (.skip))))))) (.reg [qC 48 .add 26 1,qM 26 48])))
def r62_15:List SO:=[
 qF 49 4 1,
 ql 50 49,
 qF 51 0 1,
 qF 52 1 51,
 ql 53 52,
 qA 54 1 50 53,
 ql 55 54,
 qN 56 55,
 qC 57 .neq 56 0]
def s62:SF:=⟨58,[.tmp 2],.seq (.reg [sO 1 (.box 48 5 (.t 0)),qI 2 0]) (.seq (.seq (.reg [qF 9 0 1,qL 10 4 9,sO 11 (.call false 85 [.t 10]),qM 3 11]) (.seq (.reg [qM 12 3,qC 13 .neq 12 0]) (.cond (.t 13) (.seq (.reg [qM 14 3,qM 2 14]) (.ret)) (.skip)))) (.seq (.seq (.reg r62_4) (.cond (.t 22) (.seq (.reg [qI 2 1]) (.ret)) (.skip))) (.seq (.seq (.reg [qF 23 4 1,ql 24 23,qN 25 24,qI 26 0]) (.block 0 (.loop b62_0))) (.seq (.seq (.reg r62_15) (.cond (.t 57) (.seq (.reg [qI 2 10]) (.ret)) (.skip))) (.seq (.reg [qI 2 0]) (.ret))))))⟩
theorem s62_ok:slimF Tryz.prog ⟨[107,108,109,116,120,126,127,167,169,170,171,172,194,196,198,209,222,226],[]⟩ Tryz.f62=some s62:=by kernel_rfl
def r85_2:List SO:=[
 qF 12 0 1,
 ql 13 12,
 qC 14 .lss 13 1,
 qM 15 14,
 ⟨some (15,false),some 16,.fld 0 (.t 1)⟩,
 ⟨some (15,false),some 17,.load false 1 (.t 16)⟩,
 ⟨some (15,false),some 18,.bin .gtr (.t 17) (.c (.int .i64 64))⟩,
 sO 19 (.pick (.t 15) (.c (.bool true)) (.t 18)),
 qM 11 19]
def r85_8:List SO:=[
 qF 27 1 1,
 ql 28 27,
 qC 29 .lss 28 0,
 qM 30 29,
 ⟨some (30,false),some 31,.fld 1 (.t 1)⟩,
 ⟨some (30,false),some 32,.load false 1 (.t 31)⟩,
 ⟨some (30,false),some 33,.mv (.t 3)⟩,
 ⟨some (30,false),some 34,.bin .geq (.t 32) (.t 33)⟩,
 sO 35 (.pick (.t 30) (.c (.bool true)) (.t 34)),
 qM 26 35]
def r85_15:List SO:=[
 qF 46 2 1,
 ql 47 46,
 qM 48 4,
 qA 49 1 47 48,
 ql 50 49,
 qN 51 50,
 qF 52 0 1,
 ql 53 52,
 qP 54 .neq 51 53,
 qM 55 54,
 ⟨some (55,false),some 56,.fld 3 (.t 1)⟩,
 ⟨some (55,false),some 57,.load false 1 (.t 56)⟩,
 ⟨some (55,false),some 58,.mv (.t 4)⟩,
 ⟨some (55,false),some 59,.idx 1 (.t 57) (.t 58)⟩,
 ⟨some (55,false),some 60,.load false 1 (.t 59)⟩,
 ⟨some (55,false),some 61,.len (.t 60)⟩,
 ⟨some (55,false),some 62,.fld 0 (.t 1)⟩,
 ⟨some (55,false),some 63,.load false 1 (.t 62)⟩,
 ⟨some (55,false),some 64,.bin .neq (.t 61) (.t 63)⟩,
 sO 65 (.pick (.t 55) (.c (.bool true)) (.t 64))]
def r85_20:List SO:=[
 qF 71 2 1,
 ql 72 71,
 qM 73 4,
 qA 74 1 72 73,
 ql 75 74,
 qM 76 5,
 qA 77 1 75 76,
 ql 78 77,
 qF 79 3 1,
 ql 80 79,
 qM 81 4,
 qA 82 1 80 81,
 ql 83 82,
 qM 84 5,
 qA 85 1 83 84,
 ql 86 85,
 qM 6 78,
 qM 7 86]
def r85_21:List SO:=[
 qM 87 6,
 qC 88 .lss 87 0,
 qM 89 88,
 ⟨some (89,false),some 90,.mv (.t 6)⟩,
 ⟨some (89,false),some 91,.mv (.t 3)⟩,
 ⟨some (89,false),some 92,.bin .geq (.t 90) (.t 91)⟩,
 sO 93 (.pick (.t 89) (.c (.bool true)) (.t 92)),
 qM 94 93,
 ⟨some (94,false),some 95,.mv (.t 7)⟩,
 ⟨some (94,false),some 96,.bin .lss (.t 95) (.c (.int .i64 0))⟩,
 sO 97 (.pick (.t 94) (.c (.bool true)) (.t 96)),
 qM 98 97,
 ⟨some (98,false),some 99,.mv (.t 7)⟩,
 ⟨some (98,false),some 100,.bin .gtr (.t 99) (.c (.int .i64 1048576))⟩,
 sO 101 (.pick (.t 98) (.c (.bool true)) (.t 100))]
def b85_1:SC:=.seq (.reg [qP 69 .lss 68 67]) (.seq (.cond (.t 69) (.skip) (.exit 3)) (.seq (.block 4 (.seq (.reg [qM 70 68,qM 5 70]) (.seq (.reg r85_20) (.seq (.reg r85_21) (.cond (.t 101) (.seq (.reg [qI 2 2]) (.ret)) (.skip)))))) (.reg [qC 102 .add 68 1,qM 68 102])))
def b85_0:SC:=.seq (.reg [qP 44 .lss 43 42]) (.seq (.cond (.t 44) (.skip) (.exit 1)) (.seq (.block 2 (.seq (.reg [qM 45 43,qM 4 45]) (.seq (.seq (.reg r85_15) (.cond (.t 65) (.seq (.reg [qI 2 1]) (.ret)) (.skip))) (.seq (.reg [qF 66 0 1,ql 67 66,qI 68 0]) (.block 3 (.loop b85_1)))))) (.reg [qC 103 .add 43 1,qM 43 103])))
def s85:SF:=⟨104,[.tmp 2],.seq (.reg [sO 1 (.box 46 4 (.t 0)),qI 2 0]) (.seq (.reg [qF 8 2 1,ql 9 8,qN 10 9,qM 3 10]) (.seq (.block 0 (.seq (.reg r85_2) (.cond (.t 11) (.seq (.reg [qI 2 2]) (.ret)) (.seq (.reg [qM 21 3,qC 22 .eql 21 0,qM 20 22]) (.cond (.t 20) (.seq (.reg [qI 2 19]) (.ret)) (.seq (.reg [qM 24 3,qC 25 .gtr 24 128,qM 23 25]) (.cond (.t 23) (.seq (.reg [qI 2 11]) (.ret)) (.seq (.reg r85_8) (.cond (.t 26) (.seq (.reg [qI 2 2]) (.ret)) (.seq (.reg [qF 37 3 1,ql 38 37,qN 39 38,qM 40 3,qP 41 .neq 39 40,qM 36 41]) (.cond (.t 36) (.seq (.reg [qI 2 1]) (.ret)) (.skip)))))))))))) (.seq (.seq (.reg [qM 42 3,qI 43 0]) (.block 1 (.loop b85_0))) (.seq (.reg [qI 2 0]) (.ret)))))⟩
theorem s85_ok:slimF Tryz.prog ⟨[107,108,109,116,120,126,127,167,169,170,171,172,194,196,198,209,222,226],[]⟩ Tryz.f85=some s85:=by kernel_rfl
theorem mvalid_pure (m:M):PureC Tryz.prog 85 [(V.agg [(iV (m.i)),(iV (m.s)),(intss m.nx),(intss m.ot)])] (iV (mval m)):=by
 refine pW Tryz.func85 s85_ok fun hB=>?_
 unfold s85
 dsimp only
 refine W_r (R_box (i:=1) (n:=0) (m:=4) (cs:=[(iV (m.i)),(iV (m.s)),(intss m.nx),(intss m.ot)]) rfl (congrArg Blk.ver rfl) rfl rfl rfl (R_mv rfl (R_e (W_r (R_fk rfl rfl (R_lk rfl rfl rfl rfl (R_len rfl ?_)))))))
 refine R_mv rfl (R_e (W_seq_blockg fun Q1 n1 x1 y1 z1=>(W_r (R_fk rfl rfl (R_lk rfl rfl rfl rfl (R_lss rfl rfl (R_mv rfl ?_)))))))
 refine Ops_seg 4 (fun T H=>T 1=(V.mp 1 1 0 0)∧T 3=(iV ((m.nx.length:Nat):Int))∧T 19=(V.bool (decide (((m.i) < (1:Int))∨((64:Int) < (m.i)))))∧H 1=(bk 1 46 4 [[(iV (m.i)),(iV (m.s)),(intss m.nx),(intss m.ot)]])∧True) ?_ ?_
 ·
  by_cases g2:(m.i) < (1:Int)
  ·
   refine G_n (edT g2 rfl) (G_n (edT g2 rfl) (G_n (edT g2 rfl) (R_pickT (edT g2 rfl) rfl ?_)))
   exact ⟨rfl,rfl,(dec_orT g2),rfl,trivial⟩
  ·
   refine G_yes (edF g2 rfl) (R_fk rfl rfl (G_yes (edF g2 rfl) (R_lk rfl rfl rfl rfl (G_yes (edF g2 rfl) (R_gtr rfl rfl (R_pickF (edF g2 rfl) rfl ?_))))))
   exact ⟨rfl,rfl,(dec_orF g2),rfl,trivial⟩
 intro T H ⟨t1,t3,t19,h1,_⟩
 refine R_mv t19 (R_e ?_)
 refine W_if rfl (fun c3=>?_) fun c3=>?_
 ·
  refine W_r (R_mv rfl (R_e (W_ret (y1 _ _ ?_))))
  refine Ret_1 (@rfl V (iV (2:Int))) (fz_int ?_)
  · rw [mval,if_pos (by omega)]
 refine W_r (R_mv t3 (R_eql rfl rfl (R_mv rfl (R_e ?_))))
 refine W_if rfl (fun c4=>?_) fun c4=>?_
 ·
  refine W_r (R_mv rfl (R_e (W_ret (y1 _ _ ?_))))
  refine Ret_1 (@rfl V (iV (19:Int))) (fz_int ?_)
  · rw [mval,if_neg (by omega),if_pos (by omega)]
 refine W_r (R_mv t3 (R_gtr rfl rfl (R_mv rfl (R_e ?_))))
 refine W_if rfl (fun c5=>?_) fun c5=>?_
 ·
  refine W_r (R_mv rfl (R_e (W_ret (y1 _ _ ?_))))
  refine Ret_1 (@rfl V (iV (11:Int))) (fz_int ?_)
  · rw [mval,if_neg (by omega),if_neg (by omega),if_pos (by omega)]
 refine W_r (R_fk t1 h1 (R_lk rfl h1 rfl rfl (R_lss rfl rfl (R_mv rfl ?_))))
 refine Ops_seg 5 (fun T H=>T 1=(V.mp 1 1 0 0)∧T 3=(iV ((m.nx.length:Nat):Int))∧T 35=(V.bool (decide (((m.s) < (0:Int))∨(((m.nx.length:Nat):Int)≤(m.s)))))∧H 1=(bk 1 46 4 [[(iV (m.i)),(iV (m.s)),(intss m.nx),(intss m.ot)]])∧True) ?_ ?_
 ·
  by_cases g6:(m.s) < (0:Int)
  ·
   refine G_n (edT g6 rfl) (G_n (edT g6 rfl) (G_n (edT g6 rfl) (G_n (edT g6 rfl) (R_pickT (edT g6 rfl) rfl ?_))))
   exact ⟨t1,t3,(dec_orT g6),h1,trivial⟩
  ·
   refine G_yes (edF g6 rfl) (R_fk t1 h1 (G_yes (edF g6 rfl) (R_lk rfl h1 rfl rfl (G_yes (edF g6 rfl) (R_mv t3 (G_yes (edF g6 rfl) (R_geq rfl rfl ?_)))))))
   refine R_pickF (edF g6 rfl) rfl ?_
   exact ⟨t1,t3,(dec_orF g6),h1,trivial⟩
 intro T H ⟨t1,t3,t35,h1,_⟩
 refine R_mv t35 (R_e ?_)
 refine W_if rfl (fun c7=>?_) fun c7=>?_
 ·
  refine W_r (R_mv rfl (R_e (W_ret (y1 _ _ ?_))))
  refine Ret_1 (@rfl V (iV (2:Int))) (fz_int ?_)
  · rw [mval,if_neg (by omega),if_neg (by omega),if_neg (by omega),if_pos (by omega)]
 refine W_r (R_fk t1 h1 (R_lk rfl h1 rfl rfl (R_len rfl (R_mv t3 (R_neq rfl rfl (R_mv rfl (R_e ?_)))))))
 refine W_if rfl (fun c8=>?_) fun c8=>?_
 ·
  refine W_r (R_mv rfl (R_e (W_ret (y1 _ _ ?_))))
  refine Ret_1 (@rfl V (iV (1:Int))) (fz_int ?_)
  · rw [mval,if_neg (by omega),if_neg (by omega),if_neg (by omega),if_neg (by omega),if_pos (by omega)]
 refine W_skip (n1 _ _ (.done (W_seq_seq (W_r (R_mv t3 (R_mv rfl (R_e ?_)))))))
 refine W_seq_blockg fun Q9 n9 x9 y9 z9=>?_
 refine W_loop (fun mm T H=> ∃ (k:Nat),mm=m.nx.length - k∧T 1=(V.mp 1 1 0 0)∧T 3=(iV ((m.nx.length:Nat):Int))∧T 42=(iV ((m.nx.length:Nat):Int))∧T 43=(iV ((k:Nat):Int))∧H 1=(bk 1 46 4 [[(iV (m.i)),(iV (m.s)),(intss m.nx),(intss m.ot)]])∧(k≤m.nx.length)∧(1≤m.i∧m.i≤64∧0 < m.nx.length∧m.nx.length≤128∧m.ot.length=m.nx.length)∧(mval m=fe (rowE m) k (m.nx.length - k))) ?_ ?_
 ·
  refine ⟨_,0,rfl,t1,t3,rfl,(Eq.trans (@rfl V (iV (0:Int))) rfl),h1,?_,?_,?_⟩
  · omega
  · omega
  · rw [mval,if_neg (by omega),if_neg (by omega),if_neg (by omega),if_neg (by omega),if_neg (by omega)]; rfl
 intro mm T H ⟨k,hmm,t1,t3,t42,t43,h1,hk,hv,hc⟩ Q10 p110 p210 p310
 unfold b85_0
 refine W_r (R_lss t43 t42 (R_e ?_))
 refine W_seq_if rfl (fun c11=>?_) fun c11=>?_
 ·
  refine W_seq_skip (W_seq_blockg fun Q12 n12 x12 y12 z12=>(W_r (R_mv t43 (R_mv rfl (R_e (W_seq_seq (W_r ?_)))))))
  refine R_fk t1 h1 (R_lk rfl h1 rfl rfl (R_mv rfl (R_idx (i:=k) (@rfl V (intss m.nx)) (@rfl V (iV ((k:Nat):Int))) (by omega) rfl (R_load_pp rfl rfl (R_len rfl (R_fk t1 h1 (R_lk rfl h1 rfl rfl ?_)))))))
  refine R_neq rfl rfl (R_mv rfl ?_)
  refine Ops_seg 10 (fun T H=>T 1=(V.mp 1 1 0 0)∧T 3=(iV ((m.nx.length:Nat):Int))∧T 4=(iV ((k:Nat):Int))∧T 42=(iV ((m.nx.length:Nat):Int))∧T 43=(iV ((k:Nat):Int))∧T 65=(V.bool (decide ((((((nth (m.nx) (k))).length:Nat):Int)≠(m.i))∨(((((nth (m.ot) (k))).length:Nat):Int)≠(m.i)))))∧H 1=(bk 1 46 4 [[(iV (m.i)),(iV (m.s)),(intss m.nx),(intss m.ot)]])∧True) ?_ ?_
  ·
   by_cases g13:((((nth (m.nx) (k))).length:Nat):Int)≠(m.i)
   ·
    refine G_n (edT g13 rfl) (G_n (edT g13 rfl) (G_n (edT g13 rfl) (G_n (edT g13 rfl) (G_n (edT g13 rfl) (G_n (edT g13 rfl) (G_n (edT g13 rfl) (G_n (edT g13 rfl) ?_)))))))
    refine G_n (edT g13 rfl) (R_pickT (edT g13 rfl) rfl ?_)
    exact ⟨t1,t3,rfl,t42,t43,(dec_orT g13),h1,trivial⟩
   ·
    refine G_yes (edF g13 rfl) (R_fk t1 h1 (G_yes (edF g13 rfl) (R_lk rfl h1 rfl rfl (G_yes (edF g13 rfl) (R_mv rfl (G_yes (edF g13 rfl) (R_idx (i:=k) (@rfl V (intss m.ot)) (@rfl V (iV ((k:Nat):Int))) (by omega) rfl ?_)))))))
    refine G_yes (edF g13 rfl) (R_load_pp rfl rfl (G_yes (edF g13 rfl) (R_len rfl (G_yes (edF g13 rfl) (R_fk t1 h1 (G_yes (edF g13 rfl) (R_lk rfl h1 rfl rfl ?_)))))))
    refine G_yes (edF g13 rfl) (R_neq rfl rfl (R_pickF (edF g13 rfl) rfl ?_))
    exact ⟨t1,t3,rfl,t42,t43,(dec_orF g13),h1,trivial⟩
  intro T H ⟨t1,t3,t4,t42,t43,t65,h1,_⟩
  refine R_e ?_
  refine W_seq_if t65 (fun c14=>?_) fun c14=>?_
  ·
   refine W_seq_seq (W_r (R_mv rfl (R_e (W_seq_ret (y12 _ _ (p210 _ _ (y9 _ _ ?_)))))))
   refine Ret_1 (@rfl V (iV (1:Int))) (fz_int ?_)
   · rw [hc,fe_hit (by rw [rowE,if_pos (by omega)]; decide) (by omega),rowE,if_pos (by omega)]
  refine W_seq_skip (W_r (R_fk t1 h1 (R_lk rfl h1 rfl rfl (R_mv rfl (R_e (W_block fun Q15 n15 x15 y15 z15=>?_))))))
  refine W_loop (fun mm T H=> ∃ (j:Nat),mm=((m.i).toNat) - j∧T 1=(V.mp 1 1 0 0)∧T 3=(iV ((m.nx.length:Nat):Int))∧T 4=(iV ((k:Nat):Int))∧T 42=(iV ((m.nx.length:Nat):Int))∧T 43=(iV ((k:Nat):Int))∧T 67=(iV (m.i))∧T 68=(iV ((j:Nat):Int))∧H 1=(bk 1 46 4 [[(iV (m.i)),(iV (m.s)),(intss m.nx),(intss m.ot)]])∧(j≤(m.i).toNat)∧(((nth m.nx k).length:Int)=m.i∧((nth m.ot k).length:Int)=m.i)∧(rowE m k=fe (celE m k) j (m.i.toNat - j))) ?_ ?_
  ·
   refine ⟨_,0,rfl,t1,t3,t4,t42,t43,rfl,(Eq.trans (@rfl V (iV (0:Int))) rfl),h1,?_,?_,?_⟩
   · omega
   · omega
   · rw [rowE,if_neg (by omega)]; rfl
  intro mm T H ⟨j,hmm,t1,t3,t4,t42,t43,t67,t68,h1,hj,hl,hr⟩ Q16 p116 p216 p316
  unfold b85_1
  refine W_r (R_lss t68 t67 (R_e ?_))
  refine W_seq_if rfl (fun c17=>?_) fun c17=>?_
  ·
   refine W_seq_skip (W_seq_blockg fun Q18 n18 x18 y18 z18=>(W_r (R_mv t68 (R_mv rfl (R_e (W_r (R_fk t1 h1 ?_)))))))
   refine R_lk rfl h1 rfl rfl (R_mv t4 (R_idx (i:=k) (@rfl V (intss m.nx)) (@rfl V (iV ((k:Nat):Int))) (by omega) rfl (R_load_pp rfl rfl (R_mv rfl (R_idx (i:=j) (@rfl V (ints ((nth (m.nx) (k))))) (@rfl V (iV ((j:Nat):Int))) (by omega) rfl (R_load_pp rfl rfl (R_fk t1 h1 ?_)))))))
   refine R_lk rfl h1 rfl rfl (R_mv t4 (R_idx (i:=k) (@rfl V (intss m.ot)) (@rfl V (iV ((k:Nat):Int))) (by omega) rfl (R_load_pp rfl rfl (R_mv rfl (R_idx (i:=j) (@rfl V (ints ((nth (m.ot) (k))))) (@rfl V (iV ((j:Nat):Int))) (by omega) rfl (R_load_pp rfl rfl (R_mv rfl ?_)))))))
   refine R_mv rfl (R_e (W_r (R_mv rfl (R_lss rfl rfl (R_mv rfl ?_)))))
   refine Ops_seg 4 (fun T H=>T 1=(V.mp 1 1 0 0)∧T 3=(iV ((m.nx.length:Nat):Int))∧T 4=(iV ((k:Nat):Int))∧T 7=(iV ((nth ((nth (m.ot) (k))) (j))))∧T 42=(iV ((m.nx.length:Nat):Int))∧T 43=(iV ((k:Nat):Int))∧T 67=(iV (m.i))∧T 68=(iV ((j:Nat):Int))∧T 93=(V.bool (decide ((((nth ((nth (m.nx) (k))) (j))) < (0:Int))∨(((m.nx.length:Nat):Int)≤((nth ((nth (m.nx) (k))) (j)))))))∧H 1=(bk 1 46 4 [[(iV (m.i)),(iV (m.s)),(intss m.nx),(intss m.ot)]])∧True) ?_ ?_
   ·
    by_cases g19:((nth ((nth (m.nx) (k))) (j))) < (0:Int)
    ·
     refine G_n (edT g19 rfl) (G_n (edT g19 rfl) (G_n (edT g19 rfl) (R_pickT (edT g19 rfl) rfl ?_)))
     exact ⟨t1,t3,t4,rfl,t42,t43,t67,t68,(dec_orT g19),h1,trivial⟩
    ·
     refine G_yes (edF g19 rfl) (R_mv rfl (G_yes (edF g19 rfl) (R_mv t3 (G_yes (edF g19 rfl) (R_geq rfl rfl (R_pickF (edF g19 rfl) rfl ?_))))))
     exact ⟨t1,t3,t4,rfl,t42,t43,t67,t68,(dec_orF g19),h1,trivial⟩
   intro T H ⟨t1,t3,t4,t7,t42,t43,t67,t68,t93,h1,_⟩
   refine R_mv t93 ?_
   refine Ops_seg 3 (fun T H=>T 1=(V.mp 1 1 0 0)∧T 3=(iV ((m.nx.length:Nat):Int))∧T 4=(iV ((k:Nat):Int))∧T 7=(iV ((nth ((nth (m.ot) (k))) (j))))∧T 42=(iV ((m.nx.length:Nat):Int))∧T 43=(iV ((k:Nat):Int))∧T 67=(iV (m.i))∧T 68=(iV ((j:Nat):Int))∧T 97=(V.bool (decide (((((nth ((nth (m.nx) (k))) (j))) < (0:Int))∨(((m.nx.length:Nat):Int)≤((nth ((nth (m.nx) (k))) (j)))))∨(((nth ((nth (m.ot) (k))) (j))) < (0:Int)))))∧H 1=(bk 1 46 4 [[(iV (m.i)),(iV (m.s)),(intss m.nx),(intss m.ot)]])∧True) ?_ ?_
   ·
    by_cases g20:(((nth ((nth (m.nx) (k))) (j))) < (0:Int))∨(((m.nx.length:Nat):Int)≤((nth ((nth (m.nx) (k))) (j))))
    ·
     refine G_n (edT g20 rfl) (G_n (edT g20 rfl) (R_pickT (edT g20 rfl) rfl ?_))
     exact ⟨t1,t3,t4,t7,t42,t43,t67,t68,(dec_orT g20),h1,trivial⟩
    ·
     refine G_yes (edF g20 rfl) (R_mv t7 (G_yes (edF g20 rfl) (R_lss rfl rfl (R_pickF (edF g20 rfl) rfl ?_))))
     exact ⟨t1,t3,t4,t7,t42,t43,t67,t68,(dec_orF g20),h1,trivial⟩
   intro T H ⟨t1,t3,t4,t7,t42,t43,t67,t68,t97,h1,_⟩
   refine R_mv t97 ?_
   refine Ops_seg 3 (fun T H=>T 1=(V.mp 1 1 0 0)∧T 3=(iV ((m.nx.length:Nat):Int))∧T 4=(iV ((k:Nat):Int))∧T 42=(iV ((m.nx.length:Nat):Int))∧T 43=(iV ((k:Nat):Int))∧T 67=(iV (m.i))∧T 68=(iV ((j:Nat):Int))∧T 101=(V.bool (decide ((((((nth ((nth (m.nx) (k))) (j))) < (0:Int))∨(((m.nx.length:Nat):Int)≤((nth ((nth (m.nx) (k))) (j)))))∨(((nth ((nth (m.ot) (k))) (j))) < (0:Int)))∨((1048576:Int) < ((nth ((nth (m.ot) (k))) (j)))))))∧H 1=(bk 1 46 4 [[(iV (m.i)),(iV (m.s)),(intss m.nx),(intss m.ot)]])∧True) ?_ ?_
   ·
    by_cases g21:((((nth ((nth (m.nx) (k))) (j))) < (0:Int))∨(((m.nx.length:Nat):Int)≤((nth ((nth (m.nx) (k))) (j)))))∨(((nth ((nth (m.ot) (k))) (j))) < (0:Int))
    ·
     refine G_n (edT g21 rfl) (G_n (edT g21 rfl) (R_pickT (edT g21 rfl) rfl ?_))
     exact ⟨t1,t3,t4,t42,t43,t67,t68,(dec_orT g21),h1,trivial⟩
    ·
     refine G_yes (edF g21 rfl) (R_mv t7 (G_yes (edF g21 rfl) (R_gtr rfl rfl (R_pickF (edF g21 rfl) rfl ?_))))
     exact ⟨t1,t3,t4,t42,t43,t67,t68,(dec_orF g21),h1,trivial⟩
   intro T H ⟨t1,t3,t4,t42,t43,t67,t68,t101,h1,_⟩
   refine R_e ?_
   refine W_if t101 (fun c22=>?_) fun c22=>?_
   ·
    refine W_r (R_mv rfl (R_e (W_ret (y18 _ _ (p216 _ _ (y15 _ _ (y12 _ _ ?_)))))))
    refine p210 _ _ (y9 _ _ ?_)
    refine Ret_1 (@rfl V (iV (2:Int))) (fz_int ?_)
    · have e:rowE m k=2:=by
        rw [hr,fe_hit (by unfold celE; split <;> omega) (by omega)]; unfold celE; split <;> omega
      rw [hc,fe_hit (by omega) (by omega),e]
   refine W_skip (n18 _ _ (.done (W_t (R_addN t68 (@rfl V (iV ((1:Nat):Int))) (by omega) (R_mv rfl (R_e ?_))))))
   refine p116 _ _ _ ?_ ⟨(j+1),rfl,t1,t3,t4,t42,t43,t67,(Eq.trans (@rfl V (iV ((j+1:Nat):Int))) (by rfl)),h1,?_,?_,?_⟩
   · omega
   · omega
   · omega
   · rw [hr,fe_skip (by unfold celE; split <;> omega) (by omega)]
  refine W_seq_exit (p316 _ _ _ (x15 _ _ (n12 _ _ (.done (W_t (R_addN t43 (@rfl V (iV ((1:Nat):Int))) (by omega) (R_mv rfl ?_)))))))
  refine R_e ?_
  refine p110 _ _ _ ?_ ⟨(k+1),rfl,t1,t3,t42,(Eq.trans (@rfl V (iV ((k+1:Nat):Int))) (by rfl)),h1,?_,?_,?_⟩
  · omega
  · omega
  · omega
  · rw [hc,fe_skip (by rw [hr,fe_end (by omega)]) (by omega)]
 refine W_seq_exit (p310 _ _ _ (x9 _ _ (.done (W_r (R_mv rfl (R_e (W_ret ?_)))))))
 refine Ret_1 (@rfl V (iV (0:Int))) (fz_int ?_)
 · rw [hc,fe_end (by omega)]
def r119_9:List SO:=[
 qM 34 12,
 qM 35 11,
 sO 36 (.nilck (.t 35)),
 qF 37 4 36,
 ql 38 37,
 qM 6 34,
 qM 7 38,
 qI 8 0]
def s119:SF:=⟨39,[.tmp 6,.tmp 7,.tmp 8],.seq (.reg [sO 3 (.box 46 4 (.t 0)),sO 6 (.mv (.c (.nilsl))),qI 7 0,qI 8 0]) (.seq (.seq (.reg [qL 13 4 3,qM 14 1,sO 15 (.call false 166 [.t 13,.t 14]),qM 9 15]) (.seq (.reg [qM 16 9,qC 17 .neq 16 0]) (.cond (.t 17) (.seq (.reg [qM 18 9,sO 6 (.mv (.c (.nilsl))),qI 7 0,qM 8 18]) (.ret)) (.skip)))) (.seq (.seq (.reg [qM 19 2,qF 20 0 3,ql 21 20,sO 22 (.call false 100 [.t 19,.t 21]),qM 10 22]) (.seq (.reg [qM 23 10,qC 24 .neq 23 0]) (.cond (.t 24) (.seq (.reg [qM 25 10,sO 6 (.mv (.c (.nilsl))),qI 7 0,qM 8 25]) (.ret)) (.skip)))) (.seq (.reg [qL 26 4 3,sO 27 (.build [.int .i64 0,.int .i64 0,.nilsl,.nilsl] [(0,4,.t 26)]),qM 28 1,sO 29 (.build [.int .i64 0,.int .i64 0,.nilsl,.nilsl,.int .i64 0] [(0,4,.t 27),(4,1,.t 28)]),sO 30 (.box 211 5 (.t 29)),qM 11 30]) (.seq (.reg [qM 31 11,qM 32 2,sO 33 (.call true 167 [.t 31,.t 32]),qM 12 33]) (.seq (.reg r119_9) (.ret))))))⟩
theorem s119_ok:slimF Tryz.prog ⟨[107,108,109,116,120,126,127,167,169,170,171,172,194,196,198,209,222,226],[]⟩ Tryz.f119=some s119:=by kernel_rfl
def r166_4:List SO:=[
 qM 11 1,
 qC 12 .lss 11 0,
 qM 13 12,
 ⟨some (13,false),some 14,.mv (.t 1)⟩,
 ⟨some (13,false),some 15,.fld 2 (.t 2)⟩,
 ⟨some (13,false),some 16,.load false 1 (.t 15)⟩,
 ⟨some (13,false),some 17,.len (.t 16)⟩,
 ⟨some (13,false),some 18,.bin .geq (.t 14) (.t 17)⟩,
 sO 19 (.pick (.t 13) (.c (.bool true)) (.t 18))]
def s166:SF:=⟨20,[.tmp 4],.seq (.reg [sO 2 (.box 46 4 (.t 0)),qI 4 0]) (.seq (.seq (.reg [qL 6 4 2,sO 7 (.call false 85 [.t 6]),qM 5 7]) (.seq (.reg [qM 8 5,qC 9 .neq 8 0]) (.cond (.t 9) (.seq (.reg [qM 10 5,qM 4 10]) (.ret)) (.skip)))) (.seq (.seq (.reg r166_4) (.cond (.t 19) (.seq (.reg [qI 4 2]) (.ret)) (.skip))) (.seq (.reg [qI 4 0]) (.ret))))⟩
theorem s166_ok:slimF Tryz.prog ⟨[107,108,109,116,120,126,127,167,169,170,171,172,194,196,198,209,222,226],[]⟩ Tryz.f166=some s166:=by kernel_rfl
theorem state_pure (m:M) (s:Int):PureC Tryz.prog 166 [(V.agg [(iV (m.i)),(iV (m.s)),(intss m.nx),(intss m.ot)]),(iV (s))] (iV (stE m s)):=by
 refine pW Tryz.func166 s166_ok fun hB=>?_
 unfold s166
 dsimp only
 refine W_r (R_box (i:=2) (n:=0) (m:=4) (cs:=[(iV (m.i)),(iV (m.s)),(intss m.nx),(intss m.ot)]) rfl (congrArg Blk.ver rfl) rfl rfl rfl (R_mv rfl (R_e (W_seq_seq (W_r (R_lk rfl rfl rfl rfl (R_callk (mvalid_pure m) rfl ?_)))))))
 refine R_mv rfl (R_e (W_seq_seq (W_r (R_mv rfl (R_neq rfl rfl (R_e ?_))))))
 refine W_seq_if rfl (fun c1=>?_) fun c1=>?_
 ·
  refine W_seq_seq (W_r (R_mv rfl (R_mv rfl (R_e (W_seq_ret ?_)))))
  refine Ret_1 (@rfl V (iV (mval m))) (fz_int ?_)
  · rw [stE,if_pos (by omega)]
 refine W_seq_skip (W_seq_seq (W_r (R_mv rfl (R_lss rfl rfl (R_mv rfl ?_)))))
 refine Ops_seg 6 (fun T H=>T 19=(V.bool (decide (((s) < (0:Int))∨(((m.nx.length:Nat):Int)≤(s)))))∧H 2=(bk 1 46 4 [[(iV (m.i)),(iV (m.s)),(intss m.nx),(intss m.ot)]])∧True) ?_ ?_
 ·
  by_cases g2:(s) < (0:Int)
  ·
   refine G_n (edT g2 rfl) (G_n (edT g2 rfl) (G_n (edT g2 rfl) (G_n (edT g2 rfl) (G_n (edT g2 rfl) (R_pickT (edT g2 rfl) rfl ?_)))))
   exact ⟨(dec_orT g2),rfl,trivial⟩
  ·
   refine G_yes (edF g2 rfl) (R_mv rfl (G_yes (edF g2 rfl) (R_fk rfl rfl (G_yes (edF g2 rfl) (R_lk rfl rfl rfl rfl (G_yes (edF g2 rfl) (R_len rfl ?_)))))))
   refine G_yes (edF g2 rfl) (R_geq rfl rfl (R_pickF (edF g2 rfl) rfl ?_))
   exact ⟨(dec_orF g2),rfl,trivial⟩
 intro T H ⟨t19,h2,_⟩
 refine R_e ?_
 refine W_seq_if t19 (fun c3=>?_) fun c3=>?_
 ·
  refine W_seq_seq (W_r (R_mv rfl (R_e (W_seq_ret ?_))))
  refine Ret_1 (@rfl V (iV (2:Int))) (fz_int ?_)
  · rw [stE,if_neg (by omega),if_pos (by omega)]
 refine W_seq_skip (W_r (R_mv rfl (R_e (W_ret ?_))))
 refine Ret_1 (@rfl V (iV (0:Int))) (fz_int ?_)
 · rw [stE,if_neg (by omega),if_neg (by omega)]
def r167_5:List SO:=[
 qM 17 0,
 sO 18 (.nilck (.t 17)),
 qF 19 0 18,
 qL 20 4 19,
 qM 21 0,
 sO 22 (.nilck (.t 21)),
 qF 23 4 22,
 ql 24 23,
 qM 25 7,
 sO 26 (.call false 193 [.t 20,.t 24,.t 25]),
 qM 16 26,
 qE 27 16 0,
 qE 28 16 1,
 qM 8 27,
 qM 9 28]
def b167_0:SC:=.seq (.reg [qP 13 .lss 12 11]) (.seq (.cond (.t 13) (.skip) (.exit 0)) (.seq (.block 1 (.seq (.reg [qA 14 1 10 12,ql 15 14,qM 7 15]) (.seq (.reg r167_5) (.seq (.reg [qM 29 0,qM 30 8,sO 31 (.nilck (.t 29)),qF 32 4 31,sN (.store 1 (.t 32) (.t 30))]) (.reg [qM 33 5,qM 34 9,sO 35 (.bslice 3 1 false [.int .i64 0] 1 [(0,.t 34)]),sO 36 (.append 3 1 8 (.t 33) (.t 35)),qM 5 36]))))) (.reg [qC 37 .add 12 1,qM 12 37])))
def s167:SF:=⟨39,[.tmp 4],.seq (.reg [sO 4 (.mv (.c (.nilsl)))]) (.seq (.reg [sO 5 (.lazy 3 1)]) (.seq (.seq (.reg [qM 10 1,qN 11 10,qI 12 0]) (.block 0 (.loop b167_0))) (.seq (.reg [qM 38 5,qM 4 38]) (.ret))))⟩
theorem s167_ok:slimF Tryz.prog ⟨[107,108,109,116,120,126,127,167,169,170,171,172,194,196,198,209,222,226],[5]⟩ Tryz.f167=some s167:=by kernel_rfl
def r193_1:List SO:=[
 qF 8 0 3,
 qF 9 2 8,
 ql 10 9,
 qM 11 1,
 qA 12 1 10 11,
 ql 13 12,
 qM 14 2,
 qA 15 1 13 14,
 ql 16 15,
 qF 17 0 3,
 qF 18 3 17,
 ql 19 18,
 qM 20 1,
 qA 21 1 19 20,
 ql 22 21,
 qM 23 2,
 qA 24 1 22 23,
 ql 25 24,
 qM 6 16,
 qM 7 25]
def s193:SF:=⟨26,[.tmp 6,.tmp 7],.seq (.reg [sO 3 (.box 209 4 (.t 0)),qI 6 0,qI 7 0]) (.seq (.reg r193_1) (.ret))⟩
theorem s193_ok:slimF Tryz.prog ⟨[107,108,109,116,120,126,127,167,169,170,171,172,194,196,198,209,222,226],[]⟩ Tryz.f193=some s193:=by kernel_rfl
theorem move_pure (m:M) (s a:Int) (hs:0≤s∧s < m.nx.length∧m.ot.length=m.nx.length) (ha:0≤a∧a < (nth m.nx s.toNat).length∧a < (nth m.ot s.toNat).length):PureC Tryz.prog 193 [(V.agg [(iV (m.i)),(iV (m.s)),(intss m.nx),(intss m.ot)]),(iV (s)),(iV (a))] (V.tup [(iV (cell m.nx s a)),(iV (cell m.ot s a))]):=by
 refine pW Tryz.func193 s193_ok fun hB=>?_
 unfold s193
 dsimp only
 refine W_r (R_box (i:=3) (n:=0) (m:=4) (cs:=[(iV (m.i)),(iV (m.s)),(intss m.nx),(intss m.ot)]) rfl (congrArg Blk.ver rfl) rfl rfl rfl (R_mv rfl (R_mv rfl (R_e (W_r (R_fk rfl rfl (R_fk rfl rfl ?_)))))))
 refine R_lk rfl rfl rfl rfl (R_mv rfl (R_idxI (i:=(s)) (@rfl V (intss m.nx)) (@rfl V (iV (s))) (by omega) (by omega) rfl (R_load_pp rfl rfl (R_mv rfl (R_idxI (i:=(a)) (@rfl V (ints ((nth (m.nx) (s).toNat)))) (@rfl V (iV (a))) (by omega) (by omega) rfl (R_load_pp rfl rfl (R_fk rfl rfl ?_)))))))
 refine R_fk rfl rfl (R_lk rfl rfl rfl rfl (R_mv rfl (R_idxI (i:=(s)) (@rfl V (intss m.ot)) (@rfl V (iV (s))) (by omega) (by omega) rfl (R_load_pp rfl rfl (R_mv rfl (R_idxI (i:=(a)) (@rfl V (ints ((nth (m.ot) (s).toNat)))) (@rfl V (iV (a))) (by omega) (by omega) rfl (R_load_pp rfl rfl ?_)))))))
 refine R_mv rfl (R_mv rfl (R_e (W_ret ?_)))
 refine Ret_2 (@rfl V (iV ((nth ((nth (m.nx) (s).toNat)) (a).toNat)))) (@rfl V (iV ((nth ((nth (m.ot) (s).toNat)) (a).toNat)))) (fz_int ?_) (fz_int ?_)
 · rfl
 · rfl
theorem run_E (m:M) (s:Int) (w:List Int) (v1 v5:Nat) (Hi:Heap) (hb:Hi 30=(bk v1 211 5 [[(iV (m.i)),(iV (m.s)),(intss m.nx),(intss m.ot),(iV (s))]])) (h105:(Hi 105).ver=v5) (hm:mval m=0) (hs:0≤s∧s < m.nx.length) (hl:w.length≤1024) (hw: ∀ k,k < w.length→0≤nth w k∧nth w k < m.i):CallOK Tryz.prog 167 [(V.mp 30 v1 0 0),(ints w)] Hi (ints (outs m s w)) (upd (upd Hi 105 (⟨v5+1+w.length,false,false,0,0,[]⟩:Blk)) 30 (bk v1 211 5 [[(iV (m.i)),(iV (m.s)),(intss m.nx),(intss m.ot),(iV (goal m s w))]])):=by
 refine eW (k0:=100) Tryz.func167 s167_ok fun hB=>?_
 unfold s167
 dsimp only
 refine W_r (R_mv rfl (R_e (W_r (R_lazy (i:=105) (n:=v5) rfl h105 (R_e (W_seq_seq (W_r ?_)))))))
 refine R_mv rfl (R_len rfl (R_mv rfl (R_e (W_seq_blockg fun Q1 n1 x1 y1 z1=>?_))))
 refine W_loop (fun mm T H=> ∃ (k:Nat),mm=w.length - k∧T 0=(V.mp 30 v1 0 0)∧T 5=(V.ms 105 (v5+1+k) 0 (k))∧T 10=(ints w)∧T 11=(iV ((w.length:Nat):Int))∧T 12=(iV ((k:Nat):Int))∧(∀ j,j∉[105,30]→H j=Hi j)∧H 30=(bk v1 211 5 [[(iV (m.i)),(iV (m.s)),(intss m.nx),(intss m.ot),(iV (goal m s (w.take k)))]])∧H 105=(bz (v5+1+k) 3 1 (List.map cI (outs m s (w.take k))))∧(k≤w.length)) ?_ ?_
 ·
  refine ⟨_,0,rfl,rfl,(Eq.trans (@rfl V (V.ms 105 (v5+1) 0 (0))) (by rfl)),rfl,rfl,(Eq.trans (@rfl V (iV (0:Int))) rfl),(upd_out (fun _ _=>rfl) (by decide)),(Eq.trans hb (by rfl)),(Eq.trans (@rfl Blk (bz (v5+1) 3 1 [])) (by rfl)),?_⟩
  · omega
 intro mm T H ⟨k,hmm,t0,t5,t10,t11,t12,hF,h30,h105,hk⟩ Q2 p12 p22 p32
 unfold b167_0
 refine W_r (R_lss t12 t11 (R_e ?_))
 refine W_seq_if rfl (fun c3=>?_) fun c3=>?_
 ·
  have h1:=run_at hm hs hw (k:=k) (by omega)
  refine W_seq_skip (W_seq_blockg fun Q4 n4 x4 y4 z4=>(W_r (R_idx (i:=k) t10 t12 (by omega) rfl (R_load_pp rfl rfl (R_mv rfl (R_e (W_r ?_)))))))
  refine R_mv t0 (R_nilck_mp rfl h30 oB (R_fk rfl h30 (R_lk rfl h30 rfl rfl (R_mv t0 (R_nilck_mp rfl h30 oB (R_fk rfl h30 (R_lk rfl h30 rfl rfl ?_)))))))
  refine R_mv rfl (R_callk (move_pure m ((goal m s (w.take k))) (((nth (w) (k)))) h1.1 h1.2) rfl (R_mv rfl (R_ext rfl rfl (R_ext rfl rfl (R_mv rfl (R_mv rfl (R_e ?_)))))))
  refine W_r (R_mv t0 (R_mv rfl (R_nilck_mp rfl h30 oB (R_fk rfl h30 (R_sk rfl rfl rfl h30 rfl rfl rfl rfl rfl (R_e (W_t ?_)))))))
  refine R_mv t5 (R_mv rfl (R_bslice rfl rfl (R_append1 (l:=(outs m s (w.take k))) (f:=cI) (x:=((cell m.ot ((goal m s (w.take k))) (((nth (w) (k))))))) (@rfl V (V.ms 105 (v5+1+k) 0 (k))) h105 (by (simp only [outs_len,List.length_take]; omega)) (@rfl V (V.sl [[(iV (cell m.ot ((goal m s (w.take k))) (((nth (w) (k))))))]])) rfl rfl (by omega) (by omega) (R_mv rfl (R_e (n4 _ _ (.done ?_)))))))
  refine W_t (R_addN t12 (@rfl V (iV ((1:Nat):Int))) (by omega) (R_mv rfl (R_e ?_)))
  refine p12 _ _ _ ?_ ⟨(k+1),rfl,t0,(Eq.trans (@rfl V (V.ms 105 (v5+1+k+1) 0 (k+1))) (by rfl)),t10,t11,(Eq.trans (@rfl V (iV ((k+1:Nat):Int))) (by rfl)),(upd_out (upd_out hF (by decide)) (by decide)),(Eq.trans (@rfl Blk (bk v1 211 5 [[(iV (m.i)),(iV (m.s)),(intss m.nx),(intss m.ot),(iV (cell m.nx ((goal m s (w.take k))) (((nth (w) (k))))))]])) (by (rw [goal_step m s (by omega)]))),(Eq.trans (@rfl Blk (bz (v5+1+k+1) 3 1 (List.map cI (outs m s (w.take k)++[(cell m.ot ((goal m s (w.take k))) (((nth (w) (k)))))])))) (by (rw [outs_step m s (by omega)]; rfl))),?_⟩
  · omega
  · omega
 refine W_seq_exit (p32 _ _ _ (x1 _ _ (.done (W_r (R_mv t5 (R_mv rfl (R_e ?_)))))))
 refine W_ret (fork_ (R:=fun T H=>T 4=(V.ms 105 (v5+1+k) 0 (k))∧(∀ j,j∉[105,30]→H j=Hi j)∧H 30=(bk v1 211 5 [[(iV (m.i)),(iV (m.s)),(intss m.nx),(intss m.ot),(iV (goal m s (w.take k)))]])∧H 105=(bz (v5+1+k) 3 1 (List.map cI (outs m s (w.take k))))∧True) ⟨(@rfl V (V.ms 105 (v5+1+k) 0 (k))),hF,h30,h105,trivial⟩ ?_)
 intro T H ⟨t4,hF,h30,h105,_⟩
 have fh:=FinX.fin (FinX.put (B:=(bk v1 211 5 [[(iV (m.i)),(iV (m.s)),(intss m.nx),(intss m.ot),(iV (goal m s w))]])) (FinX.putv (n:=(v5+1+k)) (B:=(⟨v5+1+w.length,false,false,0,0,[]⟩:Blk)) (FinX.start hF) (congrArg Blk.ver h105) (by show _≤v5+1+w.length; omega) rfl) h30 (FinB.eq (by (have e:k=w.length:=(by omega); subst e; rw [List.take_length]; done))))
 exact RetF_1 t4 fh (FinV.trans_eq (FinV.frz (rows:=(List.map cI (outs m s (w.take k)))) fh (by simp [h105]) (by simp [h105]) rfl (by rw [h105]; exact take_map (l:=(outs m s (w.take k))) (by (simp only [outs_len,List.length_take]; omega)))) (by (have e:k=w.length:=(by omega); subst e; rw [List.take_length]; done)))
theorem from_pure (m:M) (s:Int) (w:List Int):PureC Tryz.prog 119 [(V.agg [(iV (m.i)),(iV (m.s)),(intss m.nx),(intss m.ot)]),(iV (s)),(ints w)] (V.tup [(ints (frOut m s w)),(iV (frEnd m s w)),(iV (frE m s w))]):=by
 refine pW Tryz.func119 s119_ok fun hB=>?_
 unfold s119
 dsimp only
 refine W_r (R_box (i:=3) (n:=0) (m:=4) (cs:=[(iV (m.i)),(iV (m.s)),(intss m.nx),(intss m.ot)]) rfl (congrArg Blk.ver rfl) rfl rfl rfl (R_mv rfl (R_mv rfl (R_mv rfl (R_e (W_seq_seq (W_r ?_)))))))
 refine R_lk rfl rfl rfl rfl (R_mv rfl (R_callk (state_pure m ((s))) rfl (R_mv rfl (R_e (W_seq_seq (W_r (R_mv rfl ?_)))))))
 refine R_neq rfl rfl (R_e ?_)
 refine W_seq_if rfl (fun c1=>?_) fun c1=>?_
 ·
  refine W_seq_seq (W_r (R_mv rfl (R_mv rfl (R_mv rfl (R_mv rfl (R_e (W_seq_ret ?_)))))))
  refine Ret_3 (@rfl V V.nilsl) (@rfl V (iV (0:Int))) (@rfl V (iV (stE m ((s))))) (fz_nil ?_) (fz_int ?_) (fz_int ?_)
  · rw [frOut,if_pos (by rw [frE,if_pos (by omega)]; omega)]
  · rw [frEnd,if_pos (by rw [frE,if_pos (by omega)]; omega)]
  · rw [frE,if_pos (by omega)]
 have hs:=stE_ok (m:=m) (s:=s) (by omega)
 refine W_seq_skip (W_seq_seq (W_r (R_mv rfl (R_fk rfl rfl (R_lk rfl rfl rfl rfl (R_callk (check_pure w ((m.i))) rfl (R_mv rfl ?_)))))))
 refine R_e (W_seq_seq (W_r (R_mv rfl (R_neq rfl rfl (R_e ?_)))))
 refine W_seq_if rfl (fun c2=>?_) fun c2=>?_
 ·
  refine W_seq_seq (W_r (R_mv rfl (R_mv rfl (R_mv rfl (R_mv rfl (R_e (W_seq_ret ?_)))))))
  refine Ret_3 (@rfl V V.nilsl) (@rfl V (iV (0:Int))) (@rfl V (iV (wchk w ((m.i))))) (fz_nil ?_) (fz_int ?_) (fz_int ?_)
  · rw [frOut,if_pos (by rw [frE,if_neg (by omega)]; omega)]
  · rw [frEnd,if_pos (by rw [frE,if_neg (by omega)]; omega)]
  · rw [frE,if_neg (by omega)]
 have hw:=wchk_ok (w:=w) (n:=m.i) (by omega)
 refine W_seq_skip (W_r (R_lk rfl rfl rfl rfl (R_build rfl rfl (R_mv rfl (R_build rfl rfl (R_box (i:=30) (n:=0) (m:=5) (cs:=[(iV (m.i)),(iV (m.s)),(intss m.nx),(intss m.ot),(iV (s))]) rfl (congrArg Blk.ver rfl) rfl rfl rfl (R_mv rfl ?_)))))))
 refine R_e (W_r (R_mv rfl (R_mv rfl (R_callE (evcons rfl (evcons rfl evnil)) (run_E m s w 1 0 _ rfl (congrArg Blk.ver rfl) hs.1 hs.2 hw.1 hw.2) (R_mv rfl (R_e (W_r ?_)))))))
 refine R_mv rfl (R_mv rfl (R_nilck_mp rfl rfl oB (R_fk rfl rfl (R_lk rfl rfl rfl rfl (R_mv rfl (R_mv rfl (R_mv rfl ?_)))))))
 refine R_e (W_ret ?_)
 refine Ret_3 (@rfl V (ints (outs m s w))) (@rfl V (iV (goal m s w))) (@rfl V (iV (0:Int))) (fz_sl ?_ (fun _=>by simp)) (fz_int ?_) (fz_int ?_)
 · rw [frOut,if_neg (by rw [frE,if_neg (by omega)]; omega)]
 · rw [frEnd,if_neg (by rw [frE,if_neg (by omega)]; omega)]
 · rw [frE,if_neg (by omega)]; omega
theorem hvalid_pure (h:Hy):PureC Tryz.prog 62 [(V.agg [(iV (h.m.i)),(iV (h.m.s)),(intss h.m.nx),(intss h.m.ot),(intss h.acc)])] (iV (hval h)):=by
 refine pW Tryz.func62 s62_ok fun hB=>?_
 unfold s62
 dsimp only
 refine W_r (R_box (i:=1) (n:=0) (m:=5) (cs:=[(iV (h.m.i)),(iV (h.m.s)),(intss h.m.nx),(intss h.m.ot),(intss h.acc)]) rfl (congrArg Blk.ver rfl) rfl rfl rfl (R_mv rfl (R_e (W_seq_seq (W_r (R_fk rfl rfl (R_lk rfl rfl rfl rfl ?_)))))))
 refine R_callk (mvalid_pure h.m) rfl (R_mv rfl (R_e (W_seq_seq (W_r (R_mv rfl (R_neq rfl rfl (R_e ?_)))))))
 refine W_seq_if rfl (fun c1=>?_) fun c1=>?_
 ·
  refine W_seq_seq (W_r (R_mv rfl (R_mv rfl (R_e (W_seq_ret ?_)))))
  refine Ret_1 (@rfl V (iV (mval h.m))) (fz_int ?_)
  · rw [hval,if_pos (by omega)]
 have hm:=mval_ok (m:=h.m) (by omega)
 refine W_seq_skip (W_seq_seq (W_r (R_fk rfl rfl (R_lk rfl rfl rfl rfl (R_len rfl (R_fk rfl rfl (R_fk rfl rfl ?_)))))))
 refine R_lk rfl rfl rfl rfl (R_len rfl (R_neq rfl rfl (R_e ?_)))
 refine W_seq_if rfl (fun c2=>?_) fun c2=>?_
 ·
  refine W_seq_seq (W_r (R_mv rfl (R_e (W_seq_ret ?_))))
  refine Ret_1 (@rfl V (iV (1:Int))) (fz_int ?_)
  · rw [hval,if_neg (by omega),if_pos (by omega)]
 refine W_seq_skip (W_seq_seq (W_r (R_fk rfl rfl (R_lk rfl rfl rfl rfl (R_len rfl (R_mv rfl (R_e ?_)))))))
 refine W_seq_blockg fun Q3 n3 x3 y3 z3=>?_
 refine W_loop (fun mm T H=> ∃ (k:Nat),mm=h.acc.length - k∧T 1=(V.mp 1 1 0 0)∧T 24=(intss h.acc)∧T 25=(iV ((h.acc.length:Nat):Int))∧T 26=(iV ((k:Nat):Int))∧H 1=(bk 1 48 5 [[(iV (h.m.i)),(iV (h.m.s)),(intss h.m.nx),(intss h.m.ot),(intss h.acc)]])∧(k≤h.acc.length)∧(mval h.m=0)∧(h.acc.length=h.m.nx.length)∧(0≤h.m.s∧h.m.s < h.m.nx.length∧h.m.nx.length≤128)∧(fe (accE h) 0 h.acc.length=fe (accE h) k (h.acc.length - k))) ?_ ?_
 ·
  refine ⟨_,0,rfl,rfl,rfl,rfl,(Eq.trans (@rfl V (iV (0:Int))) rfl),rfl,?_,?_,?_,?_,?_⟩
  · omega
  · omega
  · omega
  · omega
  · rfl
 intro mm T H ⟨k,hmm,t1,t24,t25,t26,h1,hk,hv,hl,hs,hc⟩ Q4 p14 p24 p34
 unfold b62_0
 refine W_r (R_lss t26 t25 (R_e ?_))
 refine W_seq_if rfl (fun c5=>?_) fun c5=>?_
 ·
  refine W_seq_skip (W_seq_blockg fun Q6 n6 x6 y6 z6=>(W_r (R_mv t26 (R_idx (i:=k) t24 t26 (by omega) rfl (R_load_pp rfl rfl (R_mv rfl (R_mv rfl ?_)))))))
  refine R_e (W_r (R_fk t1 h1 (R_lk rfl h1 rfl rfl (R_fk t1 h1 (R_fk rfl h1 (R_lk rfl h1 rfl rfl (R_mv rfl ?_)))))))
  refine R_callk (from_pure h.m ((h.m.s)) ((nth (h.acc) (k)))) rfl (R_mv rfl (R_ext rfl rfl (R_ext rfl rfl (R_ext rfl rfl (R_mv rfl (R_mv rfl (R_mv rfl ?_)))))))
  refine R_e (W_seq_seq (W_r (R_mv rfl (R_neq rfl rfl (R_e ?_)))))
  refine W_seq_if rfl (fun c7=>?_) fun c7=>?_
  ·
   refine W_seq_seq (W_r (R_mv rfl (R_mv rfl (R_e (W_seq_ret (y6 _ _ (p24 _ _ ?_)))))))
   refine y3 _ _ ?_
   refine Ret_1 (@rfl V (iV (frE h.m ((h.m.s)) ((nth (h.acc) (k)))))) (fz_int ?_)
   · have e:=accE_of hv k
     rw [if_pos (by omega)] at e
     have e2:fe (accE h) 0 h.acc.length=accE h k:=by rw [hc]; exact fe_hit (by omega) (by omega)
     rw [hval,if_neg (by omega),if_neg (by omega),if_pos (by omega)]; omega
  refine W_seq_skip (W_r (R_mv rfl (R_mv rfl (R_neq rfl rfl (R_e ?_)))))
  refine W_if rfl (fun c8=>?_) fun c8=>?_
  ·
   refine W_r (R_mv rfl (R_e (W_ret (y6 _ _ (p24 _ _ (y3 _ _ ?_))))))
   refine Ret_1 (@rfl V (iV (15:Int))) (fz_int ?_)
   · have e:=accE_of hv k
     rw [if_neg (by omega),if_pos (by omega)] at e
     have e2:fe (accE h) 0 h.acc.length=accE h k:=by rw [hc]; exact fe_hit (by omega) (by omega)
     rw [hval,if_neg (by omega),if_neg (by omega),if_pos (by omega)]; omega
  refine W_skip (n6 _ _ (.done (W_t (R_addN t26 (@rfl V (iV ((1:Nat):Int))) (by omega) (R_mv rfl (R_e ?_))))))
  refine p14 _ _ _ ?_ ⟨(k+1),rfl,t1,t24,t25,(Eq.trans (@rfl V (iV ((k+1:Nat):Int))) (by rfl)),h1,?_,?_,?_,?_,?_⟩
  · omega
  · omega
  · omega
  · omega
  · omega
  · have e:=accE_of hv k
    rw [if_neg (by omega),if_neg (by omega)] at e
    rw [hc]; exact fe_skip e (by omega)
 refine W_seq_exit (p34 _ _ _ (x3 _ _ (.done (W_seq_seq (W_r (R_fk t1 h1 (R_lk rfl h1 rfl rfl ?_)))))))
 refine R_fk t1 h1 (R_fk rfl h1 (R_lk rfl h1 rfl rfl (R_idxI (i:=(h.m.s)) (@rfl V (intss h.acc)) (@rfl V (iV (h.m.s))) (by omega) (by omega) rfl (R_load_pp rfl rfl (R_len rfl (R_neq rfl rfl (R_e ?_)))))))
 refine W_seq_if rfl (fun c9=>?_) fun c9=>?_
 ·
  refine W_seq_seq (W_r (R_mv rfl (R_e (W_seq_ret ?_))))
  refine Ret_1 (@rfl V (iV (10:Int))) (fz_int ?_)
  · have e2:fe (accE h) 0 h.acc.length=0:=by rw [hc,fe_end (by omega)]
    rw [hval,if_neg (by omega),if_neg (by omega),if_neg (by omega),if_pos (by omega)]
 refine W_seq_skip (W_r (R_mv rfl (R_e (W_ret ?_))))
 refine Ret_1 (@rfl V (iV (0:Int))) (fz_int ?_)
 · have e2:fe (accE h) 0 h.acc.length=0:=by rw [hc,fe_end (by omega)]
   rw [hval,if_neg (by omega),if_neg (by omega),if_neg (by omega),if_neg (by omega)]
theorem thyp_pure (l:Ts) (o:Ob) (hb:Bd l.t) (ho:oval o=0) (hx:(exs l).length≤5000):PureC Tryz.prog 18 [(V.agg [(iV (l.i)),(V.sl (List.map cN (l.t.nd)))]),(V.agg [(iV (o.i)),(V.sl (List.map cT (o.tr)))])] (V.tup [(V.agg [(iV ((hyR l o).m.i)),(iV ((hyR l o).m.s)),(intss ((hyR l o).m.nx)),(intss ((hyR l o).m.ot)),(intss ((hyR l o).acc))]),(iV (hyE l o))]):=by
 refine pW Tryz.func18 s18_ok fun hB=>?_
 unfold s18
 dsimp only
 have hal:=acL_len l.t.nd
 have hxn:=xts_len l o
 have hxl:=exs_len l

 refine W_r (R_box (i:=2) (n:=0) (m:=2) (cs:=[(iV (l.i)),(V.sl (List.map cN (l.t.nd)))]) rfl (congrArg Blk.ver rfl) rfl rfl rfl (R_box (i:=3) (n:=0) (m:=2) (cs:=[(iV (o.i)),(V.sl (List.map cT (o.tr)))]) rfl (congrArg Blk.ver rfl) rfl rfl rfl (R_alloc (i:=4) (n:=0) (m:=5) rfl (congrArg Blk.ver rfl) rfl (R_mv rfl (R_e (W_r (R_lk rfl rfl rfl rfl ?_)))))))
 refine R_lk rfl rfl rfl rfl (R_build rfl rfl (R_alloc (i:=6) (n:=0) (m:=4) rfl (congrArg Blk.ver rfl) rfl (R_store (vs:=[(iV (l.i)),(V.sl (List.map cN (l.t.nd))),(iV (o.i)),(V.sl (List.map cT (o.tr)))]) (B':=(bk 1 87 4 [[(iV (l.i)),(V.sl (List.map cN (l.t.nd))),(iV (o.i)),(V.sl (List.map cT (o.tr)))]])) rfl rfl rfl rfl (sB oB rfl rfl rfl rfl rfl) (R_e (W_seq_seq (W_r (R_lk rfl rfl rfl rfl ?_)))))))
 refine R_callk (tcheck_pure l o hb) rfl (R_mv rfl (R_e (W_seq_seq (W_r (R_mv rfl (R_neq rfl rfl (R_e ?_)))))))
 refine W_seq_if rfl (fun c1=>?_) fun c1=>?_
 ·
  have za:=c1
  refine W_seq_seq (W_r (R_build rfl rfl (R_mv rfl (R_store (vs:=[(iV (0:Int)),(iV (0:Int)),V.nilsl,V.nilsl,V.nilsl]) (B':=(bk 1 48 5 [[(iV (0:Int)),(iV (0:Int)),V.nilsl,V.nilsl,V.nilsl]])) rfl rfl rfl rfl (sB oB rfl rfl rfl rfl rfl) (R_mv rfl (R_e (W_seq_ret ?_)))))))
  refine RetC_2 (resV_c (u:=(V.agg [(iV (0:Int)),(iV (0:Int)),V.nilsl,V.nilsl,V.nilsl])) rfl (@rfl Blk (bk 1 48 5 [[(iV (0:Int)),(iV (0:Int)),V.nilsl,V.nilsl,V.nilsl]])) (lB oB rfl rfl)) (resV_t (@rfl V (iV (tsE l o)))) (fz_agg5 (fz_int ?_) (fz_int ?_) (fz_nil ?_) (fz_nil ?_) (fz_nil ?_)) (fz_int ?_)
  · try rw [hyE_1 za]
    try rw [hyR_no (by rw [hyE_1 za]; exact za)]
    try rfl
  · try rw [hyE_1 za]
    try rw [hyR_no (by rw [hyE_1 za]; exact za)]
    try rfl
  · try rw [hyE_1 za]
    try rw [hyR_no (by rw [hyE_1 za]; exact za)]
    try rfl
  · try rw [hyE_1 za]
    try rw [hyR_no (by rw [hyE_1 za]; exact za)]
    try rfl
  · try rw [hyE_1 za]
    try rw [hyR_no (by rw [hyE_1 za]; exact za)]
    try rfl
  · try rw [hyE_1 za]
    try rw [hyR_no (by rw [hyE_1 za]; exact za)]
    try rfl
 have za:=c1
 have ht:=ts_ok (show tsE l o=0 by omega)
 obtain ⟨hi1,hi2,hv,hw0,_,hl0⟩:=tv_ok ht.1
 have hbn:=hb.n
 have hll:=lvs_len hv
 have hlv:lvs l.t=(if dvE l.t=0 then sdW (acL l.t.nd) else []):=rfl
 refine W_seq_skip (W_r (R_lk rfl rfl rfl rfl (R_callk (tsift_pure l o hb ht.1 ho hx) rfl (R_mv rfl (R_ext rfl rfl (R_ext rfl rfl (R_ext rfl rfl ?_)))))))
 refine R_mv rfl (R_mv rfl (R_mv rfl (R_e (W_seq_seq (W_r (R_mv rfl (R_neq rfl rfl ?_)))))))
 refine R_e ?_
 refine W_seq_if rfl (fun c2=>?_) fun c2=>?_
 ·
  have zb:=c2
  refine W_seq_seq (W_r (R_build rfl rfl (R_mv rfl (R_store (vs:=[(iV (0:Int)),(iV (0:Int)),V.nilsl,V.nilsl,V.nilsl]) (B':=(bk 1 48 5 [[(iV (0:Int)),(iV (0:Int)),V.nilsl,V.nilsl,V.nilsl]])) rfl rfl rfl rfl (sB oB rfl rfl rfl rfl rfl) (R_mv rfl (R_e (W_seq_ret ?_)))))))
  refine RetC_2 (resV_c (u:=(V.agg [(iV (0:Int)),(iV (0:Int)),V.nilsl,V.nilsl,V.nilsl])) rfl (@rfl Blk (bk 1 48 5 [[(iV (0:Int)),(iV (0:Int)),V.nilsl,V.nilsl,V.nilsl]])) (lB oB rfl rfl)) (resV_t (@rfl V (iV (sfE l o)))) (fz_agg5 (fz_int ?_) (fz_int ?_) (fz_nil ?_) (fz_nil ?_) (fz_nil ?_)) (fz_int ?_)
  · try rw [hyE_2 za zb]
    try rw [hyR_no (by rw [hyE_2 za zb]; exact zb)]
    try rfl
  · try rw [hyE_2 za zb]
    try rw [hyR_no (by rw [hyE_2 za zb]; exact zb)]
    try rfl
  · try rw [hyE_2 za zb]
    try rw [hyR_no (by rw [hyE_2 za zb]; exact zb)]
    try rfl
  · try rw [hyE_2 za zb]
    try rw [hyR_no (by rw [hyE_2 za zb]; exact zb)]
    try rfl
  · try rw [hyE_2 za zb]
    try rw [hyR_no (by rw [hyE_2 za zb]; exact zb)]
    try rfl
  · try rw [hyE_2 za zb]
    try rw [hyR_no (by rw [hyE_2 za zb]; exact zb)]
    try rfl
 have zb:=c2
 refine W_seq_skip (W_seq_seq (W_r (R_mv rfl (R_len rfl (R_gtr rfl rfl (R_e ?_))))))
 refine W_seq_if rfl (fun c3=>?_) fun c3=>?_
 ·
  have zc:0 < (mxW (qra l o)).length:=by have q:=c3; rw [if_pos (show sfE l o=0 by omega)] at q; omega
  refine W_seq_seq (W_r (R_build rfl rfl (R_store (vs:=[(iV (0:Int)),(iV (0:Int)),V.nilsl,V.nilsl,V.nilsl]) (B':=(bk 1 48 5 [[(iV (0:Int)),(iV (0:Int)),V.nilsl,V.nilsl,V.nilsl]])) rfl rfl rfl rfl (sB oB rfl rfl rfl rfl rfl) (R_mv rfl (R_e (W_seq_ret ?_))))))
  refine RetC_2 (resV_c (u:=(V.agg [(iV (0:Int)),(iV (0:Int)),V.nilsl,V.nilsl,V.nilsl])) rfl (@rfl Blk (bk 1 48 5 [[(iV (0:Int)),(iV (0:Int)),V.nilsl,V.nilsl,V.nilsl]])) (lB oB rfl rfl)) (resV_t (@rfl V (iV (12:Int)))) (fz_agg5 (fz_int ?_) (fz_int ?_) (fz_nil ?_) (fz_nil ?_) (fz_nil ?_)) (fz_int ?_)
  · try rw [hyE_3 za zb zc]
    try rw [hyR_no (by rw [hyE_3 za zb zc]; decide)]
    try rfl
  · try rw [hyE_3 za zb zc]
    try rw [hyR_no (by rw [hyE_3 za zb zc]; decide)]
    try rfl
  · try rw [hyE_3 za zb zc]
    try rw [hyR_no (by rw [hyE_3 za zb zc]; decide)]
    try rfl
  · try rw [hyE_3 za zb zc]
    try rw [hyR_no (by rw [hyE_3 za zb zc]; decide)]
    try rfl
  · try rw [hyE_3 za zb zc]
    try rw [hyR_no (by rw [hyE_3 za zb zc]; decide)]
    try rfl
  · try rw [hyE_3 za zb zc]
    try rw [hyR_no (by rw [hyE_3 za zb zc]; decide)]
    try rfl
 have zc: ¬0 < (mxW (qra l o)).length:=by have q:=c3; rw [if_pos (show sfE l o=0 by omega)] at q; omega
 refine W_seq_skip (W_r (R_fk rfl rfl (R_lk rfl rfl rfl rfl (R_callk (dleaves_pure l.t hb) rfl (R_mv rfl (R_e (W_r ?_)))))))
 refine R_fk rfl rfl (R_lk rfl rfl rfl rfl (R_build rfl rfl (R_mv rfl (R_build rfl rfl (R_alloc (i:=12) (n:=0) (m:=5) rfl (congrArg Blk.ver rfl) rfl (R_store (vs:=[(iV (l.i)),(iV (0:Int)),V.nilsl,V.nilsl,(intss ((if dvE l.t=0 then sdW (acL l.t.nd) else [])))]) (B':=(bk 1 48 5 [[(iV (l.i)),(iV (0:Int)),V.nilsl,V.nilsl,(intss ((if dvE l.t=0 then sdW (acL l.t.nd) else [])))]])) rfl rfl rfl rfl (sB oB rfl rfl rfl rfl rfl) (R_e ?_)))))))
 refine W_seq_seq ?_
 refine W_seq_g (fun T H=>T 2=(V.mp 2 1 0 0)∧T 4=(V.mp 4 1 0 0)∧T 6=(V.mp 6 1 0 0)∧T 8=(V.sl (List.map cXt (if sfE l o=0 then xts l o else [])))∧T 11=(intss ((if dvE l.t=0 then sdW (acL l.t.nd) else [])))∧T 12=(V.mp 12 1 0 0)∧T 51=(iV ((((if dvE l.t=0 then sdW (acL l.t.nd) else [])).length:Nat):Int))∧T 52=(iV (0:Int))∧H 2=(bk 1 26 2 [[(iV (l.i)),(V.sl (List.map cN (l.t.nd)))]])∧H 3=(bk 1 29 2 [[(iV (o.i)),(V.sl (List.map cT (o.tr)))]])∧H 4=(bk 1 48 5 [[(iV (0:Int)),(iV (0:Int)),V.nilsl,V.nilsl,V.nilsl]])∧H 6=(bk 1 87 4 [[(iV (l.i)),(V.sl (List.map cN (l.t.nd))),(iV (o.i)),(V.sl (List.map cT (o.tr)))]])∧H 12=(bk 1 48 5 [[(iV (l.i)),(iV (0:Int)),V.nilsl,V.nilsl,(intss ((if dvE l.t=0 then sdW (acL l.t.nd) else [])))]])∧H 14=(⟨0,false,false,0,0,[]⟩:Blk)∧H 15=(⟨0,false,false,0,0,[]⟩:Blk)∧H 17=(⟨0,false,false,0,0,[]⟩:Blk)∧H 18=(⟨0,false,false,0,0,[]⟩:Blk)∧H 812=(⟨0,false,false,0,0,[]⟩:Blk)∧H 813=(⟨0,false,false,0,0,[]⟩:Blk)∧True) ?_ ?_
 ·
  refine R_mv rfl (R_len rfl (R_mv rfl ?_))
  exact R_nil ⟨rfl,rfl,rfl,rfl,rfl,rfl,rfl,rfl,rfl,rfl,rfl,rfl,rfl,rfl,rfl,rfl,rfl,rfl,rfl,trivial⟩
 intro T H ⟨t2,t4,t6,t8,t11,t12,t51,t52,h2,h3,h4,h6,h12,h14,h15,h17,h18,h812,h813,_⟩
 refine .lazyCell 812 54 1 12 0 2 [(iV (l.i)),(iV (0:Int)),V.nilsl,V.nilsl,(intss ((if dvE l.t=0 then sdW (acL l.t.nd) else [])))] (by decide) (by rw [h12]; rfl) (by rw [h12]; rfl) rfl (fork_ (R:=fun T H=>T 2=(V.mp 2 1 0 0)∧T 4=(V.mp 4 1 0 0)∧T 6=(V.mp 6 1 0 0)∧T 8=(V.sl (List.map cXt (if sfE l o=0 then xts l o else [])))∧T 11=(intss ((if dvE l.t=0 then sdW (acL l.t.nd) else [])))∧T 12=(V.mp 12 1 0 0)∧T 51=(iV ((((if dvE l.t=0 then sdW (acL l.t.nd) else [])).length:Nat):Int))∧T 52=(iV (0:Int))∧H 2=(bk 1 26 2 [[(iV (l.i)),(V.sl (List.map cN (l.t.nd)))]])∧H 3=(bk 1 29 2 [[(iV (o.i)),(V.sl (List.map cT (o.tr)))]])∧H 4=(bk 1 48 5 [[(iV (0:Int)),(iV (0:Int)),V.nilsl,V.nilsl,V.nilsl]])∧H 6=(bk 1 87 4 [[(iV (l.i)),(V.sl (List.map cN (l.t.nd))),(iV (o.i)),(V.sl (List.map cT (o.tr)))]])∧H 12=(bk 1 48 5 [[(iV (l.i)),(iV (0:Int)),(V.ms 812 1 0 (0)),V.nilsl,(intss ((if dvE l.t=0 then sdW (acL l.t.nd) else [])))]])∧H 14=(⟨0,false,false,0,0,[]⟩:Blk)∧H 15=(⟨0,false,false,0,0,[]⟩:Blk)∧H 17=(⟨0,false,false,0,0,[]⟩:Blk)∧H 18=(⟨0,false,false,0,0,[]⟩:Blk)∧H 812=(bz 1 54 1 [])∧H 813=(⟨0,false,false,0,0,[]⟩:Blk)∧True) ⟨t2,t4,t6,t8,t11,t12,t51,t52,((upd_ne _ _ (by decide)).trans ((upd_ne _ _ (by decide)).trans h2)),((upd_ne _ _ (by decide)).trans ((upd_ne _ _ (by decide)).trans h3)),((upd_ne _ _ (by decide)).trans ((upd_ne _ _ (by decide)).trans h4)),((upd_ne _ _ (by decide)).trans ((upd_ne _ _ (by decide)).trans h6)),(by rw [upd_same,h12,(congrArg Blk.ver h812)]; rfl),((upd_ne _ _ (by decide)).trans ((upd_ne _ _ (by decide)).trans h14)),((upd_ne _ _ (by decide)).trans ((upd_ne _ _ (by decide)).trans h15)),((upd_ne _ _ (by decide)).trans ((upd_ne _ _ (by decide)).trans h17)),((upd_ne _ _ (by decide)).trans ((upd_ne _ _ (by decide)).trans h18)),(by rw [upd_ne _ _ (by decide),upd_same,(congrArg Blk.ver h812)]),((upd_ne _ _ (by decide)).trans ((upd_ne _ _ (by decide)).trans h813)),trivial⟩ ?_)
 intro T H ⟨t2,t4,t6,t8,t11,t12,t51,t52,h2,h3,h4,h6,h12,h14,h15,h17,h18,h812,h813,_⟩
 refine .lazyCell 813 54 1 12 0 3 [(iV (l.i)),(iV (0:Int)),(V.ms 812 1 0 (0)),V.nilsl,(intss ((if dvE l.t=0 then sdW (acL l.t.nd) else [])))] (by decide) (by rw [h12]; rfl) (by rw [h12]; rfl) rfl (.done ?_)
 refine fork_ (R:=fun T H=>T 2=(V.mp 2 1 0 0)∧T 4=(V.mp 4 1 0 0)∧T 6=(V.mp 6 1 0 0)∧T 8=(V.sl (List.map cXt (if sfE l o=0 then xts l o else [])))∧T 11=(intss ((if dvE l.t=0 then sdW (acL l.t.nd) else [])))∧T 12=(V.mp 12 1 0 0)∧T 51=(iV ((((if dvE l.t=0 then sdW (acL l.t.nd) else [])).length:Nat):Int))∧T 52=(iV (0:Int))∧H 2=(bk 1 26 2 [[(iV (l.i)),(V.sl (List.map cN (l.t.nd)))]])∧H 3=(bk 1 29 2 [[(iV (o.i)),(V.sl (List.map cT (o.tr)))]])∧H 4=(bk 1 48 5 [[(iV (0:Int)),(iV (0:Int)),V.nilsl,V.nilsl,V.nilsl]])∧H 6=(bk 1 87 4 [[(iV (l.i)),(V.sl (List.map cN (l.t.nd))),(iV (o.i)),(V.sl (List.map cT (o.tr)))]])∧H 12=(bk 1 48 5 [[(iV (l.i)),(iV (0:Int)),(V.ms 812 1 0 (0)),(V.ms 813 1 0 (0)),(intss ((if dvE l.t=0 then sdW (acL l.t.nd) else [])))]])∧H 14=(⟨0,false,false,0,0,[]⟩:Blk)∧H 15=(⟨0,false,false,0,0,[]⟩:Blk)∧H 17=(⟨0,false,false,0,0,[]⟩:Blk)∧H 18=(⟨0,false,false,0,0,[]⟩:Blk)∧H 812=(bz 1 54 1 [])∧H 813=(bz 1 54 1 [])∧True) ⟨t2,t4,t6,t8,t11,t12,t51,t52,((upd_ne _ _ (by decide)).trans ((upd_ne _ _ (by decide)).trans h2)),((upd_ne _ _ (by decide)).trans ((upd_ne _ _ (by decide)).trans h3)),((upd_ne _ _ (by decide)).trans ((upd_ne _ _ (by decide)).trans h4)),((upd_ne _ _ (by decide)).trans ((upd_ne _ _ (by decide)).trans h6)),(by rw [upd_same,h12,(congrArg Blk.ver h813)]; rfl),((upd_ne _ _ (by decide)).trans ((upd_ne _ _ (by decide)).trans h14)),((upd_ne _ _ (by decide)).trans ((upd_ne _ _ (by decide)).trans h15)),((upd_ne _ _ (by decide)).trans ((upd_ne _ _ (by decide)).trans h17)),((upd_ne _ _ (by decide)).trans ((upd_ne _ _ (by decide)).trans h18)),((upd_ne _ _ (by decide)).trans ((upd_ne _ _ (by decide)).trans h812)),(by rw [upd_ne _ _ (by decide),upd_same,(congrArg Blk.ver h813)]),trivial⟩ ?_
 intro T H ⟨t2,t4,t6,t8,t11,t12,t51,t52,h2,h3,h4,h6,h12,h14,h15,h17,h18,h812,h813,_⟩
 refine W_seq_blockg fun Q4 n4 x4 y4 z4=>?_
 refine W_loop (fun mm T H=> ∃ (k:Nat) (v:Nat) (w:Nat) (v14:Nat) (v15:Nat) (v17:Nat) (v18:Nat),mm=(lvs l.t).length - k∧T 2=(V.mp 2 1 0 0)∧T 4=(V.mp 4 1 0 0)∧T 6=(V.mp 6 1 0 0)∧T 8=(V.sl (List.map cXt (xts l o)))∧T 11=(intss (lvs l.t))∧T 12=(V.mp 12 1 0 0)∧T 51=(iV (((lvs l.t).length:Nat):Int))∧T 52=(iV ((k:Nat):Int))∧H 2=(bk 1 26 2 [[(iV (l.i)),(V.sl (List.map cN (l.t.nd)))]])∧H 3=(bk 1 29 2 [[(iV (o.i)),(V.sl (List.map cT (o.tr)))]])∧H 4=(bk 1 48 5 [[(iV (0:Int)),(iV (0:Int)),V.nilsl,V.nilsl,V.nilsl]])∧H 6=(bk 1 87 4 [[(iV (l.i)),(V.sl (List.map cN (l.t.nd))),(iV (o.i)),(V.sl (List.map cT (o.tr)))]])∧H 12=(bk 1 48 5 [[(iV (l.i)),(iV (0:Int)),(V.ms 812 v 0 (k)),(V.ms 813 w 0 (k)),(intss (lvs l.t))]])∧((H 14).ver=v14∧(H 14).live=false)∧((H 15).ver=v15∧(H 15).live=false)∧(H 17).ver=v17∧(H 18).ver=v18∧H 812=(bz v 54 1 (List.map cL (tbl (hyRow (hyN l o) l.i.toNat) k)))∧H 813=(bz w 54 1 (List.map cL (tbl (hyRow (hyO l o) l.i.toNat) k)))∧(k≤(lvs l.t).length)∧(tsN l o=fi (inx l o) (k*l.i.toNat) ((exs l).length - k*l.i.toNat))) ?_ ?_
 ·
  refine ⟨_,0,1,1,0,0,0,0,rfl,t2,t4,t6,(Eq.trans t8 (by (rw [if_pos (show sfE l o=0 by omega)]; done))),(Eq.trans t11 (by rfl)),t12,(Eq.trans t51 (by rfl)),(Eq.trans t52 rfl),h2,h3,h4,h6,(Eq.trans h12 (by rfl)),⟨(congrArg Blk.ver h14),congrArg Blk.live h14⟩,⟨(congrArg Blk.ver h15),congrArg Blk.live h15⟩,(congrArg Blk.ver h17),(congrArg Blk.ver h18),(Eq.trans h812 (by rfl)),(Eq.trans h813 (by rfl)),?_,?_⟩
  · omega
  · simp [tsN]
 intro mm T H ⟨k,v,w,v14,v15,v17,v18,hmm,t2,t4,t6,t8,t11,t12,t51,t52,h2,h3,h4,h6,h12,h14,h15,h17,h18,h812,h813,hk,hc⟩ Q5 p15 p25 p35
 unfold b18_0
 refine W_r (R_lss t52 t51 (R_e ?_))
 refine W_seq_if rfl (fun c6=>?_) fun c6=>?_
 ·
  have hM1:=mulc (show (0:Int)≤l.i by omega) k
  have hM2:=mulc (show (0:Int)≤l.i by omega) (k+1)
  have hM3:(k+1)*l.i.toNat=k*l.i.toNat+l.i.toNat:=Nat.succ_mul _ _
  have hM4:(k+1)*l.i.toNat≤(lvs l.t).length*l.i.toNat:=Nat.mul_le_mul_right _ (by omega)
  refine W_seq_skip (W_seq_blockg fun Q7 n7 x7 y7 z7=>(W_r (R_mv t52 (R_mv rfl (R_e (W_r (R_lazy (i:=14) (n:=v14) rfl (h14).1 ?_)))))))
  refine R_lazy (i:=15) (n:=v15) rfl (h15).1 (R_e (W_seq_seq (W_r (R_mv t8 (R_mv rfl (R_fk t2 h2 (R_lk rfl h2 rfl rfl ?_)))))))
  refine R_mul rfl rfl (by omega) (by omega) (R_mv rfl (R_addN rfl (@rfl V (iV ((1:Nat):Int))) (by omega) (R_fk t2 h2 (R_lk rfl h2 rfl rfl (R_mul rfl rfl (by omega) (by omega) (R_slice_lh (m:=(((((k:Nat):Int)*(l.i))).toNat)) (n:=(((((k+1:Nat):Int)*(l.i))).toNat)) (@rfl V (V.sl (List.map cXt (xts l o)))) (Eq.trans (@rfl V (iV (((k:Nat):Int)*(l.i)))) (iv_toNat (by omega))) (Eq.trans (@rfl V (iV (((k+1:Nat):Int)*(l.i)))) (iv_toNat (by omega))) (by omega) (by omega) (fun _=>rfl) (R_len rfl ?_)))))))
  refine R_mv rfl (R_e (W_seq_blockg fun Q8 n8 x8 y8 z8=>?_))
  refine W_loop (fun mm T H=> ∃ (j:Nat) (v2:Nat) (w2:Nat) (v17:Nat) (v18:Nat),mm=l.i.toNat - j∧T 2=(V.mp 2 1 0 0)∧T 4=(V.mp 4 1 0 0)∧T 6=(V.mp 6 1 0 0)∧T 8=(V.sl (List.map cXt (xts l o)))∧T 11=(intss (lvs l.t))∧T 12=(V.mp 12 1 0 0)∧T 14=(V.ms 14 v2 0 (j))∧T 15=(V.ms 15 w2 0 (j))∧T 51=(iV (((lvs l.t).length:Nat):Int))∧T 52=(iV ((k:Nat):Int))∧T 65=(V.sl (List.map cXt ((List.take ((k+1)*l.i.toNat) (xts l o)).drop (k*l.i.toNat))))∧T 66=(iV ((l.i.toNat:Nat):Int))∧T 67=(iV ((j:Nat):Int))∧H 2=(bk 1 26 2 [[(iV (l.i)),(V.sl (List.map cN (l.t.nd)))]])∧H 3=(bk 1 29 2 [[(iV (o.i)),(V.sl (List.map cT (o.tr)))]])∧H 4=(bk 1 48 5 [[(iV (0:Int)),(iV (0:Int)),V.nilsl,V.nilsl,V.nilsl]])∧H 6=(bk 1 87 4 [[(iV (l.i)),(V.sl (List.map cN (l.t.nd))),(iV (o.i)),(V.sl (List.map cT (o.tr)))]])∧H 12=(bk 1 48 5 [[(iV (l.i)),(iV (0:Int)),(V.ms 812 v 0 (k)),(V.ms 813 w 0 (k)),(intss (lvs l.t))]])∧H 14=(bz v2 3 1 (List.map cI (tbl (fun a=>hyN l o (k*l.i.toNat+a)) j)))∧H 15=(bz w2 3 1 (List.map cI (tbl (fun a=>hyO l o (k*l.i.toNat+a)) j)))∧(H 17).ver=v17∧(H 18).ver=v18∧H 812=(bz v 54 1 (List.map cL (tbl (hyRow (hyN l o) l.i.toNat) k)))∧H 813=(bz w 54 1 (List.map cL (tbl (hyRow (hyO l o) l.i.toNat) k)))∧(j≤l.i.toNat)∧(tsN l o=fi (inx l o) (k*l.i.toNat+j) ((exs l).length - (k*l.i.toNat+j)))) ?_ ?_
  ·
   refine ⟨_,0,(v14+1),(v15+1),v17,v18,rfl,t2,t4,t6,t8,t11,t12,(Eq.trans (@rfl V (V.ms 14 (v14+1) 0 (0))) (by rfl)),(Eq.trans (@rfl V (V.ms 15 (v15+1) 0 (0))) (by rfl)),t51,t52,(Eq.trans (@rfl V (V.sl (List.map cXt ((List.take (((((k+1:Nat):Int)*(l.i))).toNat) (xts l o)).drop (((((k:Nat):Int)*(l.i))).toNat))))) (by (rw [hM1,hM2,Int.toNat_natCast,Int.toNat_natCast]; done))),(Eq.trans (@rfl V (iV ((((List.take (((((k+1:Nat):Int)*(l.i))).toNat) (xts l o)).drop (((((k:Nat):Int)*(l.i))).toNat)).length:Nat):Int))) (by (rw [hM1,hM2,Int.toNat_natCast,Int.toNat_natCast,List.length_drop,List.length_take,hxn,hxl]; congr 1; omega))),(Eq.trans (@rfl V (iV (0:Int))) rfl),h2,h3,h4,h6,h12,(Eq.trans (@rfl Blk (bz (v14+1) 3 1 [])) (by rfl)),(Eq.trans (@rfl Blk (bz (v15+1) 3 1 [])) (by rfl)),h17,h18,h812,h813,?_,?_⟩
   · omega
   · exact hc
  intro mm T H ⟨j,v2,w2,v17,v18,hmm,t2,t4,t6,t8,t11,t12,t14,t15,t51,t52,t65,t66,t67,h2,h3,h4,h6,h12,h14,h15,h17,h18,h812,h813,hj,hc2⟩ Q9 p19 p29 p39
  unfold b18_1
  refine W_r (R_lss t67 t66 (R_e ?_))
  refine W_seq_if rfl (fun c10=>?_) fun c10=>?_
  ·
   have hnd:=st_node za zb zc (show k*l.i.toNat+j < (exs l).length by omega)
   have hkn:=qra_known zc (show k*l.i.toNat+j < (exs l).length by omega)
   have r1:=exs_word ht.1 (nth_mem (show k*l.i.toNat+j < (exs l).length by omega))
   have d9:nth ((List.take ((k+1)*l.i.toNat) (xts l o)).drop (k*l.i.toNat)) j=⟨nth (exs l) (k*l.i.toNat+j),(sftR l.t o (nth (exs l) (k*l.i.toNat+j))).1⟩:=by rw [nth_dropn,nth_take (by omega)]; exact xts_nth (by omega)
   have d10:=hyO_one ho r1.2.1 hkn
   refine W_seq_skip (W_seq_blockg fun Q11 n11 x11 y11 z11=>(W_r (R_idx (i:=j) t65 t67 (by (simp; omega)) rfl (R_load_pp rfl rfl (R_alloc (i:=17) (n:=v17) (m:=2) rfl h17 rfl (R_store (vs:=[(ints (((nth ((List.take ((k+1)*l.i.toNat) (xts l o)).drop (k*l.i.toNat)) (j))).w)),(iV (((nth ((List.take ((k+1)*l.i.toNat) (xts l o)).drop (k*l.i.toNat)) (j))).n))]) (B':=(bk (v17+1) 93 2 [[(ints (((nth ((List.take ((k+1)*l.i.toNat) (xts l o)).drop (k*l.i.toNat)) (j))).w)),(iV (((nth ((List.take ((k+1)*l.i.toNat) (xts l o)).drop (k*l.i.toNat)) (j))).n))]])) rfl rfl rfl rfl (sB oB rfl rfl rfl rfl rfl) (R_e ?_)))))))
   refine W_seq_seq (W_r (R_lk t6 h6 rfl rfl (R_fk rfl rfl (R_lk rfl rfl rfl rfl (R_callk (tleaf_pure l o ((((nth ((List.take ((k+1)*l.i.toNat) (xts l o)).drop (k*l.i.toNat)) (j))).n)) (by simp only [d9]; exact hnd.2.1) (by simp only [d9]; exact hnd.2.2.1)) rfl (R_notb rfl (R_e ?_)))))))
   refine W_seq_ifb rfl (fun c12=>?_) (fun c12=>?_)
   ·
    have d0:(nth l.t.nd (sftR l.t o (nth (exs l) (k*l.i.toNat+j))).1.toNat).lf=false:=by have q:=c12; rw [d9] at q; simpa using q
    have d1:inx l o (k*l.i.toNat+j)=true:=by unfold inx; simpa using d0
    have zd:0≤tsN l o:=by rw [hc2,fi_hit (p:=inx l o) d1 (by omega)]; omega
    refine W_seq_seq (W_r (R_build rfl rfl (R_store (vs:=[(iV (0:Int)),(iV (0:Int)),V.nilsl,V.nilsl,V.nilsl]) (B':=(bk 1 48 5 [[(iV (0:Int)),(iV (0:Int)),V.nilsl,V.nilsl,V.nilsl]])) t4 rfl rfl h4 (sB oB rfl rfl rfl rfl rfl) (R_mv rfl (R_e (W_seq_ret (y11 _ _ ?_)))))))
    refine p29 _ _ (y8 _ _ (y7 _ _ (p25 _ _ (y4 _ _ ?_))))
    refine RetC_2 (resV_c (u:=(V.agg [(iV (0:Int)),(iV (0:Int)),V.nilsl,V.nilsl,V.nilsl])) t4 (@rfl Blk (bk 1 48 5 [[(iV (0:Int)),(iV (0:Int)),V.nilsl,V.nilsl,V.nilsl]])) (lB oB rfl rfl)) (resV_t (@rfl V (iV (10:Int)))) (fz_agg5 (fz_int ?_) (fz_int ?_) (fz_nil ?_) (fz_nil ?_) (fz_nil ?_)) (fz_int ?_)
    · try rw [hyE_4 za zb zc zd]
      try rw [hyR_no (by rw [hyE_4 za zb zc zd]; decide)]
      try rfl
    · try rw [hyE_4 za zb zc zd]
      try rw [hyR_no (by rw [hyE_4 za zb zc zd]; decide)]
      try rfl
    · try rw [hyE_4 za zb zc zd]
      try rw [hyR_no (by rw [hyE_4 za zb zc zd]; decide)]
      try rfl
    · try rw [hyE_4 za zb zc zd]
      try rw [hyR_no (by rw [hyE_4 za zb zc zd]; decide)]
      try rfl
    · try rw [hyE_4 za zb zc zd]
      try rw [hyR_no (by rw [hyE_4 za zb zc zd]; decide)]
      try rfl
    · try rw [hyE_4 za zb zc zd]
      try rw [hyR_no (by rw [hyE_4 za zb zc zd]; decide)]
      try rfl
   have d1:inx l o (k*l.i.toNat+j)=false:=by have q:=c12; rw [d9] at q; unfold inx; simpa using q
   refine W_seq_skip (W_r (R_fk t2 h2 (R_fk rfl h2 (R_lk rfl h2 rfl rfl (R_fk rfl rfl (R_lk rfl rfl rfl rfl (R_idxI (i:=(((nth ((List.take ((k+1)*l.i.toNat) (xts l o)).drop (k*l.i.toNat)) (j))).n)) (@rfl V (V.sl (List.map cN (l.t.nd)))) (@rfl V (iV (((nth ((List.take ((k+1)*l.i.toNat) (xts l o)).drop (k*l.i.toNat)) (j))).n))) (by (simp only [d9]; omega)) (by (simp only [d9]; omega)) rfl ?_)))))))
   refine R_fld_pp (cs':=(List.drop 1 (cN (((nth (l.t.nd) (((nth ((List.take ((k+1)*l.i.toNat) (xts l o)).drop (k*l.i.toNat)) (j))).n).toNat)))))) rfl rfl (R_load_pp rfl rfl (R_alloc (i:=18) (n:=v18) (m:=1) rfl h18 rfl (R_store (vs:=[(ints (((nth (l.t.nd) (((nth ((List.take ((k+1)*l.i.toNat) (xts l o)).drop (k*l.i.toNat)) (j))).n).toNat)).ac))]) (B':=(bk (v18+1) 54 1 [[(ints (((nth (l.t.nd) (((nth ((List.take ((k+1)*l.i.toNat) (xts l o)).drop (k*l.i.toNat)) (j))).n).toNat)).ac))]])) rfl rfl rfl rfl (sB oB rfl rfl rfl rfl rfl) (R_e (W_r (R_mv t14 (R_mv t11 ?_)))))))
   refine R_mkf (evcons rfl evnil) (R_call (evcons (@rfl V (intss (lvs l.t))) (evcons (@rfl V (V.fn 60 [] [(V.mp 18 (v18+1) 0 0)])) evnil)) (idxw_pure (fun v=>decide (v=hyA l o (k*l.i.toNat+j))) (lvs l.t) 60 ([(V.pp [(ints (((nth (l.t.nd) (((nth ((List.take ((k+1)*l.i.toNat) (xts l o)).drop (k*l.i.toNat)) (j))).n).toNat)).ac))])]) (by simp) (by simp) (fun i _=>by have q:=thyp1_pure (nth (lvs l.t) i) (hyA l o (k*l.i.toNat+j)); unfold hyA at q ⊢; simpa only [d9] using q)) (mcons (fzv_canon 6 _ (by simp [-List.map_take,-List.map_drop,-List.map_append,-List.map_reverse])) (mcons (by simp [fzv,Blk.own,h2,h3,h4,h6,h12,h14,h15,h812,h813]) rfl)) (by simp [-List.map_take,-List.map_drop,-List.map_append,-List.map_reverse]) (Or.inr rfl) (R_bslice rfl rfl (R_append1 (l:=(tbl (fun a=>hyN l o (k*l.i.toNat+a)) j)) (f:=cI) (x:=((fi (fun jx=>(fun v=>decide (v=hyA l o (k*l.i.toNat+j))) (nth (lvs l.t) jx)) 0 (lvs l.t).length))) (@rfl V (V.ms 14 v2 0 (j))) h14 (by exact (tbl_len _ _).symm) (@rfl V (V.sl [[(iV (fi (fun jx=>(fun v=>decide (v=hyA l o (k*l.i.toNat+j))) (nth (lvs l.t) jx)) 0 (lvs l.t).length))]])) rfl rfl (by omega) (by omega) (R_mv rfl (R_e ?_)))))
   refine W_regc (fun T H=>T 2=(V.mp 2 1 0 0)∧T 4=(V.mp 4 1 0 0)∧T 6=(V.mp 6 1 0 0)∧T 8=(V.sl (List.map cXt (xts l o)))∧T 11=(intss (lvs l.t))∧T 12=(V.mp 12 1 0 0)∧T 14=(V.ms 14 (v2+1) 0 (j+1))∧T 15=(V.ms 15 (w2+1) 0 (j+1))∧T 51=(iV (((lvs l.t).length:Nat):Int))∧T 52=(iV ((k:Nat):Int))∧T 65=(V.sl (List.map cXt ((List.take ((k+1)*l.i.toNat) (xts l o)).drop (k*l.i.toNat))))∧T 66=(iV ((l.i.toNat:Nat):Int))∧T 67=(iV ((j:Nat):Int))∧H 2=(bk 1 26 2 [[(iV (l.i)),(V.sl (List.map cN (l.t.nd)))]])∧H 3=(bk 1 29 2 [[(iV (o.i)),(V.sl (List.map cT (o.tr)))]])∧H 4=(bk 1 48 5 [[(iV (0:Int)),(iV (0:Int)),V.nilsl,V.nilsl,V.nilsl]])∧H 6=(bk 1 87 4 [[(iV (l.i)),(V.sl (List.map cN (l.t.nd))),(iV (o.i)),(V.sl (List.map cT (o.tr)))]])∧H 12=(bk 1 48 5 [[(iV (l.i)),(iV (0:Int)),(V.ms 812 v 0 (k)),(V.ms 813 w 0 (k)),(intss (lvs l.t))]])∧H 14=(bz (v2+1) 3 1 (List.map cI (tbl (fun a=>hyN l o (k*l.i.toNat+a)) j++[(fi (fun jx=>(fun v=>decide (v=hyA l o (k*l.i.toNat+j))) (nth (lvs l.t) jx)) 0 (lvs l.t).length)])))∧H 15=(bz (w2+1) 3 1 (List.map cI (tbl (fun a=>hyO l o (k*l.i.toNat+a)) j++[(hyO l o (k*l.i.toNat+j))])))∧H 17=(bk (v17+1) 93 2 [[(ints (((nth ((List.take ((k+1)*l.i.toNat) (xts l o)).drop (k*l.i.toNat)) (j))).w)),(iV (((nth ((List.take ((k+1)*l.i.toNat) (xts l o)).drop (k*l.i.toNat)) (j))).n))]])∧H 18=(bk (v18+1) 54 1 [[(ints (((nth (l.t.nd) (((nth ((List.take ((k+1)*l.i.toNat) (xts l o)).drop (k*l.i.toNat)) (j))).n).toNat)).ac))]])∧H 812=(bz v 54 1 (List.map cL (tbl (hyRow (hyN l o) l.i.toNat) k)))∧H 813=(bz w 54 1 (List.map cL (tbl (hyRow (hyO l o) l.i.toNat) k)))∧True) ?_ ?_
   ·
    refine R_mv t15 (R_lk t6 h6 rfl rfl (R_fk rfl rfl (R_lk rfl rfl rfl rfl (R_fk rfl rfl (R_lk rfl rfl rfl rfl (R_len rfl (R_sub rfl rfl (by omega) (by (simp only [d9]; omega)) ?_)))))))
    refine R_slice_hi (n:=((((((((nth ((List.take ((k+1)*l.i.toNat) (xts l o)).drop (k*l.i.toNat)) (j))).w).length:Nat):Int) - (1:Int))).toNat)) (@rfl V (ints (((nth ((List.take ((k+1)*l.i.toNat) (xts l o)).drop (k*l.i.toNat)) (j))).w))) (Eq.trans (@rfl V (iV ((((((nth ((List.take ((k+1)*l.i.toNat) (xts l o)).drop (k*l.i.toNat)) (j))).w).length:Nat):Int) - (1:Int)))) (iv_toNat (by (simp only [d9]; omega)))) (by omega) (fun _=>rfl) (R_fk rfl rfl (R_lk rfl rfl rfl rfl (R_fk rfl rfl (R_lk rfl rfl rfl rfl (R_len rfl (R_sub rfl rfl (by omega) (by (simp only [d9]; omega)) (R_slice_lo (n:=((((((((nth ((List.take ((k+1)*l.i.toNat) (xts l o)).drop (k*l.i.toNat)) (j))).w).length:Nat):Int) - (1:Int))).toNat)) (@rfl V (ints (((nth ((List.take ((k+1)*l.i.toNat) (xts l o)).drop (k*l.i.toNat)) (j))).w))) (Eq.trans (@rfl V (iV ((((((nth ((List.take ((k+1)*l.i.toNat) (xts l o)).drop (k*l.i.toNat)) (j))).w).length:Nat):Int) - (1:Int)))) (iv_toNat (by (simp only [d9]; omega)))) (by omega) (fun _=>rfl) ?_)))))))
    refine R_callc (evcons rfl (evcons rfl (evcons rfl evnil))) ((show PureC Tryz.prog 49 [(V.agg [(iV (l.i)),(V.sl (List.map cN (l.t.nd))),(iV (o.i)),(V.sl (List.map cT (o.tr)))]),(ints (List.take ((((((((nth ((List.take ((k+1)*l.i.toNat) (xts l o)).drop (k*l.i.toNat)) (j))).w).length:Nat):Int) - (1:Int))).toNat) (((nth ((List.take ((k+1)*l.i.toNat) (xts l o)).drop (k*l.i.toNat)) (j))).w))),(ints (List.drop ((((((((nth ((List.take ((k+1)*l.i.toNat) (xts l o)).drop (k*l.i.toNat)) (j))).w).length:Nat):Int) - (1:Int))).toNat) (((nth ((List.take ((k+1)*l.i.toNat) (xts l o)).drop (k*l.i.toNat)) (j))).w)))] (V.sl [[iV (hyO l o (k*l.i.toNat+j))]]) from by simp only [d9]; rw [show (((nth (exs l) (k*l.i.toNat+j)).length:Int) - 1).toNat=(nth (exs l) (k*l.i.toNat+j)).length - 1 by omega]; have q:=touts_pure l o (exI l (k*l.i.toNat+j)) (exL l (k*l.i.toNat+j)) ho (by unfold exI; rw [List.length_take]; omega) (by unfold exL; rw [List.length_drop]; omega) (by rw [ex_cat]; exact hkn); rw [d10] at q; exact q)) (R_append1 (l:=(tbl (fun a=>hyO l o (k*l.i.toNat+a)) j)) (f:=cI) (x:=((hyO l o (k*l.i.toNat+j)))) (@rfl V (V.ms 15 w2 0 (j))) h15 (by exact (tbl_len _ _).symm) (@rfl V (V.sl [[(iV (hyO l o (k*l.i.toNat+j)))]])) rfl rfl (by omega) (by omega) (R_mv rfl ?_))
    exact R_nil ⟨t2,t4,t6,t8,t11,t12,rfl,rfl,t51,t52,t65,t66,t67,h2,h3,h4,h6,h12,rfl,rfl,rfl,rfl,h812,h813,trivial⟩
   intro T H ⟨t2,t4,t6,t8,t11,t12,t14,t15,t51,t52,t65,t66,t67,h2,h3,h4,h6,h12,h14,h15,h17,h18,h812,h813,_⟩
   refine n11 _ _ (.done (W_t (R_addN t67 (@rfl V (iV ((1:Nat):Int))) (by omega) (R_mv rfl (R_e ?_)))))
   refine p19 _ _ _ ?_ ⟨(j+1),(v2+1),(w2+1),(v17+1),(v18+1),rfl,t2,t4,t6,t8,t11,t12,(Eq.trans t14 (by rfl)),(Eq.trans t15 (by rfl)),t51,t52,t65,t66,(Eq.trans (@rfl V (iV ((j+1:Nat):Int))) (by rfl)),h2,h3,h4,h6,h12,(Eq.trans h14 (by (rw [tbl_succ]; first|done|rfl))),(Eq.trans h15 (by (rw [tbl_succ]; first|done|rfl))),(congrArg Blk.ver h17),(congrArg Blk.ver h18),h812,h813,?_,?_⟩
   · omega
   · omega
   · rw [hc2,fi_skip (p:=inx l o) d1 (by omega)]; rfl
  refine W_seq_exit (p39 _ _ _ (x8 _ _ (fork_ (R:=fun T H=>T 2=(V.mp 2 1 0 0)∧T 4=(V.mp 4 1 0 0)∧T 6=(V.mp 6 1 0 0)∧T 8=(V.sl (List.map cXt (xts l o)))∧T 11=(intss (lvs l.t))∧T 12=(V.mp 12 1 0 0)∧T 14=(V.ms 14 v2 0 (j))∧T 15=(V.ms 15 w2 0 (j))∧T 51=(iV (((lvs l.t).length:Nat):Int))∧T 52=(iV ((k:Nat):Int))∧T 65=(V.sl (List.map cXt ((List.take ((k+1)*l.i.toNat) (xts l o)).drop (k*l.i.toNat))))∧T 66=(iV ((l.i.toNat:Nat):Int))∧T 67=(iV ((j:Nat):Int))∧T 68=(V.bool (decide (((j:Nat):Int) < ((l.i.toNat:Nat):Int))))∧H 2=(bk 1 26 2 [[(iV (l.i)),(V.sl (List.map cN (l.t.nd)))]])∧H 3=(bk 1 29 2 [[(iV (o.i)),(V.sl (List.map cT (o.tr)))]])∧H 4=(bk 1 48 5 [[(iV (0:Int)),(iV (0:Int)),V.nilsl,V.nilsl,V.nilsl]])∧H 6=(bk 1 87 4 [[(iV (l.i)),(V.sl (List.map cN (l.t.nd))),(iV (o.i)),(V.sl (List.map cT (o.tr)))]])∧H 12=(bk 1 48 5 [[(iV (l.i)),(iV (0:Int)),(V.ms 812 v 0 (k)),(V.ms 813 w 0 (k)),(intss (lvs l.t))]])∧H 14=(bz v2 3 1 (List.map cI (tbl (fun a=>hyN l o (k*l.i.toNat+a)) j)))∧H 15=(bz w2 3 1 (List.map cI (tbl (fun a=>hyO l o (k*l.i.toNat+a)) j)))∧(H 17).ver=v17∧(H 18).ver=v18∧H 812=(bz v 54 1 (List.map cL (tbl (hyRow (hyN l o) l.i.toNat) k)))∧H 813=(bz w 54 1 (List.map cL (tbl (hyRow (hyO l o) l.i.toNat) k)))∧True) ⟨t2,t4,t6,t8,t11,t12,t14,t15,t51,t52,t65,t66,t67,(@rfl V (V.bool (decide (((j:Nat):Int) < ((l.i.toNat:Nat):Int))))),h2,h3,h4,h6,h12,h14,h15,h17,h18,h812,h813,trivial⟩ ?_)))
  intro T H ⟨t2,t4,t6,t8,t11,t12,t14,t15,t51,t52,t65,t66,t67,t68,h2,h3,h4,h6,h12,h14,h15,h17,h18,h812,h813,_⟩
  refine .freeze 14 (.done ?_)
  refine fork_ (R:=fun T H=>T 2=(V.mp 2 1 0 0)∧T 4=(V.mp 4 1 0 0)∧T 6=(V.mp 6 1 0 0)∧T 8=(V.sl (List.map cXt (xts l o)))∧T 11=(intss (lvs l.t))∧T 12=(V.mp 12 1 0 0)∧T 14=(ints (tbl (fun a=>hyN l o (k*l.i.toNat+a)) j))∧T 15=(V.ms 15 w2 0 (j))∧T 51=(iV (((lvs l.t).length:Nat):Int))∧T 52=(iV ((k:Nat):Int))∧T 65=(V.sl (List.map cXt ((List.take ((k+1)*l.i.toNat) (xts l o)).drop (k*l.i.toNat))))∧T 66=(iV ((l.i.toNat:Nat):Int))∧T 67=(iV ((j:Nat):Int))∧T 68=(V.bool (decide (((j:Nat):Int) < ((l.i.toNat:Nat):Int))))∧H 2=(bk 1 26 2 [[(iV (l.i)),(V.sl (List.map cN (l.t.nd)))]])∧H 3=(bk 1 29 2 [[(iV (o.i)),(V.sl (List.map cT (o.tr)))]])∧H 4=(bk 1 48 5 [[(iV (0:Int)),(iV (0:Int)),V.nilsl,V.nilsl,V.nilsl]])∧H 6=(bk 1 87 4 [[(iV (l.i)),(V.sl (List.map cN (l.t.nd))),(iV (o.i)),(V.sl (List.map cT (o.tr)))]])∧H 12=(bk 1 48 5 [[(iV (l.i)),(iV (0:Int)),(V.ms 812 v 0 (k)),(V.ms 813 w 0 (k)),(intss (lvs l.t))]])∧((H 14).ver=v2∧(H 14).live=false)∧H 15=(bz w2 3 1 (List.map cI (tbl (fun a=>hyO l o (k*l.i.toNat+a)) j)))∧(H 17).ver=v17∧(H 18).ver=v18∧H 812=(bz v 54 1 (List.map cL (tbl (hyRow (hyN l o) l.i.toNat) k)))∧H 813=(bz w 54 1 (List.map cL (tbl (hyRow (hyO l o) l.i.toNat) k)))∧True) ⟨(fzT_q t2 rfl),(fzT_q t4 rfl),(fzT_q t6 rfl),(fzT_q t8 rfl),(fzT_q t11 rfl),(fzT_q t12 rfl),(fzT_q t14 (fzq_own h14 (by simp) (l:=(tbl (fun a=>hyN l o (k*l.i.toNat+a)) j)) rfl (by exact (tbl_len _ _).symm))),(fzT_q t15 (fzq_other (by decide))),(fzT_q t51 rfl),(fzT_q t52 rfl),(fzT_q t65 rfl),(fzT_q t66 rfl),(fzT_q t67 rfl),(fzT_q t68 rfl),(kill_ne h2 (by decide)),(kill_ne h3 (by decide)),(kill_ne h4 (by decide)),(kill_ne h6 (by decide)),(kill_ne h12 (by decide)),(kill_self (congrArg Blk.ver h14)),(kill_ne h15 (by decide)),(kill_ver h17),(kill_ver h18),(kill_ne h812 (by decide)),(kill_ne h813 (by decide)),trivial⟩ ?_
  intro T H ⟨t2,t4,t6,t8,t11,t12,t14,t15,t51,t52,t65,t66,t67,t68,h2,h3,h4,h6,h12,h14,h15,h17,h18,h812,h813,_⟩
  refine W_seq_g (fun T H=>T 2=(V.mp 2 1 0 0)∧T 4=(V.mp 4 1 0 0)∧T 6=(V.mp 6 1 0 0)∧T 8=(V.sl (List.map cXt (xts l o)))∧T 11=(intss (lvs l.t))∧T 12=(V.mp 12 1 0 0)∧T 15=(V.ms 15 w2 0 (j))∧T 51=(iV (((lvs l.t).length:Nat):Int))∧T 52=(iV ((k:Nat):Int))∧H 2=(bk 1 26 2 [[(iV (l.i)),(V.sl (List.map cN (l.t.nd)))]])∧H 3=(bk 1 29 2 [[(iV (o.i)),(V.sl (List.map cT (o.tr)))]])∧H 4=(bk 1 48 5 [[(iV (0:Int)),(iV (0:Int)),V.nilsl,V.nilsl,V.nilsl]])∧H 6=(bk 1 87 4 [[(iV (l.i)),(V.sl (List.map cN (l.t.nd))),(iV (o.i)),(V.sl (List.map cT (o.tr)))]])∧H 12=(bk 1 48 5 [[(iV (l.i)),(iV (0:Int)),(V.ms 812 (v+1) 0 (k+1)),(V.ms 813 w 0 (k)),(intss (lvs l.t))]])∧((H 14).ver=v2∧(H 14).live=false)∧H 15=(bz w2 3 1 (List.map cI (tbl (fun a=>hyO l o (k*l.i.toNat+a)) j)))∧(H 17).ver=v17∧(H 18).ver=v18∧H 812=(bz (v+1) 54 1 (List.map cL (tbl (hyRow (hyN l o) l.i.toNat) k++[tbl (fun a=>hyN l o (k*l.i.toNat+a)) j])))∧H 813=(bz w 54 1 (List.map cL (tbl (hyRow (hyO l o) l.i.toNat) k)))∧True) ?_ ?_
  ·
   refine R_fk t12 h12 (R_fk rfl h12 (R_lk rfl h12 rfl rfl (R_mv t14 (R_bslice rfl rfl (R_append1 (l:=(tbl (hyRow (hyN l o) l.i.toNat) k)) (f:=cL) (x:=(tbl (fun a=>hyN l o (k*l.i.toNat+a)) j)) (@rfl V (V.ms 812 v 0 (k))) h812 (by exact (tbl_len _ _).symm) (@rfl V (V.sl [[(ints (tbl (fun a=>hyN l o (k*l.i.toNat+a)) j))]])) rfl rfl (by omega) (by omega) (R_fk t12 h12 (R_fk rfl h12 ?_)))))))
   refine R_store (vs:=[(V.ms 812 (v+1) 0 (k+1))]) (B':=(bk 1 48 5 [[(iV (l.i)),(iV (0:Int)),(V.ms 812 (v+1) 0 (k+1)),(V.ms 813 w 0 (k)),(intss (lvs l.t))]])) rfl rfl rfl h12 (sB oB rfl rfl rfl rfl rfl) ?_
   exact R_nil ⟨t2,t4,t6,t8,t11,t12,t15,t51,t52,h2,h3,h4,h6,rfl,h14,h15,h17,h18,rfl,h813,trivial⟩
  intro T H ⟨t2,t4,t6,t8,t11,t12,t15,t51,t52,h2,h3,h4,h6,h12,h14,h15,h17,h18,h812,h813,_⟩
  refine .freeze 15 (.done ?_)
  refine fork_ (R:=fun T H=>T 2=(V.mp 2 1 0 0)∧T 4=(V.mp 4 1 0 0)∧T 6=(V.mp 6 1 0 0)∧T 8=(V.sl (List.map cXt (xts l o)))∧T 11=(intss (lvs l.t))∧T 12=(V.mp 12 1 0 0)∧T 15=(ints (tbl (fun a=>hyO l o (k*l.i.toNat+a)) j))∧T 51=(iV (((lvs l.t).length:Nat):Int))∧T 52=(iV ((k:Nat):Int))∧H 2=(bk 1 26 2 [[(iV (l.i)),(V.sl (List.map cN (l.t.nd)))]])∧H 3=(bk 1 29 2 [[(iV (o.i)),(V.sl (List.map cT (o.tr)))]])∧H 4=(bk 1 48 5 [[(iV (0:Int)),(iV (0:Int)),V.nilsl,V.nilsl,V.nilsl]])∧H 6=(bk 1 87 4 [[(iV (l.i)),(V.sl (List.map cN (l.t.nd))),(iV (o.i)),(V.sl (List.map cT (o.tr)))]])∧H 12=(bk 1 48 5 [[(iV (l.i)),(iV (0:Int)),(V.ms 812 (v+1) 0 (k+1)),(V.ms 813 w 0 (k)),(intss (lvs l.t))]])∧((H 14).ver=v2∧(H 14).live=false)∧((H 15).ver=w2∧(H 15).live=false)∧(H 17).ver=v17∧(H 18).ver=v18∧H 812=(bz (v+1) 54 1 (List.map cL (tbl (hyRow (hyN l o) l.i.toNat) k++[tbl (fun a=>hyN l o (k*l.i.toNat+a)) j])))∧H 813=(bz w 54 1 (List.map cL (tbl (hyRow (hyO l o) l.i.toNat) k)))∧True) ⟨(fzT_q t2 rfl),(fzT_q t4 rfl),(fzT_q t6 rfl),(fzT_q t8 rfl),(fzT_q t11 rfl),(fzT_q t12 rfl),(fzT_q t15 (fzq_own h15 (by simp) (l:=(tbl (fun a=>hyO l o (k*l.i.toNat+a)) j)) rfl (by exact (tbl_len _ _).symm))),(fzT_q t51 rfl),(fzT_q t52 rfl),(kill_ne h2 (by decide)),(kill_ne h3 (by decide)),(kill_ne h4 (by decide)),(kill_ne h6 (by decide)),(kill_ne h12 (by decide)),(kill_dead h14),(kill_self (congrArg Blk.ver h15)),(kill_ver h17),(kill_ver h18),(kill_ne h812 (by decide)),(kill_ne h813 (by decide)),trivial⟩ ?_
  intro T H ⟨t2,t4,t6,t8,t11,t12,t15,t51,t52,h2,h3,h4,h6,h12,h14,h15,h17,h18,h812,h813,_⟩
  refine W_t (R_fk t12 h12 (R_fk rfl h12 (R_lk rfl h12 rfl rfl (R_mv t15 (R_bslice rfl rfl (R_append1 (l:=(tbl (hyRow (hyO l o) l.i.toNat) k)) (f:=cL) (x:=(tbl (fun a=>hyO l o (k*l.i.toNat+a)) j)) (@rfl V (V.ms 813 w 0 (k))) h813 (by exact (tbl_len _ _).symm) (@rfl V (V.sl [[(ints (tbl (fun a=>hyO l o (k*l.i.toNat+a)) j))]])) rfl rfl (by omega) (by omega) (R_fk t12 h12 ?_)))))))
  refine R_fk rfl h12 (R_store (vs:=[(V.ms 813 (w+1) 0 (k+1))]) (B':=(bk 1 48 5 [[(iV (l.i)),(iV (0:Int)),(V.ms 812 (v+1) 0 (k+1)),(V.ms 813 (w+1) 0 (k+1)),(intss (lvs l.t))]])) rfl rfl rfl h12 (sB oB rfl rfl rfl rfl rfl) (R_e (n7 _ _ (.done (W_t (R_addN t52 (@rfl V (iV ((1:Nat):Int))) (by omega) (R_mv rfl ?_)))))))
  refine R_e ?_
  refine p15 _ _ _ ?_ ⟨(k+1),(v+1),(w+1),v2,w2,v17,v18,rfl,t2,t4,t6,t8,t11,t12,t51,(Eq.trans (@rfl V (iV ((k+1:Nat):Int))) (by rfl)),h2,h3,h4,h6,(Eq.trans (@rfl Blk (bk 1 48 5 [[(iV (l.i)),(iV (0:Int)),(V.ms 812 (v+1) 0 (k+1)),(V.ms 813 (w+1) 0 (k+1)),(intss (lvs l.t))]])) (by rfl)),h14,h15,h17,h18,(Eq.trans h812 (by (rw [tbl_succ,show l.i.toNat=j by omega]; first|done|rfl))),(Eq.trans (@rfl Blk (bz (w+1) 54 1 (List.map cL (tbl (hyRow (hyO l o) l.i.toNat) k++[tbl (fun a=>hyO l o (k*l.i.toNat+a)) j])))) (by (rw [tbl_succ,show l.i.toNat=j by omega]; first|done|rfl))),?_,?_⟩
  · omega
  · omega
  · have e:(k+1)*l.i.toNat=k*l.i.toNat+j:=by omega
    rw [e]; exact hc2
 have zd: ¬0≤tsN l o:=by rw [hc,fi_end (by rw [hxl,show k=(lvs l.t).length by omega]; exact Nat.le_refl _)]; omega
 refine W_seq_exit (p35 _ _ _ (x4 _ _ (.done (W_seq_seq (W_r (R_lk t12 h12 rfl rfl (R_call (evcons (@rfl V (V.agg [(iV (l.i)),(iV (0:Int)),(V.ms 812 v 0 (k)),(V.ms 813 w 0 (k)),(intss (lvs l.t))])) evnil) (hvalid_pure (⟨(⟨((l.i)),((0:Int)),(tbl (hyRow (hyN l o) l.i.toNat) k),(tbl (hyRow (hyO l o) l.i.toNat) k)⟩:M),(lvs l.t)⟩:Hy)) (mcons (fz_aggL (mcons (fzv_canon 5 _ (by simp [-List.map_take,-List.map_drop,-List.map_append,-List.map_reverse])) (mcons (fzv_canon 5 _ (by simp [-List.map_take,-List.map_drop,-List.map_append,-List.map_reverse])) (mcons (fz_mst h812 (by simp) (take_map (l:=(tbl (hyRow (hyN l o) l.i.toNat) k)) (by exact (tbl_len _ _).symm)) (fun _=>by simp)) (mcons (fz_mst h813 (by simp) (take_map (l:=(tbl (hyRow (hyO l o) l.i.toNat) k)) (by exact (tbl_len _ _).symm)) (fun _=>by simp)) (mcons (fzv_canon 5 _ (by simp [-List.map_take,-List.map_drop,-List.map_append,-List.map_reverse])) rfl)))))) rfl) (by simp [-List.map_take,-List.map_drop,-List.map_append,-List.map_reverse]) (Or.inr rfl) ?_)))))))
 refine R_neq rfl rfl (R_e ?_)
 refine W_seq_if rfl (fun c13=>?_) fun c13=>?_
 ·
  have ze:hval (hyH l o)≠0:=by have q:=c13; rw [show k=(lvs l.t).length by omega] at q; exact q
  refine W_seq_seq (W_r (R_build rfl rfl (R_store (vs:=[(iV (0:Int)),(iV (0:Int)),V.nilsl,V.nilsl,V.nilsl]) (B':=(bk 1 48 5 [[(iV (0:Int)),(iV (0:Int)),V.nilsl,V.nilsl,V.nilsl]])) t4 rfl rfl h4 (sB oB rfl rfl rfl rfl rfl) (R_mv rfl (R_e (W_seq_ret ?_))))))
  refine RetC_2 (resV_c (u:=(V.agg [(iV (0:Int)),(iV (0:Int)),V.nilsl,V.nilsl,V.nilsl])) t4 (@rfl Blk (bk 1 48 5 [[(iV (0:Int)),(iV (0:Int)),V.nilsl,V.nilsl,V.nilsl]])) (lB oB rfl rfl)) (resV_t (@rfl V (iV (15:Int)))) (fz_agg5 (fz_int ?_) (fz_int ?_) (fz_nil ?_) (fz_nil ?_) (fz_nil ?_)) (fz_int ?_)
  · try rw [hyE_5 za zb zc zd ze]
    try rw [hyR_no (by rw [hyE_5 za zb zc zd ze]; decide)]
    try rfl
  · try rw [hyE_5 za zb zc zd ze]
    try rw [hyR_no (by rw [hyE_5 za zb zc zd ze]; decide)]
    try rfl
  · try rw [hyE_5 za zb zc zd ze]
    try rw [hyR_no (by rw [hyE_5 za zb zc zd ze]; decide)]
    try rfl
  · try rw [hyE_5 za zb zc zd ze]
    try rw [hyR_no (by rw [hyE_5 za zb zc zd ze]; decide)]
    try rfl
  · try rw [hyE_5 za zb zc zd ze]
    try rw [hyR_no (by rw [hyE_5 za zb zc zd ze]; decide)]
    try rfl
  · try rw [hyE_5 za zb zc zd ze]
    try rw [hyR_no (by rw [hyE_5 za zb zc zd ze]; decide)]
    try rfl
 have ze: ¬hval (hyH l o)≠0:=by have q:=c13; rw [show k=(lvs l.t).length by omega] at q; exact q
 refine W_seq_skip (W_r (R_lk t12 h12 rfl rfl (R_store (vs:=[(iV (l.i)),(iV (0:Int)),(V.ms 812 v 0 (k)),(V.ms 813 w 0 (k)),(intss (lvs l.t))]) (B':=(bk 1 48 5 [[(iV (l.i)),(iV (0:Int)),(V.ms 812 v 0 (k)),(V.ms 813 w 0 (k)),(intss (lvs l.t))]])) t4 rfl rfl h4 (sB oB rfl rfl rfl rfl rfl) (R_mv rfl (R_e (W_ret ?_))))))
 refine RetC_2 (resV_c (u:=(V.agg [(iV (l.i)),(iV (0:Int)),(V.ms 812 v 0 (k)),(V.ms 813 w 0 (k)),(intss (lvs l.t))])) t4 (@rfl Blk (bk 1 48 5 [[(iV (l.i)),(iV (0:Int)),(V.ms 812 v 0 (k)),(V.ms 813 w 0 (k)),(intss (lvs l.t))]])) (lB oB rfl rfl)) (resV_t (@rfl V (iV (0:Int)))) (fz_agg5 (fz_int ?_) (fz_int ?_) (fz_ms h812 (by simp) (l:=(tbl (hyRow (hyN l o) l.i.toNat) k)) rfl (by exact (tbl_len _ _).symm) (fun _=>by simp) ?_) (fz_ms h813 (by simp) (l:=(tbl (hyRow (hyO l o) l.i.toNat) k)) rfl (by exact (tbl_len _ _).symm) (fun _=>by simp) ?_) (fz_sl ?_ (fun _=>by simp))) (fz_int ?_)
 · try rw [hyE_6 za zb zc zd ze]
   try rw [hyR_yes (by rw [hyE_6 za zb zc zd ze])]
   try first|rfl|(rw [show k=(lvs l.t).length by omega]; rfl)
 · try rw [hyE_6 za zb zc zd ze]
   try rw [hyR_yes (by rw [hyE_6 za zb zc zd ze])]
   try first|rfl|(rw [show k=(lvs l.t).length by omega]; rfl)
 · try rw [hyE_6 za zb zc zd ze]
   try rw [hyR_yes (by rw [hyE_6 za zb zc zd ze])]
   try first|rfl|(rw [show k=(lvs l.t).length by omega]; rfl)
 · try rw [hyE_6 za zb zc zd ze]
   try rw [hyR_yes (by rw [hyE_6 za zb zc zd ze])]
   try first|rfl|(rw [show k=(lvs l.t).length by omega]; rfl)
 · try rw [hyE_6 za zb zc zd ze]
   try rw [hyR_yes (by rw [hyE_6 za zb zc zd ze])]
   try first|rfl|(rw [show k=(lvs l.t).length by omega]; rfl)
 · try rw [hyE_6 za zb zc zd ze]
   try rw [hyR_yes (by rw [hyE_6 za zb zc zd ze])]
   try first|rfl|(rw [show k=(lvs l.t).length by omega]; rfl)
def r21_5:List SO:=[
 qF 31 0 5,
 ql 32 31,
 qF 33 1 5,
 ql 34 33,
 sO 35 (.bslice 3 1 false [.int .i64 0] 1 [(0,.t 34)]),
 sO 36 (.bslice 54 1 false [.nilsl] 2 [(0,.t 32),(1,.t 35)]),
 sO 37 (.call false 69 [.t 36]),
 qM 11 37]
def r21_6:List SO:=[
 qF 39 1 3,
 qL 40 1 39,
 qL 41 2 4,
 qM 42 11,
 sO 43 (.call false 70 [.t 40,.t 41,.t 42]),
 qM 38 43,
 qE 44 38 0,
 qE 45 38 1,
 qE 46 38 2,
 qM 12 44,
 qM 13 45,
 qM 14 46]
def r21_13:List SO:=[
 qF 62 1 3,
 qF 63 0 62,
 ql 64 63,
 qM 65 12,
 qA 66 5 64 65,
 qF 67 1 66,
 ql 68 67,
 qM 15 68]
def r21_14:List SO:=[
 qM 69 15,
 qF 70 2 5,
 ql 71 70,
 sO 72 (.bslice 54 1 false [.nilsl] 2 [(0,.t 69),(1,.t 71)]),
 sO 73 (.call false 69 [.t 72]),
 qM 74 11,
 qF 75 2 5,
 ql 76 75,
 sO 77 (.bslice 54 1 false [.nilsl] 2 [(0,.t 74),(1,.t 76)]),
 sO 78 (.call false 69 [.t 77]),
 sO 79 (.bslice 54 1 false [.nilsl] 2 [(0,.t 73),(1,.t 78)]),
 qM 16 79]
def b21_0:SC:=.seq (.reg [qP 83 .lss 82 81]) (.seq (.cond (.t 83) (.skip) (.exit 0)) (.seq (.block 1 (.seq (.reg [qA 84 1 80 82,ql 85 84,qM 19 85]) (.seq (.seq (.reg [qM 86 19,qN 87 86,qC 88 .gtr 87 1024]) (.cond (.t 88) (.seq (.reg [qL 89 2 3,sN (.store 2 (.t 6) (.t 89)),sO 7 (.mv (.c (.nilsl))),qI 8 3]) (.ret)) (.skip))) (.seq (.reg [qL 90 4 9,qM 91 19,sO 92 (.call false 71 [.t 90,.t 91]),sO 93 (.un .not (.t 92))]) (.cond (.t 93) (.reg [qM 94 17,qM 95 19,sO 96 (.bslice 54 1 false [.nilsl] 1 [(0,.t 95)]),sO 97 (.append 54 1 24 (.t 94) (.t 96)),qM 17 97]) (.skip)))))) (.reg [qC 98 .add 82 1,qM 82 98])))
def r21_28:List SO:=[
 qF 112 1 3,
 qL 113 1 112,
 qM 114 12,
 qF 115 2 5,
 ql 116 115,
 qL 117 4 9,
 qM 118 15,
 qF 119 2 5,
 ql 120 119,
 sO 121 (.call false 49 [.t 117,.t 118,.t 120]),
 qM 122 11,
 qL 123 4 9,
 qM 124 11,
 qF 125 2 5,
 ql 126 125,
 sO 127 (.call false 49 [.t 123,.t 124,.t 126]),
 sO 128 (.call false 73 [.t 113,.t 114,.t 116,.t 121,.t 122,.t 127]),
 qM 111 128,
 qE 129 111 0,
 qE 130 111 1,
 sO 20 (.alloc 24 [.nilsl]),
 sN (.store 1 (.t 20) (.t 129)),
 qM 14 130]
def r21_31:List SO:=[
 qF 135 0 3,
 ql 136 135,
 qL 137 1 20,
 sO 138 (.build [.int .i64 0,.nilsl] [(0,1,.t 136),(1,1,.t 137)]),
 sN (.store 2 (.t 6) (.t 138)),
 sO 7 (.mv (.c (.nilsl))),
 qI 8 0]
def s21:SF:=⟨139,[.cell 6 true 2,.tmp 7,.tmp 8],.seq (.reg [sO 3 (.box 26 2 (.t 0)),sO 4 (.box 29 2 (.t 1)),sO 5 (.box 56 3 (.t 2)),sO 6 (.alloc 26 [.int .i64 0,.nilsl]),sO 7 (.mv (.c (.nilsl))),qI 8 0]) (.seq (.reg [qL 21 2 3,qL 22 2 4,sO 23 (.build [.int .i64 0,.nilsl,.int .i64 0,.nilsl] [(0,2,.t 21),(2,2,.t 22)]),sO 9 (.alloc 87 [.int .i64 0,.nilsl,.int .i64 0,.nilsl]),sN (.store 4 (.t 9) (.t 23))]) (.seq (.seq (.reg [qL 24 4 9,qL 25 3 5,sO 26 (.call false 68 [.t 24,.t 25]),qM 10 26]) (.seq (.reg [qM 27 10,qC 28 .neq 27 0]) (.cond (.t 28) (.seq (.reg [qL 29 2 3,qM 30 10,sN (.store 2 (.t 6) (.t 29)),sO 7 (.mv (.c (.nilsl))),qM 8 30]) (.ret)) (.skip)))) (.seq (.reg r21_5) (.seq (.reg r21_6) (.seq (.seq (.reg [qM 47 14,qC 48 .neq 47 0]) (.cond (.t 48) (.seq (.reg [qL 49 2 3,qM 50 14,sN (.store 2 (.t 6) (.t 49)),sO 7 (.mv (.c (.nilsl))),qM 8 50]) (.ret)) (.skip))) (.seq (.seq (.reg [qM 51 13,qN 52 51,qC 53 .gtr 52 0]) (.cond (.t 53) (.seq (.reg [qL 54 2 3,qM 55 13,sO 56 (.bslice 54 1 false [.nilsl] 1 [(0,.t 55)]),sN (.store 2 (.t 6) (.t 54)),qM 7 56,qI 8 0]) (.ret)) (.skip))) (.seq (.seq (.reg [qL 57 4 9,qM 58 12,sO 59 (.call false 46 [.t 57,.t 58]),sO 60 (.un .not (.t 59))]) (.cond (.t 60) (.seq (.reg [qL 61 2 3,sN (.store 2 (.t 6) (.t 61)),sO 7 (.mv (.c (.nilsl))),qI 8 10]) (.ret)) (.skip))) (.seq (.reg r21_13) (.seq (.reg r21_14) (.seq (.reg [sO 17 (.lazy 54 1)]) (.seq (.seq (.reg [qM 80 16,qN 81 80,qI 82 0]) (.block 0 (.loop b21_0))) (.seq (.seq (.reg [qM 99 17,qN 100 99,qC 101 .gtr 100 0]) (.cond (.t 101) (.seq (.reg [qL 102 2 3,qM 103 17,sO 104 (.call false 72 [.t 103]),sN (.store 2 (.t 6) (.t 102)),qM 7 104,qI 8 0]) (.ret)) (.skip))) (.seq (.seq (.reg [qF 105 1 3,qL 106 1 105,sO 107 (.call false 47 [.t 106]),qN 108 107,qC 109 .geq 108 128]) (.cond (.t 109) (.seq (.reg [qL 110 2 3,sN (.store 2 (.t 6) (.t 110)),sO 7 (.mv (.c (.nilsl))),qI 8 11]) (.ret)) (.skip))) (.seq (.dreg [20] r21_28) (.seq (.seq (.reg [qM 131 14,qC 132 .neq 131 0]) (.cond (.t 132) (.seq (.reg [qL 133 2 3,qM 134 14,sN (.store 2 (.t 6) (.t 133)),sO 7 (.mv (.c (.nilsl))),qM 8 134]) (.ret)) (.skip))) (.seq (.reg r21_31) (.ret)))))))))))))))))⟩
theorem s21_ok:slimF Tryz.prog ⟨[107,108,109,116,120,126,127,167,169,170,171,172,194,196,198,209,222,226],[17]⟩ Tryz.f21=some s21:=by kernel_rfl
def r68_4:List SO:=[
 qF 12 0 3,
 ql 13 12,
 qF 14 0 2,
 qF 15 0 14,
 ql 16 15,
 sO 17 (.call false 100 [.t 13,.t 16]),
 qM 6 17]
def r68_7:List SO:=[
 qF 21 1 3,
 ql 22 21,
 qC 23 .lss 22 0,
 qM 24 23,
 ⟨some (24,false),some 25,.fld 1 (.t 3)⟩,
 ⟨some (24,false),some 26,.load false 1 (.t 25)⟩,
 ⟨some (24,false),some 27,.fld 0 (.t 2)⟩,
 ⟨some (24,false),some 28,.fld 0 (.t 27)⟩,
 ⟨some (24,false),some 29,.load false 1 (.t 28)⟩,
 ⟨some (24,false),some 30,.bin .geq (.t 26) (.t 29)⟩,
 sO 31 (.pick (.t 24) (.c (.bool true)) (.t 30))]
def r68_11:List SO:=[
 qF 36 2 3,
 ql 37 36,
 qF 38 0 2,
 qF 39 0 38,
 ql 40 39,
 sO 41 (.call false 100 [.t 37,.t 40]),
 qM 4 41]
def s68:SF:=⟨42,[.tmp 4],.seq (.reg [sO 2 (.box 87 4 (.t 0)),sO 3 (.box 56 3 (.t 1)),qI 4 0]) (.seq (.seq (.reg [qL 7 4 2,sO 8 (.call false 44 [.t 7]),qM 5 8]) (.seq (.reg [qM 9 5,qC 10 .neq 9 0]) (.cond (.t 10) (.seq (.reg [qM 11 5,qM 4 11]) (.ret)) (.skip)))) (.seq (.seq (.reg r68_4) (.seq (.reg [qM 18 6,qC 19 .neq 18 0]) (.cond (.t 19) (.seq (.reg [qM 20 6,qM 4 20]) (.ret)) (.skip)))) (.seq (.seq (.reg r68_7) (.cond (.t 31) (.seq (.reg [qI 4 2]) (.ret)) (.skip))) (.seq (.seq (.reg [qF 32 2 3,ql 33 32,qN 34 33,qC 35 .eql 34 0]) (.cond (.t 35) (.seq (.reg [qI 4 19]) (.ret)) (.skip))) (.seq (.reg r68_11) (.ret))))))⟩
theorem s68_ok:slimF Tryz.prog ⟨[107,108,109,116,120,126,127,167,169,170,171,172,194,196,198,209,222,226],[]⟩ Tryz.f68=some s68:=by kernel_rfl
theorem tsplit_pure (l:Ts) (o:Ob) (s:Spl) (hb:Bd l.t):PureC Tryz.prog 68 [(V.agg [(iV (l.i)),(V.sl (List.map cN (l.t.nd))),(iV (o.i)),(V.sl (List.map cT (o.tr)))]),(V.agg [(ints s.p),(iV (s.a)),(ints s.x)])] (iV (if tsE l o≠0 then tsE l o else prS s l.i)):=by
 refine pW Tryz.func68 s68_ok fun hB=>?_
 unfold s68
 dsimp only
 refine W_r (R_box (i:=2) (n:=0) (m:=4) (cs:=[(iV (l.i)),(V.sl (List.map cN (l.t.nd))),(iV (o.i)),(V.sl (List.map cT (o.tr)))]) rfl (congrArg Blk.ver rfl) rfl rfl rfl (R_box (i:=3) (n:=0) (m:=3) (cs:=[(ints s.p),(iV (s.a)),(ints s.x)]) rfl (congrArg Blk.ver rfl) rfl rfl rfl (R_mv rfl (R_e (W_seq_seq (W_r (R_lk rfl rfl rfl rfl ?_)))))))
 refine R_callk (tcheck_pure l o hb) rfl (R_mv rfl (R_e (W_seq_seq (W_r (R_mv rfl (R_neq rfl rfl (R_e ?_)))))))
 refine W_seq_if rfl (fun c1=>?_) fun c1=>?_
 ·
  refine W_seq_seq (W_r (R_mv rfl (R_mv rfl (R_e (W_seq_ret ?_)))))
  refine Ret_1 (@rfl V (iV (tsE l o))) (fz_int ?_)
  · rw [if_pos (by assumption)]
 refine W_seq_skip (W_seq_seq (W_r (R_fk rfl rfl (R_lk rfl rfl rfl rfl (R_fk rfl rfl (R_fk rfl rfl (R_lk rfl rfl rfl rfl ?_)))))))
 refine R_callk (check_pure s.p ((l.i))) rfl (R_mv rfl (R_e (W_seq_seq (W_r (R_mv rfl (R_neq rfl rfl (R_e ?_)))))))
 refine W_seq_if rfl (fun c2=>?_) fun c2=>?_
 ·
  refine W_seq_seq (W_r (R_mv rfl (R_mv rfl (R_e (W_seq_ret ?_)))))
  refine Ret_1 (@rfl V (iV (wchk s.p ((l.i))))) (fz_int ?_)
  · rw [if_neg (by omega)]; unfold prS; rw [if_pos (by assumption)]
 refine W_seq_skip (W_seq_seq (W_r (R_fk rfl rfl (R_lk rfl rfl rfl rfl (R_lss rfl rfl (R_mv rfl ?_))))))
 refine Ops_seg 7 (fun T H=>T 2=(V.mp 2 1 0 0)∧T 3=(V.mp 3 1 0 0)∧T 31=(V.bool (decide (((s.a) < (0:Int))∨((l.i)≤(s.a)))))∧H 2=(bk 1 87 4 [[(iV (l.i)),(V.sl (List.map cN (l.t.nd))),(iV (o.i)),(V.sl (List.map cT (o.tr)))]])∧H 3=(bk 1 56 3 [[(ints s.p),(iV (s.a)),(ints s.x)]])∧True) ?_ ?_
 ·
  by_cases g3:(s.a) < (0:Int)
  ·
   refine G_n (edT g3 rfl) (G_n (edT g3 rfl) (G_n (edT g3 rfl) (G_n (edT g3 rfl) (G_n (edT g3 rfl) (G_n (edT g3 rfl) (R_pickT (edT g3 rfl) rfl ?_))))))
   exact ⟨rfl,rfl,(dec_orT g3),rfl,rfl,trivial⟩
  ·
   refine G_yes (edF g3 rfl) (R_fk rfl rfl (G_yes (edF g3 rfl) (R_lk rfl rfl rfl rfl (G_yes (edF g3 rfl) (R_fk rfl rfl (G_yes (edF g3 rfl) (R_fk rfl rfl ?_)))))))
   refine G_yes (edF g3 rfl) (R_lk rfl rfl rfl rfl (G_yes (edF g3 rfl) (R_geq rfl rfl (R_pickF (edF g3 rfl) rfl ?_))))
   exact ⟨rfl,rfl,(dec_orF g3),rfl,rfl,trivial⟩
 intro T H ⟨t2,t3,t31,h2,h3,_⟩
 refine R_e ?_
 refine W_seq_if t31 (fun c4=>?_) fun c4=>?_
 ·
  refine W_seq_seq (W_r (R_mv rfl (R_e (W_seq_ret ?_))))
  refine Ret_1 (@rfl V (iV (2:Int))) (fz_int ?_)
  · rw [if_neg (by omega)]; unfold prS; rw [if_neg (by omega),if_pos (by omega)]
 refine W_seq_skip (W_seq_seq (W_r (R_fk t3 h3 (R_lk rfl h3 rfl rfl (R_len rfl (R_eql rfl rfl (R_e ?_)))))))
 refine W_seq_if rfl (fun c5=>?_) fun c5=>?_
 ·
  refine W_seq_seq (W_r (R_mv rfl (R_e (W_seq_ret ?_))))
  refine Ret_1 (@rfl V (iV (19:Int))) (fz_int ?_)
  · rw [if_neg (by omega)]; unfold prS; rw [if_neg (by omega),if_neg (by omega),if_pos (by omega)]
 refine W_seq_skip (W_r (R_fk t3 h3 (R_lk rfl h3 rfl rfl (R_fk t2 h2 (R_fk rfl h2 (R_lk rfl h2 rfl rfl (R_callk (check_pure s.x ((l.i))) rfl ?_)))))))
 refine R_mv rfl (R_e (W_ret ?_))
 refine Ret_1 (@rfl V (iV (wchk s.x ((l.i))))) (fz_int ?_)
 · rw [if_neg (by omega)]; unfold prS; rw [if_neg (by omega),if_neg (by omega),if_neg (by omega)]
def r73_4:List SO:=[
 qL 25 1 6,
 qM 26 1,
 qM 27 2,
 qM 28 3,
 qM 29 4,
 qM 30 5,
 sO 31 (.call false 125 [.t 25,.t 26,.t 27,.t 28,.t 29,.t 30]),
 qM 15 31]
def r73_8:List SO:=[
 qF 38 0 16,
 ql 39 38,
 qM 40 1,
 qA 41 5 39 40,
 qL 42 5 41,
 sO 17 (.alloc 99 [.bool false,.nilsl,.nilsl,.nilsl,.nilsl]),
 sN (.store 5 (.t 17) (.t 42))]
def r73_9:List SO:=[
 qM 43 2,
 sO 44 (.bslice 54 1 false [.nilsl] 1 [(0,.t 43)]),
 sO 45 (.call false 69 [.t 44]),
 qM 46 3,
 sO 47 (.bslice 54 1 false [.nilsl] 1 [(0,.t 46)]),
 sO 48 (.call false 69 [.t 47]),
 qM 49 5,
 sO 50 (.bslice 54 1 false [.nilsl] 1 [(0,.t 49)]),
 sO 51 (.call false 69 [.t 50]),
 qF 53 0 6,
 ql 54 53,
 qN 55 54,
 qF 56 0 6,
 ql 57 56,
 qN 58 57,
 qC 59 .add 58 1,
 sO 52 (.bslice 54 1 true [.nilsl] 2 [(0,.t 48),(1,.t 51)]),
 sO 60 (.bslice 3 1 true [.int .i64 0] 2 [(0,.t 55),(1,.t 59)]),
 sO 61 (.build [.bool false,.nilsl,.nilsl,.nilsl,.nilsl] [(2,1,.t 45),(3,1,.t 52),(4,1,.t 60)]),
 sO 18 (.alloc 99 [.bool false,.nilsl,.nilsl,.nilsl,.nilsl]),
 sN (.store 5 (.t 18) (.t 61))]
def r73_14:List SO:=[
 qF 77 0 16,
 ql 78 77,
 qL 79 5 17,
 qM 80 4,
 sO 81 (.bslice 54 1 false [.nilsl] 1 [(0,.t 80)]),
 sO 82 (.call false 69 [.t 81]),
 sO 83 (.build [.bool false,.nilsl,.nilsl,.nilsl,.nilsl] [(0,1,.c (.bool true)),(1,1,.t 82)]),
 sO 84 (.bslice 99 5 false [.bool false,.nilsl,.nilsl,.nilsl,.nilsl] 2 [(0,.t 79),(1,.t 83)]),
 sO 85 (.append 99 5 104 (.t 78) (.t 84)),
 qF 86 0 16,
 sN (.store 1 (.t 86) (.t 85))]
def s73:SF:=⟨88,[.cell 12 true 1,.tmp 13],.seq (.reg [sO 6 (.box 24 1 (.t 0)),sO 12 (.alloc 24 [.nilsl]),qI 13 0]) (.seq (.seq (.reg [qL 19 1 6,sO 20 (.call false 99 [.t 19]),qM 14 20]) (.seq (.reg [qM 21 14,qC 22 .neq 21 0]) (.cond (.t 22) (.seq (.reg [qL 23 1 6,qM 24 14,sN (.store 1 (.t 12) (.t 23)),qM 13 24]) (.ret)) (.skip)))) (.seq (.seq (.reg r73_4) (.seq (.reg [qM 32 15,qC 33 .neq 32 0]) (.cond (.t 33) (.seq (.reg [qL 34 1 6,qM 35 15,sN (.store 1 (.t 12) (.t 34)),qM 13 35]) (.ret)) (.skip)))) (.seq (.reg [qL 36 1 6,sO 37 (.call true 107 [.t 36]),sO 16 (.alloc 24 [.nilsl]),sN (.store 1 (.t 16) (.t 37))]) (.seq (.reg r73_8) (.seq (.dreg [52,60,18] r73_9) (.seq (.seq (.reg [qM 62 3,qM 63 5,sO 64 (.call false 123 [.t 62,.t 63]),qC 65 .gtr 64 0]) (.cond (.t 65) (.seq (.reg [qF 66 3 18,ql 67 66,sO 68 (.call true 126 [.t 67])]) (.reg [qF 69 4 18,ql 70 69,sO 71 (.call true 127 [.t 70])])) (.skip))) (.seq (.reg [qF 72 0 16,ql 73 72,qM 74 1,qL 75 5 18,qA 76 5 73 74,sN (.store 5 (.t 76) (.t 75))]) (.seq (.reg r73_14) (.seq (.reg [qL 87 1 16,sN (.store 1 (.t 12) (.t 87)),qI 13 0]) (.ret))))))))))⟩
theorem s73_ok:slimF Tryz.prog ⟨[107,108,109,116,120,126,127,167,169,170,171,172,194,196,198,209,222,226],[52,60]⟩ Tryz.f73=some s73:=by kernel_rfl
def s125:SF:=⟨59,[.tmp 12],.seq (.reg [sO 6 (.box 24 1 (.t 0)),qI 12 0]) (.seq (.seq (.reg [qL 18 1 6,qM 19 1,sO 20 (.call false 103 [.t 18,.t 19,.c (.bool true)]),qM 13 20]) (.seq (.reg [qM 21 13,qC 22 .neq 21 0]) (.cond (.t 22) (.seq (.reg [qM 23 13,qM 12 23]) (.ret)) (.skip)))) (.seq (.seq (.reg [qM 24 2,qN 25 24,qC 26 .eql 25 0]) (.cond (.t 26) (.seq (.reg [qI 12 19]) (.ret)) (.skip))) (.seq (.seq (.reg [qM 27 2,sO 28 (.call false 100 [.t 27,.c (.int .i64 64)]),qM 14 28]) (.seq (.reg [qM 29 14,qC 30 .neq 29 0]) (.cond (.t 30) (.seq (.reg [qM 31 14,qM 12 31]) (.ret)) (.skip)))) (.seq (.seq (.reg [qM 32 3,qM 33 2,sO 34 (.call false 104 [.t 32,.t 33]),qM 15 34]) (.seq (.reg [qM 35 15,qC 36 .neq 35 0]) (.cond (.t 36) (.seq (.reg [qM 37 15,qM 12 37]) (.ret)) (.skip)))) (.seq (.seq (.reg [qL 38 1 6,qM 39 4,sO 40 (.call false 106 [.t 38,.t 39]),qM 16 40]) (.seq (.reg [qM 41 16,qC 42 .neq 41 0]) (.cond (.t 42) (.seq (.reg [qM 43 16,qM 12 43]) (.ret)) (.skip)))) (.seq (.seq (.reg [qM 44 5,qM 45 2,sO 46 (.call false 104 [.t 44,.t 45]),qM 17 46]) (.seq (.reg [qM 47 17,qC 48 .neq 47 0]) (.cond (.t 48) (.seq (.reg [qM 49 17,qM 12 49]) (.ret)) (.skip)))) (.seq (.block 0 (.seq (.reg [qM 51 3,qM 52 5,sO 53 (.call false 61 [.t 51,.t 52]),qM 50 53]) (.cond (.t 50) (.seq (.reg [qI 12 15]) (.ret)) (.seq (.reg [qF 55 0 6,ql 56 55,qN 57 56,qC 58 .gtr 57 4094,qM 54 58]) (.cond (.t 54) (.seq (.reg [qI 12 11]) (.ret)) (.skip)))))) (.seq (.reg [qI 12 0]) (.ret)))))))))⟩
theorem s125_ok:slimF Tryz.prog ⟨[107,108,109,116,120,126,127,167,169,170,171,172,194,196,198,209,222,226],[]⟩ Tryz.f125=some s125:=by kernel_rfl
theorem dsplits_pure (t:Dt) (n:Int) (sf outs w other:List Int) (hb:Bd t):PureC Tryz.prog 125 [(V.agg [(V.sl (List.map cN (t.nd)))]),(iV (n)),(ints sf),(ints outs),(ints w),(ints other)] (iV (spsE t n sf outs w other)):=by
 refine pW Tryz.func125 s125_ok fun hB=>?_
 unfold s125
 dsimp only
 refine W_r (R_box (i:=6) (n:=0) (m:=1) (cs:=[(V.sl (List.map cN (t.nd)))]) rfl (congrArg Blk.ver rfl) rfl rfl rfl (R_mv rfl (R_e (W_seq_seq (W_r (R_lk rfl rfl rfl rfl (R_mv rfl ?_)))))))
 refine R_callk (dnode_pure t ((n)) true) rfl (R_mv rfl (R_e (W_seq_seq (W_r (R_mv rfl (R_neq rfl rfl (R_e ?_)))))))
 refine W_seq_if rfl (fun c1=>?_) fun c1=>?_
 ·
  refine W_seq_seq (W_r (R_mv rfl (R_mv rfl (R_e (W_seq_ret ?_)))))
  refine Ret_1 (@rfl V (iV (noE t ((n)) true))) (fz_int ?_)
  · rw [spsE,if_pos (by omega)]
 refine W_seq_skip (W_seq_seq (W_r (R_mv rfl (R_len rfl (R_eql rfl rfl (R_e ?_))))))
 refine W_seq_if rfl (fun c2=>?_) fun c2=>?_
 ·
  refine W_seq_seq (W_r (R_mv rfl (R_e (W_seq_ret ?_))))
  refine Ret_1 (@rfl V (iV (19:Int))) (fz_int ?_)
  · rw [spsE,if_neg (by omega),if_pos (by omega)]
 refine W_seq_skip (W_seq_seq (W_r (R_mv rfl (R_callk (check_pure sf ((64:Int))) rfl (R_mv rfl (R_e (W_seq_seq ?_)))))))
 refine W_r (R_mv rfl (R_neq rfl rfl (R_e ?_)))
 refine W_seq_if rfl (fun c3=>?_) fun c3=>?_
 ·
  refine W_seq_seq (W_r (R_mv rfl (R_mv rfl (R_e (W_seq_ret ?_)))))
  refine Ret_1 (@rfl V (iV (wchk sf ((64:Int))))) (fz_int ?_)
  · rw [spsE,if_neg (by omega),if_neg (by omega),if_pos (by omega)]
 refine W_seq_skip (W_seq_seq (W_r (R_mv rfl (R_mv rfl (R_callk (values_pure outs sf) rfl (R_mv rfl (R_e ?_)))))))
 refine W_seq_seq (W_r (R_mv rfl (R_neq rfl rfl (R_e ?_))))
 refine W_seq_if rfl (fun c4=>?_) fun c4=>?_
 ·
  refine W_seq_seq (W_r (R_mv rfl (R_mv rfl (R_e (W_seq_ret ?_)))))
  refine Ret_1 (@rfl V (iV (vlE outs sf))) (fz_int ?_)
  · rw [spsE,if_neg (by omega),if_neg (by omega),if_neg (by omega),if_pos (by omega)]
 refine W_seq_skip (W_seq_seq (W_r (R_lk rfl rfl rfl rfl (R_mv rfl (R_callk (dfresh_pure t w hb) rfl (R_mv rfl (R_e ?_)))))))
 refine W_seq_seq (W_r (R_mv rfl (R_neq rfl rfl (R_e ?_))))
 refine W_seq_if rfl (fun c5=>?_) fun c5=>?_
 ·
  refine W_seq_seq (W_r (R_mv rfl (R_mv rfl (R_e (W_seq_ret ?_)))))
  refine Ret_1 (@rfl V (iV (fsE t w))) (fz_int ?_)
  · rw [spsE,if_neg (by omega),if_neg (by omega),if_neg (by omega),if_neg (by omega),if_pos (by omega)]
 refine W_seq_skip (W_seq_seq (W_r (R_mv rfl (R_mv rfl (R_callk (values_pure other sf) rfl (R_mv rfl (R_e ?_)))))))
 refine W_seq_seq (W_r (R_mv rfl (R_neq rfl rfl (R_e ?_))))
 refine W_seq_if rfl (fun c6=>?_) fun c6=>?_
 ·
  refine W_seq_seq (W_r (R_mv rfl (R_mv rfl (R_e (W_seq_ret ?_)))))
  refine Ret_1 (@rfl V (iV (vlE other sf))) (fz_int ?_)
  · rw [spsE,if_neg (by omega),if_neg (by omega),if_neg (by omega),if_neg (by omega),if_neg (by omega),if_pos (by omega)]
 refine W_seq_skip (W_seq_blockg fun Q7 n7 x7 y7 z7=>(W_r (R_mv rfl (R_mv rfl (R_callk (sequal_pure outs other) rfl (R_mv rfl (R_e ?_)))))))
 refine W_if rfl (fun c8=>?_) fun c8=>?_
 ·
  have d6:outs=other:=by simpa using c8
  refine W_r (R_mv rfl (R_e (W_ret (y7 _ _ ?_))))
  refine Ret_1 (@rfl V (iV (15:Int))) (fz_int ?_)
  · rw [spsE,if_neg (by omega),if_neg (by omega),if_neg (by omega),if_neg (by omega),if_neg (by omega),if_neg (by omega),if_pos d6]
 have d6: ¬(outs=other):=by simpa using c8
 refine W_seq_regc (fun T H=>T 54=(V.bool (decide ((4094:Int) < ((t.nd.length:Nat):Int))))∧H 6=(bk 1 24 1 [[(V.sl (List.map cN (t.nd)))]])∧True) ?_ ?_
 ·
  refine R_fk rfl rfl (R_lk rfl rfl rfl rfl (R_len rfl (R_gtr rfl rfl (R_mv rfl ?_))))
  exact R_nil ⟨rfl,rfl,trivial⟩
 intro T H ⟨t54,h6,_⟩
 refine W_if t54 (fun c9=>?_) fun c9=>?_
 ·
  refine W_r (R_mv rfl (R_e (W_ret (y7 _ _ ?_))))
  refine Ret_1 (@rfl V (iV (11:Int))) (fz_int ?_)
  · rw [spsE,if_neg (by omega),if_neg (by omega),if_neg (by omega),if_neg (by omega),if_neg (by omega),if_neg (by omega),if_neg d6,if_pos (by omega)]
 refine W_skip (n7 _ _ (.done (W_r (R_mv rfl (R_e (W_ret ?_))))))
 refine Ret_1 (@rfl V (iV (0:Int))) (fz_int ?_)
 · rw [spsE,if_neg (by omega),if_neg (by omega),if_neg (by omega),if_neg (by omega),if_neg (by omega),if_neg (by omega),if_neg d6,if_neg (by omega)]
end Go.Proofs.YtmnjchcoigbngabGreat
