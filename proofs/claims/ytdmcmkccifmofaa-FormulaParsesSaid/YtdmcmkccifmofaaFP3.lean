/- Contracts of the functions that the law FP reaches, and the law itself, for every input; no condition. -/
import Derived.KernelRfl
import Derived.Test.YtdmcmkccifmofaaProg
import Derived.Test.YtdmcmkccifmofaaFP2
set_option linter.unusedSimpArgs false
set_option linter.unusedVariables false
namespace Go.Proofs.Ytdmcmkccifmofaa
open Go Go.Proofs
theorem show_pure (ia oa:List (List UInt8)) (f:Fm) (hn: ∀ k,k < ia.length→(nth ia k).length≤100) (hm: ∀ k,k < oa.length→(nth oa k).length≤100):PureC Try.prog 21 [(V.agg [(V.sl (List.map cS (ia)))]),(V.agg [(V.sl (List.map cS (oa)))]),(V.agg [(iV (f.op)),(iV (f.arg)),(V.sl (List.map cF (f.kids)))])] (V.tup [(V.str ((shwT ia oa f).1)),(iV ((shwT ia oa f).2))]):=by
 refine pW Try.func21 s21_ok fun hB=>?_
 unfold s21
 dsimp only
 refine W_r (R_box (i:=3) (n:=0) (m:=1) (cs:=[(V.sl (List.map cS (ia)))]) rfl (congrArg Blk.ver rfl) rfl rfl rfl (R_box (i:=4) (n:=0) (m:=1) (cs:=[(V.sl (List.map cS (oa)))]) rfl (congrArg Blk.ver rfl) rfl rfl rfl (R_box (i:=5) (n:=0) (m:=3) (cs:=[(iV (f.op)),(iV (f.arg)),(V.sl (List.map cF (f.kids)))]) rfl (congrArg Blk.ver rfl) rfl rfl rfl (R_mv rfl (R_mv rfl (R_e (W_seq_seq ?_)))))))
 refine W_r (R_lk rfl rfl rfl rfl (R_lk rfl rfl rfl rfl (R_callk (names_pure ia oa (by omega) (by omega)) rfl (R_mv rfl (R_e (W_seq_seq (W_r ?_)))))))
 refine R_mv rfl (R_neq rfl rfl (R_e ?_))
 refine W_seq_if rfl (fun c1=>?_) fun c1=>?_
 ·
  have d1:avs ia oa≠0:=c1
  refine W_seq_seq (W_r (R_mv rfl (R_mv rfl (R_mv rfl (R_e (W_seq_ret ?_))))))
  refine Ret_2 (@rfl V (V.str ([]))) (@rfl V (iV (avs ia oa))) (fz_canon (by simp) ?_) (fz_int ?_)
  · rw [shwT,if_pos d1] <;> rfl
  · rw [shwT,if_pos d1] <;> rfl
 have d1: ¬avs ia oa≠0:=c1
 refine W_seq_skip (W_seq_seq (W_r (R_lk rfl rfl rfl rfl (R_callk (fvalid_pure f) rfl (R_mv rfl (R_e (W_seq_seq ?_)))))))
 refine W_r (R_mv rfl (R_neq rfl rfl (R_e ?_)))
 refine W_seq_if rfl (fun c2=>?_) fun c2=>?_
 ·
  have d2:fval f≠0:=c2
  refine W_seq_seq (W_r (R_mv rfl (R_mv rfl (R_mv rfl (R_e (W_seq_ret ?_))))))
  refine Ret_2 (@rfl V (V.str ([]))) (@rfl V (iV (fval f))) (fz_canon (by simp) ?_) (fz_int ?_)
  · rw [shwT,if_neg d1,if_pos d2] <;> rfl
  · rw [shwT,if_neg d1,if_pos d2] <;> rfl
 have d2: ¬fval f≠0:=c2
 refine W_seq_skip (W_seq_seq (W_r (R_lk rfl rfl rfl rfl (R_lk rfl rfl rfl rfl (R_lk rfl rfl rfl rfl (R_callk (named_pure ia oa f) rfl (R_notb rfl ?_)))))))
 refine R_e ?_
 refine W_seq_ifb rfl (fun c3=>?_) (fun c3=>?_)
 ·
  have d3: ¬nmd ((ia.length:Nat):Int) ((oa.length:Nat):Int) f=true:=by have q:=c3; rw [Bool.not_eq_true'] at q; rw [q]; exact Bool.false_ne_true
  refine W_seq_seq (W_r (R_mv rfl (R_mv rfl (R_e (W_seq_ret ?_)))))
  refine Ret_2 (@rfl V (V.str ([]))) (@rfl V (iV (2:Int))) (fz_canon (by simp) ?_) (fz_int ?_)
  · rw [shwT,if_neg d1,if_neg d2,if_neg d3] <;> rfl
  · rw [shwT,if_neg d1,if_neg d2,if_neg d3] <;> rfl
 have d3:nmd ((ia.length:Nat):Int) ((oa.length:Nat):Int) f=true:=by have q:=c3; rwa [Bool.not_eq_false'] at q
 have hok:=fval_ok (Decidable.not_not.1 d2)
 have hnm:=d3
 have hlen:=shP_len (Decidable.not_not.1 d2) d3 hn hm
 have hne:=shP_ne (ia:=ia) (oa:=oa) hok
 refine W_seq_skip ?_
 refine W_seq_g (fun T H=>T 5=(V.mp 5 1 0 0)∧T 10=(V.mp 30 1 0 0)∧H 3=(bk 1 37 1 [[(V.sl (List.map cS (ia)))]])∧H 4=(bk 1 37 1 [[(V.sl (List.map cS (oa)))]])∧H 5=(bk 1 24 3 [[(iV (f.op)),(iV (f.arg)),(V.sl (List.map cF (f.kids)))]])∧H 30=(bk 1 94 4 [[(V.sl (List.map cS (ia))),(V.sl (List.map cS (oa))),V.nilp,V.nilsl]])∧H 200=(⟨0,false,false,0,0,[]⟩:Blk)∧True) ?_ ?_
 ·
  refine R_lk rfl rfl rfl rfl (R_lk rfl rfl rfl rfl (R_build rfl rfl (R_box (i:=30) (n:=0) (m:=4) (cs:=[(V.sl (List.map cS (ia))),(V.sl (List.map cS (oa))),V.nilp,V.nilsl]) rfl (congrArg Blk.ver rfl) rfl rfl rfl (R_mv rfl ?_))))
  exact R_nil ⟨rfl,rfl,rfl,rfl,rfl,rfl,rfl,trivial⟩
 intro T H ⟨t5,t10,h3,h4,h5,h30,h200,_⟩
 refine .lazyCell 200 5 1 30 0 3 [(V.sl (List.map cS (ia))),(V.sl (List.map cS (oa))),V.nilp,V.nilsl] (by decide) (by rw [h30]; rfl) (by rw [h30]; rfl) rfl (.done ?_)
 refine fork_ (R:=fun T H=>T 5=(V.mp 5 1 0 0)∧T 10=(V.mp 30 1 0 0)∧H 3=(bk 1 37 1 [[(V.sl (List.map cS (ia)))]])∧H 4=(bk 1 37 1 [[(V.sl (List.map cS (oa)))]])∧H 5=(bk 1 24 3 [[(iV (f.op)),(iV (f.arg)),(V.sl (List.map cF (f.kids)))]])∧H 30=(bk 1 94 4 [[(V.sl (List.map cS (ia))),(V.sl (List.map cS (oa))),V.nilp,(V.ms 200 1 0 (0))]])∧H 200=(bz 1 5 1 [])∧True) ⟨t5,t10,((upd_ne _ _ (by decide)).trans ((upd_ne _ _ (by decide)).trans h3)),((upd_ne _ _ (by decide)).trans ((upd_ne _ _ (by decide)).trans h4)),((upd_ne _ _ (by decide)).trans ((upd_ne _ _ (by decide)).trans h5)),(by rw [upd_same,h30,(congrArg Blk.ver h200)]; rfl),(by rw [upd_ne _ _ (by decide),upd_same,(congrArg Blk.ver h200)]),trivial⟩ ?_
 intro T H ⟨t5,t10,h3,h4,h5,h30,h200,_⟩
 refine W_r (R_mv t10 (R_lk t5 h5 rfl rfl (R_callE (evcons rfl (evcons rfl evnil)) (LocC.use2 (i:=30) (j:=200) (show_loc 1 ia oa f hok hnm 1 V.nilp ([]) (.inl rfl) (by (simp only [List.length_nil]; omega))) (by decide) rfl h30 (show _=(bz 1 5 1 (List.map bB ([]))) from h200) rfl (bB_ren _ _) rfl (bB_ren _ _)) (R_e (W_r (R_mv t10 (R_nilck_mp rfl rfl oB ?_)))))))
 refine R_fk rfl rfl (R_callE (evcons rfl evnil) (LocC.use2 (i:=30) (j:=200) (string_loc 1 (1+(shP ia oa f).length) (V.sl (List.map cS (ia))) (V.sl (List.map cS (oa))) (.mp 0 1 0 2) ((shP ia oa f).flatten) (by exact hne)) (by decide) rfl (@rfl Blk (bk 1 94 4 [[(V.sl (List.map cS (ia))),(V.sl (List.map cS (oa))),(V.mp 30 1 0 2),(V.ms 200 (1+(shP ia oa f).length) 0 (List.length ((shP ia oa f).flatten)))]])) (@rfl Blk (bz (1+(shP ia oa f).length) 5 1 (List.map bB ((shP ia oa f).flatten)))) rfl (bB_ren _ _) rfl (bB_rend _ _)) (R_mv rfl (R_mv rfl (R_e (W_ret ?_)))))
 refine Ret_2 (@rfl V (V.str ((shP ia oa f).flatten))) (@rfl V (iV (0:Int))) (fz_canon (by simp) ?_) (fz_int ?_)
 · rw [shwT,if_neg d1,if_neg d2,if_pos d3] <;> rfl
 · rw [shwT,if_neg d1,if_neg d2,if_pos d3] <;> rfl
def r23_6:List SO:=[
 qF 18 1 3,
 ql 19 18,
 qN 20 19,
 qF 21 0 3,
 ql 22 21,
 qN 23 22,
 qP 24 .neq 20 23,
 qM 17 24]
def r23_8:List SO:=[
 qL 25 3 2,
 qL 26 2 3,
 sO 27 (.call false 48 [.t 25,.t 26]),
 sO 28 (.idx 1 (.t 27) (.c (.int .i64 0))),
 ql 29 28,
 qM 4 29,
 qI 5 0]
def s23:SF:=⟨30,[.tmp 4,.tmp 5],.seq (.reg [sO 2 (.box 24 3 (.t 0)),sO 3 (.box 51 2 (.t 1)),sO 4 (.mv (.c (.bool false))),qI 5 0]) (.seq (.seq (.reg [qL 7 3 2,sO 8 (.call false 14 [.t 7]),qM 6 8]) (.seq (.reg [qM 9 6,qC 10 .neq 9 0]) (.cond (.t 10) (.seq (.reg [qM 11 6,sO 4 (.mv (.c (.bool false))),qM 5 11]) (.ret)) (.skip)))) (.seq (.block 0 (.seq (.reg [qF 13 0 3,ql 14 13,qN 15 14,qC 16 .gtr 15 1024,qM 12 16]) (.cond (.t 12) (.seq (.reg [sO 4 (.mv (.c (.bool false))),qI 5 3]) (.ret)) (.seq (.reg r23_6) (.cond (.t 17) (.seq (.reg [sO 4 (.mv (.c (.bool false))),qI 5 1]) (.ret)) (.skip)))))) (.seq (.reg r23_8) (.ret))))⟩
theorem s23_ok:slimF Try.prog ⟨[31,36,37,38,40,41,42,44,45,59,60,61,65,66,67,71,72,73,81,82,84,92,93,98,99,102,104],[],[],[]⟩ Try.f23=some s23:=by kernel_rfl
def r48_6:List SO:=[
 qM 21 6,
 qL 22 3 8,
 qL 23 2 3,
 sO 24 (.call false 48 [.t 22,.t 23]),
 sO 25 (.bslice 98 1 false [.nilsl] 1 [(0,.t 24)]),
 sO 26 (.append 98 1 24 (.t 21) (.t 25)),
 qM 6 26]
def b48_0:SC:=.seq (.reg [qP 18 .lss 17 16]) (.seq (.cond (.t 18) (.skip) (.exit 0)) (.seq (.block 1 (.seq (.reg [qA 19 3 15 17,qL 20 3 19,sO 8 (.alloc 24 [.int .i64 0,.int .i64 0,.nilsl]),sN (.store 3 (.t 8) (.t 20))]) (.reg r48_6))) (.reg [qC 27 .add 17 1,qM 17 27])))
def r48_12:List SO:=[
 qM 36 9,
 qM 37 10,
 qL 38 3 2,
 qL 39 2 3,
 qM 40 6,
 qM 41 9,
 qM 42 10,
 sO 43 (.call false 75 [.t 38,.t 39,.t 40,.t 41,.t 42]),
 qA 44 1 36 37,
 sN (.store 1 (.t 44) (.t 43))]
def b48_1:SC:=.seq (.seq (.reg [qM 32 10,qC 33 .geq 32 0]) (.cond (.t 33) (.skip) (.exit 2))) (.seq (.block 3 (.reg r48_12)) (.reg [qM 34 10,qC 35 .sub 34 1,qM 10 35]))
def s48:SF:=⟨46,[.tmp 4],.seq (.reg [sO 2 (.box 24 3 (.t 0)),sO 3 (.box 51 2 (.t 1)),sO 4 (.mv (.c (.nilsl)))]) (.seq (.reg [qF 11 0 3,ql 12 11,qN 13 12,qM 5 13]) (.seq (.reg [sO 6 (.lazy 98 1)]) (.seq (.seq (.reg [qF 14 2 2,ql 15 14,qN 16 15,qI 17 0]) (.block 0 (.loop b48_0))) (.seq (.reg [qM 28 5,qC 29 .add 28 1,sO 30 (.mks 4 1 1 [.bool false] (.t 29) (.t 29)),qM 9 30]) (.seq (.seq (.reg [qM 31 5,qM 10 31]) (.block 2 (.loop b48_1))) (.seq (.reg [qM 45 9,qM 4 45]) (.ret)))))))⟩
theorem s48_ok:slimF Try.prog ⟨[31,36,37,38,40,41,42,44,45,59,60,61,65,66,67,71,72,73,81,82,84,92,93,98,99,102,104],[6],[],[]⟩ Try.f48=some s48:=by kernel_rfl
def r75_7:List SO:=[
 qM 25 11,
 sO 26 (.un .not (.t 25)),
 qM 27 26,
 ⟨some (27,true),some 28,.fld 0 (.t 6)⟩,
 ⟨some (27,true),some 29,.load false 1 (.t 28)⟩,
 ⟨some (27,true),some 30,.load false 1 (.t 9)⟩,
 ⟨some (27,true),some 31,.idx 1 (.t 29) (.t 30)⟩,
 ⟨some (27,true),some 32,.load false 1 (.t 31)⟩,
 ⟨some (27,true),some 33,.fld 1 (.t 5)⟩,
 ⟨some (27,true),some 34,.load false 1 (.t 33)⟩,
 ⟨some (27,true),some 35,.bin .eql (.t 32) (.t 34)⟩,
 sO 36 (.pick (.t 27) (.t 35) (.c (.bool false))),
 qM 10 36]
def r75_9:List SO:=[
 qM 39 11,
 sO 40 (.un .not (.t 39)),
 qM 41 40,
 ⟨some (41,true),some 42,.fld 1 (.t 6)⟩,
 ⟨some (41,true),some 43,.load false 1 (.t 42)⟩,
 ⟨some (41,true),some 44,.load false 1 (.t 9)⟩,
 ⟨some (41,true),some 45,.idx 1 (.t 43) (.t 44)⟩,
 ⟨some (41,true),some 46,.load false 1 (.t 45)⟩,
 ⟨some (41,true),some 47,.fld 1 (.t 5)⟩,
 ⟨some (41,true),some 48,.load false 1 (.t 47)⟩,
 ⟨some (41,true),some 49,.bin .eql (.t 46) (.t 48)⟩,
 sO 50 (.pick (.t 41) (.t 49) (.c (.bool false))),
 qM 10 50]
def r75_11:List SO:=[
 qM 53 2,
 sO 54 (.idx 1 (.t 53) (.c (.int .i64 0))),
 ql 55 54,
 ql 56 9,
 qA 57 1 55 56,
 ql 58 57,
 sO 59 (.un .not (.t 58)),
 qM 10 59]
def r75_17:List SO:=[
 qM 73 11,
 sO 74 (.un .not (.t 73)),
 qM 75 74,
 ⟨some (75,true),some 76,.mv (.t 2)⟩,
 ⟨some (75,true),some 77,.idx 1 (.t 76) (.c (.int .i64 0))⟩,
 ⟨some (75,true),some 78,.load false 1 (.t 77)⟩,
 ⟨some (75,true),some 79,.load false 1 (.t 9)⟩,
 ⟨some (75,true),some 80,.bin .add (.t 79) (.c (.int .i64 1))⟩,
 ⟨some (75,true),some 81,.idx 1 (.t 78) (.t 80)⟩,
 ⟨some (75,true),some 82,.load false 1 (.t 81)⟩,
 sO 83 (.pick (.t 75) (.t 82) (.c (.bool false))),
 qM 10 83]
def r75_19:List SO:=[
 qM 86 11,
 qM 87 86,
 ⟨some (87,false),some 88,.mv (.t 2)⟩,
 ⟨some (87,false),some 89,.idx 1 (.t 88) (.c (.int .i64 0))⟩,
 ⟨some (87,false),some 90,.load false 1 (.t 89)⟩,
 ⟨some (87,false),some 91,.load false 1 (.t 9)⟩,
 ⟨some (87,false),some 92,.bin .add (.t 91) (.c (.int .i64 1))⟩,
 ⟨some (87,false),some 93,.idx 1 (.t 90) (.t 92)⟩,
 ⟨some (87,false),some 94,.load false 1 (.t 93)⟩,
 sO 95 (.pick (.t 87) (.c (.bool true)) (.t 94)),
 qM 10 95]
def r75_21:List SO:=[
 qM 98 2,
 sO 99 (.idx 1 (.t 98) (.c (.int .i64 1))),
 ql 100 99,
 ql 101 9,
 qA 102 1 100 101,
 ql 103 102,
 qM 104 103,
 ⟨some (104,false),some 105,.mv (.t 11)⟩,
 ⟨some (104,false),some 106,.un .not (.t 105)⟩,
 ⟨some (104,false),some 107,.mv (.t 106)⟩,
 ⟨some (107,true),some 108,.mv (.t 2)⟩,
 ⟨some (107,true),some 109,.idx 1 (.t 108) (.c (.int .i64 0))⟩,
 ⟨some (107,true),some 110,.load false 1 (.t 109)⟩,
 ⟨some (107,true),some 111,.load false 1 (.t 9)⟩,
 ⟨some (107,true),some 112,.idx 1 (.t 110) (.t 111)⟩,
 ⟨some (107,true),some 113,.load false 1 (.t 112)⟩,
 ⟨some (104,false),some 114,.pick (.t 107) (.t 113) (.c (.bool false))⟩,
 ⟨some (104,false),some 115,.mv (.t 114)⟩,
 ⟨some (115,true),some 116,.mv (.t 3)⟩,
 ⟨some (115,true),some 117,.load false 1 (.t 9)⟩,
 ⟨some (115,true),some 118,.bin .add (.t 117) (.c (.int .i64 1))⟩,
 ⟨some (115,true),some 119,.idx 1 (.t 116) (.t 118)⟩,
 ⟨some (115,true),some 120,.load false 1 (.t 119)⟩,
 ⟨some (104,false),some 121,.pick (.t 115) (.t 120) (.c (.bool false))⟩,
 sO 122 (.pick (.t 104) (.c (.bool true)) (.t 121)),
 qM 10 122]
def r75_22:List SO:=[
 qM 123 2,
 sO 124 (.idx 1 (.t 123) (.c (.int .i64 1))),
 ql 125 124,
 ql 126 9,
 qA 127 1 125 126,
 ql 128 127,
 qM 129 128,
 ⟨some (129,true),some 130,.mv (.t 11)⟩,
 ⟨some (129,true),some 131,.mv (.t 130)⟩,
 ⟨some (131,false),some 132,.mv (.t 2)⟩,
 ⟨some (131,false),some 133,.idx 1 (.t 132) (.c (.int .i64 0))⟩,
 ⟨some (131,false),some 134,.load false 1 (.t 133)⟩,
 ⟨some (131,false),some 135,.load false 1 (.t 9)⟩,
 ⟨some (131,false),some 136,.idx 1 (.t 134) (.t 135)⟩,
 ⟨some (131,false),some 137,.load false 1 (.t 136)⟩,
 ⟨some (129,true),some 138,.pick (.t 131) (.c (.bool true)) (.t 137)⟩,
 ⟨some (129,true),some 139,.mv (.t 138)⟩,
 ⟨some (139,false),some 140,.mv (.t 3)⟩,
 ⟨some (139,false),some 141,.load false 1 (.t 9)⟩,
 ⟨some (139,false),some 142,.bin .add (.t 141) (.c (.int .i64 1))⟩,
 ⟨some (139,false),some 143,.idx 1 (.t 140) (.t 142)⟩,
 ⟨some (139,false),some 144,.load false 1 (.t 143)⟩,
 ⟨some (129,true),some 145,.pick (.t 139) (.c (.bool true)) (.t 144)⟩,
 sO 146 (.pick (.t 129) (.t 145) (.c (.bool false))),
 qM 10 146]
def s75:SF:=⟨147,[.tmp 10],.seq (.reg [sO 5 (.box 24 3 (.t 0)),sO 6 (.box 51 2 (.t 1)),sO 9 (.box 3 1 (.t 4)),sO 10 (.mv (.c (.bool false)))]) (.seq (.reg [ql 13 9,qF 14 0 6,ql 15 14,qN 16 15,qP 17 .eql 13 16,qM 11 17]) (.seq (.reg [sO 18 (.mkf 87 [.t 9]),qM 12 18]) (.seq (.seq (.reg [qF 19 0 5,ql 20 19]) (.block 0 (.seq (.reg [qC 22 .eql 20 1,qM 21 22]) (.cond (.t 21) (.seq (.reg [sO 10 (.mv (.c (.bool true)))]) (.ret)) (.seq (.reg [qC 24 .eql 20 2,qM 23 24]) (.cond (.t 23) (.seq (.reg r75_7) (.ret)) (.seq (.reg [qC 38 .eql 20 3,qM 37 38]) (.cond (.t 37) (.seq (.reg r75_9) (.ret)) (.seq (.reg [qC 52 .eql 20 4,qM 51 52]) (.cond (.t 51) (.seq (.reg r75_11) (.ret)) (.seq (.reg [qC 61 .eql 20 5,qM 60 61]) (.cond (.t 60) (.seq (.reg [qM 62 2,sO 63 (.mkf 89 [.t 9]),sO 64 (.call false 88 [.t 62,.t 63]),sO 65 (.un .not (.t 64)),qM 10 65]) (.ret)) (.seq (.reg [qC 67 .eql 20 6,qM 66 67]) (.cond (.t 66) (.seq (.reg [qM 68 2,qM 69 12,sO 70 (.call false 88 [.t 68,.t 69]),qM 10 70]) (.ret)) (.seq (.reg [qC 72 .eql 20 7,qM 71 72]) (.cond (.t 71) (.seq (.reg r75_17) (.ret)) (.seq (.reg [qC 85 .eql 20 9,qM 84 85]) (.cond (.t 84) (.seq (.reg r75_19) (.ret)) (.seq (.reg [qC 97 .eql 20 8,qM 96 97]) (.cond (.t 96) (.seq (.reg r75_21) (.ret)) (.skip))))))))))))))))))))) (.seq (.reg r75_22) (.ret)))))⟩
theorem s75_ok:slimF Try.prog ⟨[31,36,37,38,40,41,42,44,45,59,60,61,65,66,67,71,72,73,81,82,84,92,93,98,99,102,104],[],[],[]⟩ Try.f75=some s75:=by kernel_rfl
def s87:SF:=⟨8,[.tmp 3],.seq (.reg [sO 3 (.mv (.c (.bool false)))]) (.seq (.reg [qM 4 0,ql 5 1,qA 6 1 4 5,ql 7 6,qM 3 7]) (.ret))⟩
theorem s87_ok:slimF Try.prog ⟨[31,36,37,38,40,41,42,44,45,59,60,61,65,66,67,71,72,73,81,82,84,92,93,98,99,102,104],[],[],[]⟩ Try.f87=some s87:=by kernel_rfl
theorem sat1_pure (w:List Bool) (i:Int) (h0:0≤i) (hi:i < w.length):PureC Try.prog 87 [(V.sl (List.map cB (w))),(V.pp [(iV (i))])] (V.bool (nth w i.toNat)):=by
 refine pW Try.func87 s87_ok fun hB=>?_
 unfold s87
 dsimp only
 refine W_r (R_mv rfl (R_e (W_r (R_mv rfl (R_load_pp rfl rfl (R_idxI (i:=(i)) (@rfl V (V.sl (List.map cB (w)))) (@rfl V (iV (i))) (by omega) (by omega) rfl (R_load_pp rfl rfl ?_)))))))
 refine R_mv rfl (R_e (W_ret ?_))
 refine Ret_1 (@rfl V (V.bool ((nth (w) (i).toNat)))) (fz_bool ?_)
 · rfl
def s88:SF:=⟨9,[.tmp 4],.seq (.reg [sO 4 (.mv (.c (.bool false)))]) (.seq (.reg [qM 5 0,qM 6 1,sO 7 (.call false 95 [.t 5,.t 6]),qC 8 .geq 7 0,qM 4 8]) (.ret))⟩
theorem s88_ok:slimF Try.prog ⟨[31,36,37,38,40,41,42,44,45,59,60,61,65,66,67,71,72,73,81,82,84,92,93,98,99,102,104],[],[],[]⟩ Try.f88=some s88:=by kernel_rfl
def b95_0:SC:=.seq (.reg [qP 9 .lss 8 7]) (.seq (.cond (.t 9) (.skip) (.exit 0)) (.seq (.block 1 (.seq (.reg [qM 10 8,qM 5 10]) (.seq (.reg [qM 11 1,qM 12 0,qM 13 5,qA 14 1 12 13,ql 15 14,sO 16 (.callv false (.t 11) [.t 15])]) (.cond (.t 16) (.seq (.reg [qM 17 5,qM 4 17]) (.ret)) (.skip))))) (.reg [qC 18 .add 8 1,qM 8 18])))
def s95:SF:=⟨19,[.tmp 4],.seq (.reg [qI 4 0]) (.seq (.seq (.reg [qM 6 0,qN 7 6,qI 8 0]) (.block 0 (.loop b95_0))) (.seq (.reg [sO 4 (.mv (.c (.int .i64 (-1))))]) (.ret)))⟩
theorem s95_ok:slimF Try.prog ⟨[31,36,37,38,40,41,42,44,45,59,60,61,65,66,67,71,72,73,81,82,84,92,93,98,99,102,104],[],[],[]⟩ Try.f95=some s95:=by kernel_rfl
theorem idxb_pure (p:(List Bool)→Bool) (w:List (List Bool)) (g:Nat) (caps:List V) (hca:canonL caps=true) (hpu:pureL caps=true) (hq: ∀ k,k < w.length→PureC Try.prog g (V.sl ((nth w k).map cB)::caps) (.bool (p (nth w k)))):PureC Try.prog 95 [(V.sl (List.map cBL (w))),(V.fn g [] caps)] (iV (fi (fun jx=>p (nth w jx)) 0 w.length)):=by
 refine pure_of_Wb true 6 Try.func95 s95_ok (by kernel_rfl) (by simp [s95]) (by simp [hpu]) (by simp) fun hB=>?_
 simp only [bnd_map,bnd_int,bnd_bool,bnd_str,bnd_agg,bnd_pp,bnd_nil,bnd_cons,implies_true,and_true,true_and] at hB
 unfold s95
 dsimp only
 refine W_r (R_mv rfl (R_e (W_seq_seq (W_r (R_mv rfl (R_len rfl (R_mv rfl ?_)))))))
 refine R_e (W_seq_blockg fun Q1 n1 x1 y1 z1=>?_)
 refine W_loop (fun mm T H=> ∃ (k:Nat),mm=w.length - k∧T 0=(V.sl (List.map cBL (w)))∧T 1=(V.fn g [] caps)∧T 7=(iV ((w.length:Nat):Int))∧T 8=(iV ((k:Nat):Int))∧(k≤w.length)∧(fi (fun j=>p (nth w j)) 0 w.length=fi (fun j=>p (nth w j)) k (w.length - k))) ?_ ?_
 ·
  refine ⟨_,0,rfl,rfl,rfl,rfl,(Eq.trans (@rfl V (iV (0:Int))) rfl),?_,?_⟩
  · omega
  · rfl
 intro mm T H ⟨k,hmm,t0,t1,t7,t8,hk,hc⟩ Q2 p12 p22 p32
 unfold b95_0
 refine W_r (R_lss t8 t7 (R_e ?_))
 refine W_seq_if rfl (fun c3=>?_) fun c3=>?_
 ·
  refine W_seq_skip (W_seq_blockg fun Q4 n4 x4 y4 z4=>(W_r (R_mv t8 (R_mv rfl (R_e (W_r (R_mv t1 ?_)))))))
  refine R_mv t0 (R_mv rfl (R_idx (i:=k) (@rfl V (V.sl (List.map cBL (w)))) (@rfl V (iV ((k:Nat):Int))) (by omega) rfl (R_load_pp rfl rfl (R_callv (@rfl V (V.fn g [] caps)) (evcons (@rfl V (V.sl (List.map cB ((nth (w) (k)))))) evnil) (hq k (by omega)) (fzv_mapcanon _ _ (by simp [hca])) (by simp [hpu]) (Or.inl (by simp [hpu])) (R_e ?_)))))
  refine W_ifb rfl (fun c5=>?_) (fun c5=>?_)
  ·
   have d1:=c5
   refine W_r (R_mv rfl (R_mv rfl (R_e (W_ret (y4 _ _ (p22 _ _ (y1 _ _ ?_)))))))
   refine Ret_1 (@rfl V (iV ((k:Nat):Int))) (fz_int ?_)
   · rw [hc,fi_hit (by exact d1) (by omega)]
  have d1:=c5
  refine W_skip (n4 _ _ (.done (W_t (R_addN t8 (@rfl V (iV ((1:Nat):Int))) (by omega) (R_mv rfl (R_e ?_))))))
  refine p12 _ _ _ ?_ ⟨(k+1),rfl,t0,t1,t7,(Eq.trans (@rfl V (iV ((k+1:Nat):Int))) (by rfl)),?_,?_⟩
  · omega
  · omega
  · rw [hc,fi_skip (by exact d1) (by omega)]
 refine W_seq_exit (p32 _ _ _ (x1 _ _ (.done (W_r (R_mv rfl (R_e (W_ret ?_)))))))
 refine Ret_1 (@rfl V (iV (-1:Int))) (fz_int ?_)
 · rw [hc,fi_end (by omega)]
theorem conb_pure (p:(List Bool)→Bool) (w:List (List Bool)) (g:Nat) (caps:List V) (hca:canonL caps=true) (hpu:pureL caps=true) (hq: ∀ k,k < w.length→PureC Try.prog g (V.sl ((nth w k).map cB)::caps) (.bool (p (nth w k)))):PureC Try.prog 88 [(V.sl (List.map cBL (w))),(V.fn g [] caps)] (V.bool (decide (0≤fi (fun jx=>p (nth w jx)) 0 w.length))):=by
 refine pure_of_Wb true 6 Try.func88 s88_ok (by kernel_rfl) (by simp [s88]) (by simp [hpu]) (by simp) fun hB=>?_
 simp only [bnd_map,bnd_int,bnd_bool,bnd_str,bnd_agg,bnd_pp,bnd_nil,bnd_cons,implies_true,and_true,true_and] at hB
 unfold s88
 dsimp only
 refine W_r (R_mv rfl (R_e (W_r (R_mv rfl (R_mv rfl (R_call (evcons (@rfl V (V.sl (List.map cBL (w)))) (evcons (@rfl V (V.fn g [] caps)) evnil)) (idxb_pure p w g caps hca hpu hq) (fzv_mapcanon _ _ (by simp [hca,hpu,-List.map_take,-List.map_drop,-List.map_append,-List.map_reverse])) (by simp [hca,hpu,-List.map_take,-List.map_drop,-List.map_append,-List.map_reverse]) (Or.inl (by simp [hca,hpu,-List.map_take,-List.map_drop,-List.map_append,-List.map_reverse])) (R_geq rfl rfl ?_)))))))
 refine R_mv rfl (R_e (W_ret ?_))
 refine Ret_1 (@rfl V (V.bool (decide ((0:Int)≤(fi (fun jx=>p (nth w jx)) 0 w.length))))) (fz_bool ?_)
 · first|rfl|omega|simp_all
def s89:SF:=⟨9,[.tmp 3],.seq (.reg [sO 3 (.mv (.c (.bool false)))]) (.seq (.reg [qM 4 0,ql 5 1,qA 6 1 4 5,ql 7 6,sO 8 (.un .not (.t 7)),qM 3 8]) (.ret))⟩
theorem s89_ok:slimF Try.prog ⟨[31,36,37,38,40,41,42,44,45,59,60,61,65,66,67,71,72,73,81,82,84,92,93,98,99,102,104],[],[],[]⟩ Try.f89=some s89:=by kernel_rfl
theorem sat2_pure (w:List Bool) (i:Int) (h0:0≤i) (hi:i < w.length):PureC Try.prog 89 [(V.sl (List.map cB (w))),(V.pp [(iV (i))])] (V.bool (!nth w i.toNat)):=by
 refine pW Try.func89 s89_ok fun hB=>?_
 unfold s89
 dsimp only
 refine W_r (R_mv rfl (R_e (W_r (R_mv rfl (R_load_pp rfl rfl (R_idxI (i:=(i)) (@rfl V (V.sl (List.map cB (w)))) (@rfl V (iV (i))) (by omega) (by omega) rfl (R_load_pp rfl rfl ?_)))))))
 refine R_notb rfl (R_mv rfl (R_e (W_ret ?_)))
 refine Ret_1 (@rfl V (V.bool ((!(nth (w) (i).toNat))))) (fz_bool ?_)
 · rfl
theorem satisfied_pure (f:Fm) (t:Tr) (K:List (List Bool)) (B:List Bool) (i:Int) (hf:rgt f=0) (ht:t.no.length=t.ni.length) (h0:0≤i) (hi:i≤t.ni.length) (hn:t.ni.length≤1024) (hK:K.length=f.kids.length) (hr: ∀ k,k < K.length→(nth K k).length=t.ni.length+1) (hb:B.length=t.ni.length+1):PureC Try.prog 75 [(V.agg [(iV (f.op)),(iV (f.arg)),(V.sl (List.map cF (f.kids)))]),(V.agg [(ints t.ni),(ints t.no)]),(V.sl (List.map cBL (K))),(V.sl (List.map cB (B))),(iV (i))] (V.bool (satP t f K B i.toNat)):=by
 refine pW Try.func75 s75_ok fun hB=>?_
 unfold s75
 dsimp only
 have hrg:=rgt_ok hf
 have hr0:0 < K.length→(nth K 0).length=t.ni.length+1:=hr 0
 have hr1:1 < K.length→(nth K 1).length=t.ni.length+1:=hr 1
 refine W_r (R_box (i:=5) (n:=0) (m:=3) (cs:=[(iV (f.op)),(iV (f.arg)),(V.sl (List.map cF (f.kids)))]) rfl (congrArg Blk.ver rfl) rfl rfl rfl (R_box (i:=6) (n:=0) (m:=2) (cs:=[(ints t.ni),(ints t.no)]) rfl (congrArg Blk.ver rfl) rfl rfl rfl (R_box (i:=9) (n:=0) (m:=1) (cs:=[(iV (i))]) rfl (congrArg Blk.ver rfl) rfl rfl rfl (R_mv rfl (R_e (W_r (R_lk rfl rfl rfl rfl ?_)))))))
 refine R_fk rfl rfl (R_lk rfl rfl rfl rfl (R_len rfl (R_eql rfl rfl (R_mv rfl (R_e (W_r (R_mkf (evcons rfl evnil) ?_)))))))
 refine R_mv rfl (R_e (W_seq_seq (W_r (R_fk rfl rfl (R_lk rfl rfl rfl rfl (R_e (W_seq_blockg fun Q1 n1 x1 y1 z1=>?_)))))))
 refine W_r (R_eql rfl rfl (R_mv rfl (R_e ?_)))
 refine W_if rfl (fun c2=>?_) fun c2=>?_
 ·
  refine W_r (R_mv rfl (R_e (W_ret (y1 _ _ ?_))))
  refine Ret_1 (@rfl V (V.bool true)) (fz_bool ?_)
  · unfold satP; rw [if_pos (by omega)]
 refine W_r (R_eql rfl rfl (R_mv rfl (R_e ?_)))
 refine W_if rfl (fun c3=>?_) fun c3=>?_
 ·
  refine W_r (R_mv rfl (R_not rfl (R_mv rfl ?_)))
  refine Ops_seg 9 (fun T H=>T 36=(V.bool (decide ((¬((i)=((t.ni.length:Nat):Int)))∧(((nth (t.ni) (i).toNat))=(f.arg)))))∧H 5=(bk 1 24 3 [[(iV (f.op)),(iV (f.arg)),(V.sl (List.map cF (f.kids)))]])∧H 6=(bk 1 51 2 [[(ints t.ni),(ints t.no)]])∧H 9=(bk 1 3 1 [[(iV (i))]])∧True) ?_ ?_
  ·
   by_cases g4: ¬((i)=((t.ni.length:Nat):Int))
   ·
    refine G_yes (edT g4 rfl) (R_fk rfl rfl (G_yes (edT g4 rfl) (R_lk rfl rfl rfl rfl (G_yes (edT g4 rfl) (R_lk rfl rfl rfl rfl (G_yes (edT g4 rfl) (R_idxI (i:=(i)) (@rfl V (ints t.ni)) (@rfl V (iV (i))) (by omega) (by omega) rfl ?_)))))))
    refine G_yes (edT g4 rfl) (R_load_pp rfl rfl (G_yes (edT g4 rfl) (R_fk rfl rfl (G_yes (edT g4 rfl) (R_lk rfl rfl rfl rfl (G_yes (edT g4 rfl) (R_eql rfl rfl ?_)))))))
    refine R_pickT (edT g4 rfl) rfl ?_
    exact ⟨(dec_andT g4),rfl,rfl,rfl,trivial⟩
   ·
    refine G_n (edF g4 rfl) (G_n (edF g4 rfl) (G_n (edF g4 rfl) (G_n (edF g4 rfl) (G_n (edF g4 rfl) (G_n (edF g4 rfl) (G_n (edF g4 rfl) (G_n (edF g4 rfl) ?_)))))))
    refine R_pickF (edF g4 rfl) rfl ?_
    exact ⟨(dec_andF g4),rfl,rfl,rfl,trivial⟩
  intro T H ⟨t36,h5,h6,h9,_⟩
  refine R_mv t36 (R_e (W_ret (y1 _ _ ?_)))
  refine Ret_1 (@rfl V (V.bool (decide ((¬((i)=((t.ni.length:Nat):Int)))∧(((nth (t.ni) (i).toNat))=(f.arg)))))) (fz_bool ?_)
  · unfold satP; rw [if_neg (by omega),if_pos (by omega)]; rw [← Bool.decide_and]; exact decide_eq_decide.2 (by omega)
 refine W_r (R_eql rfl rfl (R_mv rfl (R_e ?_)))
 refine W_if rfl (fun c5=>?_) fun c5=>?_
 ·
  refine W_r (R_mv rfl (R_not rfl (R_mv rfl ?_)))
  refine Ops_seg 9 (fun T H=>T 50=(V.bool (decide ((¬((i)=((t.ni.length:Nat):Int)))∧(((nth (t.no) (i).toNat))=(f.arg)))))∧H 5=(bk 1 24 3 [[(iV (f.op)),(iV (f.arg)),(V.sl (List.map cF (f.kids)))]])∧H 6=(bk 1 51 2 [[(ints t.ni),(ints t.no)]])∧H 9=(bk 1 3 1 [[(iV (i))]])∧True) ?_ ?_
  ·
   by_cases g6: ¬((i)=((t.ni.length:Nat):Int))
   ·
    refine G_yes (edT g6 rfl) (R_fk rfl rfl (G_yes (edT g6 rfl) (R_lk rfl rfl rfl rfl (G_yes (edT g6 rfl) (R_lk rfl rfl rfl rfl (G_yes (edT g6 rfl) (R_idxI (i:=(i)) (@rfl V (ints t.no)) (@rfl V (iV (i))) (by omega) (by omega) rfl ?_)))))))
    refine G_yes (edT g6 rfl) (R_load_pp rfl rfl (G_yes (edT g6 rfl) (R_fk rfl rfl (G_yes (edT g6 rfl) (R_lk rfl rfl rfl rfl (G_yes (edT g6 rfl) (R_eql rfl rfl ?_)))))))
    refine R_pickT (edT g6 rfl) rfl ?_
    exact ⟨(dec_andT g6),rfl,rfl,rfl,trivial⟩
   ·
    refine G_n (edF g6 rfl) (G_n (edF g6 rfl) (G_n (edF g6 rfl) (G_n (edF g6 rfl) (G_n (edF g6 rfl) (G_n (edF g6 rfl) (G_n (edF g6 rfl) (G_n (edF g6 rfl) ?_)))))))
    refine R_pickF (edF g6 rfl) rfl ?_
    exact ⟨(dec_andF g6),rfl,rfl,rfl,trivial⟩
  intro T H ⟨t50,h5,h6,h9,_⟩
  refine R_mv t50 (R_e (W_ret (y1 _ _ ?_)))
  refine Ret_1 (@rfl V (V.bool (decide ((¬((i)=((t.ni.length:Nat):Int)))∧(((nth (t.no) (i).toNat))=(f.arg)))))) (fz_bool ?_)
  · unfold satP; rw [if_neg (by omega),if_neg (by omega),if_pos (by omega)]; rw [← Bool.decide_and]; exact decide_eq_decide.2 (by omega)
 refine W_r (R_eql rfl rfl (R_mv rfl (R_e ?_)))
 refine W_if rfl (fun c7=>?_) fun c7=>?_
 ·
  refine W_r (R_mv rfl (R_idx (i:=0) (@rfl V (V.sl (List.map cBL (K)))) (@rfl V (iV ((0:Nat):Int))) (by omega) rfl (R_load_pp rfl rfl (R_lk rfl rfl rfl rfl (R_idxI (i:=(i)) (@rfl V (V.sl (List.map cB ((nth (K) (0)))))) (@rfl V (iV (i))) (by omega) (by omega) rfl (R_load_pp rfl rfl (R_notb rfl ?_)))))))
  refine R_mv rfl (R_e (W_ret (y1 _ _ ?_)))
  refine Ret_1 (@rfl V (V.bool ((!(nth ((nth (K) (0))) (i).toNat))))) (fz_bool ?_)
  · unfold satP; rw [if_neg (by omega),if_neg (by omega),if_neg (by omega),if_pos (by omega)]
 refine W_r (R_eql rfl rfl (R_mv rfl (R_e ?_)))
 refine W_if rfl (fun c8=>?_) fun c8=>?_
 ·
  refine W_r (R_mv rfl (R_mkf (evcons rfl evnil) (R_call (evcons (@rfl V (V.sl (List.map cBL (K)))) (evcons (@rfl V (V.fn 89 [] [(V.mp 9 1 0 0)])) evnil)) (conb_pure (fun r=> !nth r i.toNat) K 89 ([(V.pp [(iV (i))])]) (by simp) (by simp) (fun k hk=>sat2_pure (nth K k) i h0 (by rw [hr k hk]; omega))) (mcons (fzv_canon 6 _ (by simp [-List.map_take,-List.map_drop,-List.map_append,-List.map_reverse])) (mcons (by rfl) rfl)) (by simp [-List.map_take,-List.map_drop,-List.map_append,-List.map_reverse]) (Or.inr rfl) (R_not rfl (R_mv rfl (R_e (W_ret ?_)))))))
  refine y1 _ _ ?_
  refine Ret_1 (@rfl V (V.bool (decide (¬(0≤fi (fun jx=>(fun r=> !nth r i.toNat) (nth K jx)) 0 K.length))))) (fz_bool ?_)
  · unfold satP; rw [if_neg (by omega),if_neg (by omega),if_neg (by omega),if_neg (by omega),if_pos (by omega)]; rw [decide_not]; exact fi_all (p:=fun r=>nth r i.toNat)
 refine W_r (R_eql rfl rfl (R_mv rfl (R_e ?_)))
 refine W_if rfl (fun c9=>?_) fun c9=>?_
 ·
  refine W_r (R_mv rfl (R_mv rfl (R_call (evcons (@rfl V (V.sl (List.map cBL (K)))) (evcons (@rfl V (V.fn 87 [] [(V.mp 9 1 0 0)])) evnil)) (conb_pure (fun r=>nth r i.toNat) K 87 ([(V.pp [(iV (i))])]) (by simp) (by simp) (fun k hk=>sat1_pure (nth K k) i h0 (by rw [hr k hk]; omega))) (mcons (fzv_canon 6 _ (by simp [-List.map_take,-List.map_drop,-List.map_append,-List.map_reverse])) (mcons (by rfl) rfl)) (by simp [-List.map_take,-List.map_drop,-List.map_append,-List.map_reverse]) (Or.inr rfl) (R_mv rfl (R_e (W_ret (y1 _ _ ?_)))))))
  refine Ret_1 (@rfl V (V.bool (decide (0≤fi (fun jx=>(fun r=>nth r i.toNat) (nth K jx)) 0 K.length)))) (fz_bool ?_)
  · unfold satP; rw [if_neg (by omega),if_neg (by omega),if_neg (by omega),if_neg (by omega),if_neg (by omega),if_pos (by omega)]; exact fi_any (p:=fun r=>nth r i.toNat)
 refine W_r (R_eql rfl rfl (R_mv rfl (R_e ?_)))
 refine W_if rfl (fun c10=>?_) fun c10=>?_
 ·
  refine W_r (R_mv rfl (R_not rfl (R_mv rfl ?_)))
  refine Ops_seg 8 (fun T H=>T 83=(V.bool ((decide (¬((i)=((t.ni.length:Nat):Int)))&&((nth ((nth (K) (0))) ((i)+(1:Int)).toNat)))))∧H 5=(bk 1 24 3 [[(iV (f.op)),(iV (f.arg)),(V.sl (List.map cF (f.kids)))]])∧H 6=(bk 1 51 2 [[(ints t.ni),(ints t.no)]])∧H 9=(bk 1 3 1 [[(iV (i))]])∧True) ?_ ?_
  ·
   by_cases g11: ¬((i)=((t.ni.length:Nat):Int))
   ·
    refine G_yes (edT g11 rfl) (R_mv rfl (G_yes (edT g11 rfl) (R_idx (i:=0) (@rfl V (V.sl (List.map cBL (K)))) (@rfl V (iV ((0:Nat):Int))) (by omega) rfl (G_yes (edT g11 rfl) (R_load_pp rfl rfl (G_yes (edT g11 rfl) (R_lk rfl rfl rfl rfl ?_)))))))
    refine G_yes (edT g11 rfl) (R_add rfl rfl (by omega) (by omega) (G_yes (edT g11 rfl) (R_idxI (i:=((i)+(1:Int))) (@rfl V (V.sl (List.map cB ((nth (K) (0)))))) (@rfl V (iV ((i)+(1:Int)))) (by omega) (by omega) rfl (G_yes (edT g11 rfl) (R_load_pp rfl rfl (R_pickT (edT g11 rfl) rfl ?_))))))
    exact ⟨(dbandT g11),rfl,rfl,rfl,trivial⟩
   ·
    refine G_n (edF g11 rfl) (G_n (edF g11 rfl) (G_n (edF g11 rfl) (G_n (edF g11 rfl) (G_n (edF g11 rfl) (G_n (edF g11 rfl) (G_n (edF g11 rfl) (R_pickF (edF g11 rfl) rfl ?_)))))))
    exact ⟨(dbandF g11),rfl,rfl,rfl,trivial⟩
  intro T H ⟨t83,h5,h6,h9,_⟩
  refine R_mv t83 (R_e (W_ret (y1 _ _ ?_)))
  refine Ret_1 (@rfl V (V.bool ((decide (¬((i)=((t.ni.length:Nat):Int)))&&((nth ((nth (K) (0))) ((i)+(1:Int)).toNat)))))) (fz_bool ?_)
  · unfold satP; rw [if_neg (by omega),if_neg (by omega),if_neg (by omega),if_neg (by omega),if_neg (by omega),if_neg (by omega),if_pos (by omega)]; rw [show (i+1).toNat=i.toNat+1 by omega]; congr 1; exact decide_eq_decide.2 (by omega)
 refine W_r (R_eql rfl rfl (R_mv rfl (R_e ?_)))
 refine W_if rfl (fun c12=>?_) fun c12=>?_
 ·
  refine W_seq_regc (fun T H=>T 10=(V.bool ((decide ((i)=((t.ni.length:Nat):Int))||((nth ((nth (K) (0))) ((i)+(1:Int)).toNat)))))∧H 5=(bk 1 24 3 [[(iV (f.op)),(iV (f.arg)),(V.sl (List.map cF (f.kids)))]])∧H 6=(bk 1 51 2 [[(ints t.ni),(ints t.no)]])∧H 9=(bk 1 3 1 [[(iV (i))]])∧True) ?_ ?_
  ·
   refine R_mv rfl (R_mv rfl ?_)
   refine Ops_seg 8 (fun T H=>T 95=(V.bool ((decide ((i)=((t.ni.length:Nat):Int))||((nth ((nth (K) (0))) ((i)+(1:Int)).toNat)))))∧H 5=(bk 1 24 3 [[(iV (f.op)),(iV (f.arg)),(V.sl (List.map cF (f.kids)))]])∧H 6=(bk 1 51 2 [[(ints t.ni),(ints t.no)]])∧H 9=(bk 1 3 1 [[(iV (i))]])∧True) ?_ ?_
   ·
    by_cases g13:(i)=((t.ni.length:Nat):Int)
    ·
     refine G_n (edT g13 rfl) (G_n (edT g13 rfl) (G_n (edT g13 rfl) (G_n (edT g13 rfl) (G_n (edT g13 rfl) (G_n (edT g13 rfl) (G_n (edT g13 rfl) (R_pickT (edT g13 rfl) rfl ?_)))))))
     exact ⟨(dborT g13),rfl,rfl,rfl,trivial⟩
    ·
     refine G_yes (edF g13 rfl) (R_mv rfl (G_yes (edF g13 rfl) (R_idx (i:=0) (@rfl V (V.sl (List.map cBL (K)))) (@rfl V (iV ((0:Nat):Int))) (by omega) rfl (G_yes (edF g13 rfl) (R_load_pp rfl rfl (G_yes (edF g13 rfl) (R_lk rfl rfl rfl rfl ?_)))))))
     refine G_yes (edF g13 rfl) (R_add rfl rfl (by omega) (by omega) (G_yes (edF g13 rfl) (R_idxI (i:=((i)+(1:Int))) (@rfl V (V.sl (List.map cB ((nth (K) (0)))))) (@rfl V (iV ((i)+(1:Int)))) (by omega) (by omega) rfl (G_yes (edF g13 rfl) (R_load_pp rfl rfl (R_pickF (edF g13 rfl) rfl ?_))))))
     exact ⟨(dborF g13),rfl,rfl,rfl,trivial⟩
   intro T H ⟨t95,h5,h6,h9,_⟩
   refine R_mv t95 ?_
   exact R_nil ⟨rfl,h5,h6,h9,trivial⟩
  intro T H ⟨t10,h5,h6,h9,_⟩
  refine W_ret (y1 _ _ ?_)
  refine Ret_1 t10 (fz_bool ?_)
  · unfold satP; rw [if_neg (by omega),if_neg (by omega),if_neg (by omega),if_neg (by omega),if_neg (by omega),if_neg (by omega),if_neg (by omega),if_pos (by omega)]; rw [show (i+1).toNat=i.toNat+1 by omega]; congr 1; exact decide_eq_decide.2 (by omega)
 refine W_r (R_eql rfl rfl (R_mv rfl (R_e ?_)))
 refine W_if rfl (fun c14=>?_) fun c14=>?_
 ·
  refine W_seq_regc (fun T H=>T 10=(V.bool ((((nth ((nth (K) (1))) (i).toNat))||((((decide (¬((i)=((t.ni.length:Nat):Int)))&&((nth ((nth (K) (0))) (i).toNat))))&&((nth (B) ((i)+(1:Int)).toNat)))))))∧H 5=(bk 1 24 3 [[(iV (f.op)),(iV (f.arg)),(V.sl (List.map cF (f.kids)))]])∧H 6=(bk 1 51 2 [[(ints t.ni),(ints t.no)]])∧H 9=(bk 1 3 1 [[(iV (i))]])∧True) ?_ ?_
  ·
   refine R_mv rfl (R_idx (i:=1) (@rfl V (V.sl (List.map cBL (K)))) (@rfl V (iV ((1:Nat):Int))) (by omega) rfl (R_load_pp rfl rfl (R_lk rfl rfl rfl rfl (R_idxI (i:=(i)) (@rfl V (V.sl (List.map cB ((nth (K) (1)))))) (@rfl V (iV (i))) (by omega) (by omega) rfl (R_load_pp rfl rfl (R_mv rfl ?_))))))
   refine Ops_seg 18 (fun T H=>T 122=(V.bool ((((nth ((nth (K) (1))) (i).toNat))||((((decide (¬((i)=((t.ni.length:Nat):Int)))&&((nth ((nth (K) (0))) (i).toNat))))&&((nth (B) ((i)+(1:Int)).toNat)))))))∧H 5=(bk 1 24 3 [[(iV (f.op)),(iV (f.arg)),(V.sl (List.map cF (f.kids)))]])∧H 6=(bk 1 51 2 [[(ints t.ni),(ints t.no)]])∧H 9=(bk 1 3 1 [[(iV (i))]])∧True) ?_ ?_
   ·
    by_cases g15:((nth ((nth (K) (1))) (i).toNat))=true
    ·
     refine G_n (ebT g15 rfl) (G_n (ebT g15 rfl) (G_n (ebT g15 rfl) (G_raw (@rfl V (V.raw undef)) (G_raw (@rfl V (V.raw undef)) (G_raw (@rfl V (V.raw undef)) (G_raw (@rfl V (V.raw undef)) (G_raw (@rfl V (V.raw undef)) ?_)))))))
     refine G_raw (@rfl V (V.raw undef)) (G_n (ebT g15 rfl) (G_n (ebT g15 rfl) (G_raw (@rfl V (V.raw undef)) (G_raw (@rfl V (V.raw undef)) (G_raw (@rfl V (V.raw undef)) (G_raw (@rfl V (V.raw undef)) (G_raw (@rfl V (V.raw undef)) ?_)))))))
     refine G_n (ebT g15 rfl) (R_pickT (ebT g15 rfl) rfl ?_)
     exact ⟨(borT g15),rfl,rfl,rfl,trivial⟩
    ·
     refine G_yes (ebF g15 rfl) (R_mv rfl (G_yes (ebF g15 rfl) (R_not rfl (G_yes (ebF g15 rfl) (R_mv rfl ?_)))))
     refine Ops_seg 7 (fun T H=>T 3=(V.sl (List.map cB (B)))∧T 9=(V.mp 9 1 0 0)∧T 104=(V.bool false)∧T 114=(V.bool ((decide (¬((i)=((t.ni.length:Nat):Int)))&&((nth ((nth (K) (0))) (i).toNat)))))∧H 5=(bk 1 24 3 [[(iV (f.op)),(iV (f.arg)),(V.sl (List.map cF (f.kids)))]])∧H 6=(bk 1 51 2 [[(ints t.ni),(ints t.no)]])∧H 9=(bk 1 3 1 [[(iV (i))]])∧True) ?_ ?_
     ·
      by_cases g16: ¬((i)=((t.ni.length:Nat):Int))
      ·
       refine G_yes (edT g16 rfl) (R_mv rfl (G_yes (edT g16 rfl) (R_idx (i:=0) (@rfl V (V.sl (List.map cBL (K)))) (@rfl V (iV ((0:Nat):Int))) (by omega) rfl (G_yes (edT g16 rfl) (R_load_pp rfl rfl (G_yes (edT g16 rfl) (R_lk rfl rfl rfl rfl ?_)))))))
       refine G_yes (edT g16 rfl) (R_idxI (i:=(i)) (@rfl V (V.sl (List.map cB ((nth (K) (0)))))) (@rfl V (iV (i))) (by omega) (by omega) rfl (G_yes (edT g16 rfl) (R_load_pp rfl rfl (G_yes (ebF g15 rfl) (R_pickT (edT g16 rfl) rfl ?_)))))
       exact ⟨rfl,rfl,(ebF g15 rfl),(dbandT g16),rfl,rfl,rfl,trivial⟩
      ·
       refine G_n (edF g16 rfl) (G_n (edF g16 rfl) (G_n (edF g16 rfl) (G_n (edF g16 rfl) (G_n (edF g16 rfl) (G_n (edF g16 rfl) (G_yes (ebF g15 rfl) (R_pickF (edF g16 rfl) rfl ?_)))))))
       exact ⟨rfl,rfl,(ebF g15 rfl),(dbandF g16),rfl,rfl,rfl,trivial⟩
     intro T H ⟨t3,t9,t104,t114,h5,h6,h9,_⟩
     refine G_yes t104 (R_mv t114 ?_)
     refine Ops_seg 6 (fun T H=>T 104=(V.bool false)∧T 121=(V.bool ((((decide (¬((i)=((t.ni.length:Nat):Int)))&&((nth ((nth (K) (0))) (i).toNat))))&&((nth (B) ((i)+(1:Int)).toNat)))))∧H 5=(bk 1 24 3 [[(iV (f.op)),(iV (f.arg)),(V.sl (List.map cF (f.kids)))]])∧H 6=(bk 1 51 2 [[(ints t.ni),(ints t.no)]])∧H 9=(bk 1 3 1 [[(iV (i))]])∧True) ?_ ?_
     ·
      by_cases g17:((decide (¬((i)=((t.ni.length:Nat):Int)))&&((nth ((nth (K) (0))) (i).toNat))))=true
      ·
       have g17x:=g17
       simp only [Bool.and_eq_true,Bool.or_eq_true,Bool.not_eq_true',decide_eq_true_eq] at g17x
       refine G_yes (ebT g17 rfl) (R_mv t3 (G_yes (ebT g17 rfl) (R_lk t9 h9 rfl rfl (G_yes (ebT g17 rfl) (R_add rfl rfl (by omega) (by omega) (G_yes (ebT g17 rfl) (R_idxI (i:=((i)+(1:Int))) (@rfl V (V.sl (List.map cB (B)))) (@rfl V (iV ((i)+(1:Int)))) (by omega) (by omega) rfl ?_)))))))
       refine G_yes (ebT g17 rfl) (R_load_pp rfl rfl (G_yes t104 (R_pickT (ebT g17 rfl) rfl ?_)))
       exact ⟨t104,(bandT g17),h5,h6,h9,trivial⟩
      ·
       have g17x:=g17
       simp only [Bool.and_eq_true,Bool.or_eq_true,Bool.not_eq_true',decide_eq_true_eq] at g17x
       refine G_n (ebF g17 rfl) (G_n (ebF g17 rfl) (G_n (ebF g17 rfl) (G_n (ebF g17 rfl) (G_n (ebF g17 rfl) (G_yes t104 (R_pickF (ebF g17 rfl) rfl ?_))))))
       exact ⟨t104,(bandF g17),h5,h6,h9,trivial⟩
     intro T H ⟨t104,t121,h5,h6,h9,_⟩
     refine R_pickF t104 t121 ?_
     exact ⟨(borF g15),h5,h6,h9,trivial⟩
   intro T H ⟨t122,h5,h6,h9,_⟩
   refine R_mv t122 ?_
   exact R_nil ⟨rfl,h5,h6,h9,trivial⟩
  intro T H ⟨t10,h5,h6,h9,_⟩
  refine W_ret (y1 _ _ ?_)
  refine Ret_1 t10 (fz_bool ?_)
  · unfold satP; rw [if_neg (by omega),if_neg (by omega),if_neg (by omega),if_neg (by omega),if_neg (by omega),if_neg (by omega),if_neg (by omega),if_neg (by omega),if_pos (by omega)]; rw [show (i+1).toNat=i.toNat+1 by omega]; congr 1; congr 1; congr 1; exact decide_eq_decide.2 (by omega)
 refine W_skip (n1 _ _ (.done ?_))
 refine W_seq_regc (fun T H=>T 10=(V.bool ((((nth ((nth (K) (1))) (i).toNat))&&((((decide ((i)=((t.ni.length:Nat):Int))||((nth ((nth (K) (0))) (i).toNat))))||((nth (B) ((i)+(1:Int)).toNat)))))))∧H 5=(bk 1 24 3 [[(iV (f.op)),(iV (f.arg)),(V.sl (List.map cF (f.kids)))]])∧H 6=(bk 1 51 2 [[(ints t.ni),(ints t.no)]])∧H 9=(bk 1 3 1 [[(iV (i))]])∧True) ?_ ?_
 ·
  refine R_mv rfl (R_idx (i:=1) (@rfl V (V.sl (List.map cBL (K)))) (@rfl V (iV ((1:Nat):Int))) (by omega) rfl (R_load_pp rfl rfl (R_lk rfl rfl rfl rfl (R_idxI (i:=(i)) (@rfl V (V.sl (List.map cB ((nth (K) (1)))))) (@rfl V (iV (i))) (by omega) (by omega) rfl (R_load_pp rfl rfl (R_mv rfl ?_))))))
  refine Ops_seg 17 (fun T H=>T 146=(V.bool ((((nth ((nth (K) (1))) (i).toNat))&&((((decide ((i)=((t.ni.length:Nat):Int))||((nth ((nth (K) (0))) (i).toNat))))||((nth (B) ((i)+(1:Int)).toNat)))))))∧H 5=(bk 1 24 3 [[(iV (f.op)),(iV (f.arg)),(V.sl (List.map cF (f.kids)))]])∧H 6=(bk 1 51 2 [[(ints t.ni),(ints t.no)]])∧H 9=(bk 1 3 1 [[(iV (i))]])∧True) ?_ ?_
  ·
   by_cases g18:((nth ((nth (K) (1))) (i).toNat))=true
   ·
    refine G_yes (ebT g18 rfl) (R_mv rfl (G_yes (ebT g18 rfl) (R_mv rfl ?_)))
    refine Ops_seg 7 (fun T H=>T 3=(V.sl (List.map cB (B)))∧T 9=(V.mp 9 1 0 0)∧T 129=(V.bool true)∧T 138=(V.bool ((decide ((i)=((t.ni.length:Nat):Int))||((nth ((nth (K) (0))) (i).toNat)))))∧H 5=(bk 1 24 3 [[(iV (f.op)),(iV (f.arg)),(V.sl (List.map cF (f.kids)))]])∧H 6=(bk 1 51 2 [[(ints t.ni),(ints t.no)]])∧H 9=(bk 1 3 1 [[(iV (i))]])∧True) ?_ ?_
    ·
     by_cases g19:(i)=((t.ni.length:Nat):Int)
     ·
      refine G_n (edT g19 rfl) (G_n (edT g19 rfl) (G_n (edT g19 rfl) (G_n (edT g19 rfl) (G_n (edT g19 rfl) (G_n (edT g19 rfl) (G_yes (ebT g18 rfl) (R_pickT (edT g19 rfl) rfl ?_)))))))
      exact ⟨rfl,rfl,(ebT g18 rfl),(dborT g19),rfl,rfl,rfl,trivial⟩
     ·
      refine G_yes (edF g19 rfl) (R_mv rfl (G_yes (edF g19 rfl) (R_idx (i:=0) (@rfl V (V.sl (List.map cBL (K)))) (@rfl V (iV ((0:Nat):Int))) (by omega) rfl (G_yes (edF g19 rfl) (R_load_pp rfl rfl (G_yes (edF g19 rfl) (R_lk rfl rfl rfl rfl ?_)))))))
      refine G_yes (edF g19 rfl) (R_idxI (i:=(i)) (@rfl V (V.sl (List.map cB ((nth (K) (0)))))) (@rfl V (iV (i))) (by omega) (by omega) rfl (G_yes (edF g19 rfl) (R_load_pp rfl rfl (G_yes (ebT g18 rfl) (R_pickF (edF g19 rfl) rfl ?_)))))
      exact ⟨rfl,rfl,(ebT g18 rfl),(dborF g19),rfl,rfl,rfl,trivial⟩
    intro T H ⟨t3,t9,t129,t138,h5,h6,h9,_⟩
    refine G_yes t129 (R_mv t138 ?_)
    refine Ops_seg 6 (fun T H=>T 129=(V.bool true)∧T 145=(V.bool ((((decide ((i)=((t.ni.length:Nat):Int))||((nth ((nth (K) (0))) (i).toNat))))||((nth (B) ((i)+(1:Int)).toNat)))))∧H 5=(bk 1 24 3 [[(iV (f.op)),(iV (f.arg)),(V.sl (List.map cF (f.kids)))]])∧H 6=(bk 1 51 2 [[(ints t.ni),(ints t.no)]])∧H 9=(bk 1 3 1 [[(iV (i))]])∧True) ?_ ?_
    ·
     by_cases g20:((decide ((i)=((t.ni.length:Nat):Int))||((nth ((nth (K) (0))) (i).toNat))))=true
     ·
      have g20x:=g20
      simp only [Bool.and_eq_true,Bool.or_eq_true,Bool.not_eq_true',decide_eq_true_eq] at g20x
      refine G_n (ebT g20 rfl) (G_n (ebT g20 rfl) (G_n (ebT g20 rfl) (G_n (ebT g20 rfl) (G_n (ebT g20 rfl) (G_yes t129 (R_pickT (ebT g20 rfl) rfl ?_))))))
      exact ⟨t129,(borT g20),h5,h6,h9,trivial⟩
     ·
      have g20x:=g20
      simp only [Bool.and_eq_true,Bool.or_eq_true,Bool.not_eq_true',decide_eq_true_eq] at g20x
      refine G_yes (ebF g20 rfl) (R_mv t3 (G_yes (ebF g20 rfl) (R_lk t9 h9 rfl rfl (G_yes (ebF g20 rfl) (R_add rfl rfl (by omega) (by omega) (G_yes (ebF g20 rfl) (R_idxI (i:=((i)+(1:Int))) (@rfl V (V.sl (List.map cB (B)))) (@rfl V (iV ((i)+(1:Int)))) (by omega) (by omega) rfl ?_)))))))
      refine G_yes (ebF g20 rfl) (R_load_pp rfl rfl (G_yes t129 (R_pickF (ebF g20 rfl) rfl ?_)))
      exact ⟨t129,(borF g20),h5,h6,h9,trivial⟩
    intro T H ⟨t129,t145,h5,h6,h9,_⟩
    refine R_pickT t129 t145 ?_
    exact ⟨(bandT g18),h5,h6,h9,trivial⟩
   ·
    refine G_n (ebF g18 rfl) (G_n (ebF g18 rfl) (G_raw (@rfl V (V.raw undef)) (G_raw (@rfl V (V.raw undef)) (G_raw (@rfl V (V.raw undef)) (G_raw (@rfl V (V.raw undef)) (G_raw (@rfl V (V.raw undef)) (G_raw (@rfl V (V.raw undef)) ?_)))))))
    refine G_n (ebF g18 rfl) (G_n (ebF g18 rfl) (G_raw (@rfl V (V.raw undef)) (G_raw (@rfl V (V.raw undef)) (G_raw (@rfl V (V.raw undef)) (G_raw (@rfl V (V.raw undef)) (G_raw (@rfl V (V.raw undef)) (G_n (ebF g18 rfl) ?_)))))))
    refine R_pickF (ebF g18 rfl) rfl ?_
    exact ⟨(bandF g18),rfl,rfl,rfl,trivial⟩
  intro T H ⟨t146,h5,h6,h9,_⟩
  refine R_mv t146 ?_
  exact R_nil ⟨rfl,h5,h6,h9,trivial⟩
 intro T H ⟨t10,h5,h6,h9,_⟩
 refine W_ret ?_
 refine Ret_1 t10 (fz_bool ?_)
 · unfold satP; rw [if_neg (by omega),if_neg (by omega),if_neg (by omega),if_neg (by omega),if_neg (by omega),if_neg (by omega),if_neg (by omega),if_neg (by omega),if_neg (by omega)]; rw [show (i+1).toNat=i.toNat+1 by omega]; congr 1; congr 1; congr 1; exact decide_eq_decide.2 (by omega)
end Go.Proofs.Ytdmcmkccifmofaa
namespace Go.Proofs.Ytdmcmkccifmofaa
open Go Go.Proofs
attribute [local irreducible] mksV
theorem rests_pure_step (f:Fm) (t:Tr) (hf:okF f=true) (hz:f.sz≤4096) (ht:t.no.length=t.ni.length) (hn:t.ni.length≤1024) (ih: ∀ (g:Fm) (t:Tr),g.sz < f.sz→okF g=true→g.sz≤4096→t.no.length=t.ni.length→t.ni.length≤1024→PureC Try.prog 48 [(V.agg [(iV (g.op)),(iV (g.arg)),(V.sl (List.map cF (g.kids)))]),(V.agg [(ints t.ni),(ints t.no)])] (V.sl (List.map cB ((rst t g))))):PureC Try.prog 48 [(V.agg [(iV (f.op)),(iV (f.arg)),(V.sl (List.map cF (f.kids)))]),(V.agg [(ints t.ni),(ints t.no)])] (V.sl (List.map cB ((rst t f)))):=by
 refine pW Try.func48 s48_ok fun hB=>?_
 unfold s48
 dsimp only
 have hp:=okF_parts hf
 have hr:=rgt_ok hp.1
 have hln:=f.sz_len
 refine W_r (R_box (i:=2) (n:=0) (m:=3) (cs:=[(iV (f.op)),(iV (f.arg)),(V.sl (List.map cF (f.kids)))]) rfl (congrArg Blk.ver rfl) rfl rfl rfl (R_box (i:=3) (n:=0) (m:=2) (cs:=[(ints t.ni),(ints t.no)]) rfl (congrArg Blk.ver rfl) rfl rfl rfl (R_mv rfl (R_e (W_r (R_fk rfl rfl (R_lk rfl rfl rfl rfl ?_)))))))
 refine R_len rfl (R_mv rfl (R_e (W_r (R_lazy (i:=6) (n:=0) rfl (congrArg Blk.ver rfl) (R_e (W_seq_seq (W_r ?_)))))))
 refine R_fk rfl rfl (R_lk rfl rfl rfl rfl (R_len rfl (R_mv rfl (R_e (W_seq_blockg fun Q1 n1 x1 y1 z1=>?_)))))
 refine W_loop (fun mm T H=> ∃ (k:Nat) (v:Nat) (v8:Nat),mm=f.kids.length - k∧T 2=(V.mp 2 1 0 0)∧T 3=(V.mp 3 1 0 0)∧T 5=(iV ((t.ni.length:Nat):Int))∧T 6=(V.ms 6 v 0 (k))∧T 15=(V.sl (List.map cF (f.kids)))∧T 16=(iV ((f.kids.length:Nat):Int))∧T 17=(iV ((k:Nat):Int))∧H 2=(bk 1 24 3 [[(iV (f.op)),(iV (f.arg)),(V.sl (List.map cF (f.kids)))]])∧H 3=(bk 1 51 2 [[(ints t.ni),(ints t.no)]])∧H 6=(bz v 98 1 (List.map cBL ((f.kids.take k).map (rst t))))∧(H 8).ver=v8∧H 30=(⟨0,false,false,0,0,[]⟩:Blk)∧(k≤f.kids.length)) ?_ ?_
 ·
  refine ⟨_,0,1,0,rfl,rfl,rfl,rfl,rfl,rfl,rfl,(Eq.trans (@rfl V (iV (0:Int))) rfl),rfl,rfl,(Eq.trans (@rfl Blk (bz 1 98 1 [])) (by rfl)),(congrArg Blk.ver rfl),rfl,?_⟩
  · omega
 intro mm T H ⟨k,v,v8,hmm,t2,t3,t5,t6,t15,t16,t17,h2,h3,h6,h8,h30,hk⟩ Q2 p12 p22 p32
 unfold b48_0
 refine W_r (R_lss t17 t16 (R_e ?_))
 refine W_seq_if rfl (fun c3=>?_) fun c3=>?_
 ·
  refine W_seq_skip (W_seq_blockg fun Q4 n4 x4 y4 z4=>(W_r (R_idxu (i:=k) t15 t17 (by omega) (cF_eq _) rfl (R_load_pp rfl rfl (R_alloc (i:=8) (n:=v8) (m:=3) rfl h8 rfl (R_sk rfl rfl rfl rfl rfl rfl rfl rfl rfl (R_e ?_)))))))
  refine W_t (R_mv t6 (R_lk rfl rfl rfl rfl (R_lk t3 h3 rfl rfl (R_callk (ih (((nth (f.kids) (k)))) t (Fm.sz_kid (by omega)) (hp.2 _ (by omega)) (Nat.le_trans (Nat.le_of_lt (Fm.sz_kid (by omega))) hz) (by omega) (by omega)) rfl (R_bslice rfl rfl (R_append1 (l:=((f.kids.take k).map (rst t))) (f:=cBL) (x:=((rst t (((nth (f.kids) (k))))))) (@rfl V (V.ms 6 v 0 (k))) h6 (by (simp; omega)) (@rfl V (V.sl [[(V.sl (List.map cB ((rst t (((nth (f.kids) (k))))))))]])) rfl rfl (by omega) (by omega) (R_mv rfl ?_)))))))
  refine R_e (n4 _ _ (.done (W_t (R_addN t17 (@rfl V (iV ((1:Nat):Int))) (by omega) (R_mv rfl (R_e ?_))))))
  refine p12 _ _ _ ?_ ⟨(k+1),(v+1),(v8+1),rfl,t2,t3,t5,(Eq.trans (@rfl V (V.ms 6 (v+1) 0 (k+1))) (by rfl)),t15,t16,(Eq.trans (@rfl V (iV ((k+1:Nat):Int))) (by rfl)),h2,h3,(Eq.trans (@rfl Blk (bz (v+1) 98 1 (List.map cBL ((f.kids.take k).map (rst t)++[(rst t (((nth (f.kids) (k)))))])))) (by (rw [mapTake (by omega)]; done))),(congrArg Blk.ver rfl),h30,?_⟩
  · omega
  · omega
 refine W_seq_exit (p32 _ _ _ (x1 _ _ (.done (W_r (R_mv t5 (R_addN rfl (@rfl V (iV ((1:Nat):Int))) (by omega) (R_mksm (i:=30) (n:=0) (m:=(t.ni.length+1)) (q:=(t.ni.length+1)) (f:=cB) (x:=false) rfl (congrArg Blk.ver h30) (@rfl V (iV ((t.ni.length+1:Nat):Int))) (@rfl V (iV ((t.ni.length+1:Nat):Int))) rfl (by omega) (by omega) (by omega) ?_)))))))
 refine R_mv rfl (R_e (W_seq_seq (W_r (R_mv t5 (R_mv rfl (R_e (W_seq_blockg fun Q5 n5 x5 y5 z5=>?_)))))))
 refine W_loop (fun mm T H=> ∃ (i:Int) (v:Nat),mm=(i+1).toNat∧T 2=(V.mp 2 1 0 0)∧T 3=(V.mp 3 1 0 0)∧T 6=(V.ms 6 v 0 (f.kids.length))∧T 9=(V.ms 30 1 0 (t.ni.length+1))∧T 10=(iV (i))∧H 2=(bk 1 24 3 [[(iV (f.op)),(iV (f.arg)),(V.sl (List.map cF (f.kids)))]])∧H 3=(bk 1 51 2 [[(ints t.ni),(ints t.no)]])∧H 6=(bz v 98 1 (List.map cBL (f.kids.map (rst t))))∧(H 8).ver=v8∧H 30=(bk 1 4 1 (List.map cB (outL t f i)))∧(-1≤i∧i≤t.ni.length)) ?_ ?_
 ·
  refine ⟨_,((t.ni.length:Nat):Int),v,rfl,t2,t3,(Eq.trans t6 (by (rw [show k=f.kids.length by omega]; done))),rfl,(Eq.trans (@rfl V (iV ((t.ni.length:Nat):Int))) (by rfl)),h2,h3,(Eq.trans h6 (by (rw [show k=f.kids.length by omega,List.take_length]; done))),h8,(Eq.trans (@rfl Blk (bk 1 4 1 (List.map cB (List.replicate (t.ni.length+1) false)))) (by (rw [outL_start]; done))),?_⟩
  · omega
 intro mm T H ⟨i,v,hmm,t2,t3,t6,t9,t10,h2,h3,h6,h8,h30,hi⟩ Q6 p16 p26 p36
 unfold b48_1
 have hol:=outL_len t f i
 refine W_seq_seq (W_r (R_mv t10 (R_geq rfl rfl (R_e ?_))))
 refine W_seq_if rfl (fun c7=>?_) fun c7=>?_
 ·
  refine W_seq_skip (W_seq_blockg fun Q8 n8 x8 y8 z8=>(W_t (R_mv t9 (R_mv t10 (R_lk t2 h2 rfl rfl (R_lk t3 h3 rfl rfl (R_mv t6 ?_)))))))
  refine R_mv t9 (R_mv t10 (R_call (evcons (@rfl V (V.agg [(iV (f.op)),(iV (f.arg)),(V.sl (List.map cF (f.kids)))])) (evcons (@rfl V (V.agg [(ints t.ni),(ints t.no)])) (evcons (@rfl V (V.ms 6 v 0 (f.kids.length))) (evcons (@rfl V (V.ms 30 1 0 (t.ni.length+1))) (evcons (@rfl V (iV (i))) evnil))))) (satisfied_pure f t (f.kids.map (rst t)) (outL t f i) ((i)) hp.1 (by omega) (by omega) (by omega) (by omega) (by simp) (fun q hq=>by rw [nthM (by simpa using hq),rst_len]) (outL_len _ _ _)) (mcons (fzv_canon 6 _ (by simp [-List.map_take,-List.map_drop,-List.map_append,-List.map_reverse])) (mcons (fzv_canon 6 _ (by simp [-List.map_take,-List.map_drop,-List.map_append,-List.map_reverse])) (mcons (fz_mst h6 (by simp) (take_map (l:=(f.kids.map (rst t))) (by simp)) (fun _=>by simp)) (mcons (fz_mst h30 (by rfl) (take_map (l:=(outL t f i)) (by exact (outL_len _ _ _).symm)) (fun _=>by simp)) (mcons (fzv_canon 6 _ (by simp [-List.map_take,-List.map_drop,-List.map_append,-List.map_reverse])) rfl))))) (by simp [-List.map_take,-List.map_drop,-List.map_append,-List.map_reverse]) (Or.inr rfl) (R_idxI_ms0 (i:=(i)) (@rfl V (V.ms 30 1 0 (t.ni.length+1))) (@rfl V (iV (i))) h30 oB rfl (by omega) (by omega) (R_store (vs:=[(V.bool (satP t f (f.kids.map (rst t)) (outL t f i) ((i)).toNat))]) (B':=(bk 1 4 1 (List.map cB ((outL t f i).set (((i)).toNat) (satP t f (f.kids.map (rst t)) (outL t f i) ((i)).toNat))))) rfl rfl rfl h30 (stB_map (x:=(satP t f (f.kids.map (rst t)) (outL t f i) ((i)).toNat)) (i:=(((i)).toNat)) (by omega) rfl rfl rfl rfl) (R_e (n8 _ _ (.done ?_)))))))
  refine W_t (R_mv t10 (R_sub rfl rfl (by omega) (by omega) (R_mv rfl (R_e ?_))))
  refine p16 _ _ _ ?_ ⟨(i - 1),v,rfl,t2,t3,t6,t9,(Eq.trans (@rfl V (iV ((i) - (1:Int)))) (by rfl)),h2,h3,h6,h8,(Eq.trans (@rfl Blk (bk 1 4 1 (List.map cB ((outL t f i).set (((i)).toNat) (satP t f (f.kids.map (rst t)) (outL t f i) ((i)).toNat))))) (by (rw [outL_step hp.1 (by omega) (by omega)]; done))),?_⟩
  · omega
  · omega
 refine W_seq_exit (p36 _ _ _ (x5 _ _ (.done (W_r (R_mv t9 (R_mv rfl (R_e ?_)))))))
 refine W_ret ?_
 refine Ret_1 (@rfl V (V.ms 30 1 0 (t.ni.length+1))) (fz_ms h30 (by rfl) (l:=(outL t f i)) rfl (by exact (outL_len _ _ _).symm) (fun _=>by simp) ?_)
 · rw [show i= -1 by omega,outL_end]
theorem rests_pure (f:Fm) (t:Tr) (hf:okF f=true) (hz:f.sz≤4096) (ht:t.no.length=t.ni.length) (hn:t.ni.length≤1024):PureC Try.prog 48 [(V.agg [(iV (f.op)),(iV (f.arg)),(V.sl (List.map cF (f.kids)))]),(V.agg [(ints t.ni),(ints t.no)])] (V.sl (List.map cB ((rst t f)))):=by
  have key: ∀ (mm:Nat) (f:Fm) (t:Tr),f.sz < mm→okF f=true→f.sz≤4096→t.no.length=t.ni.length→t.ni.length≤1024→PureC Try.prog 48 [(V.agg [(iV (f.op)),(iV (f.arg)),(V.sl (List.map cF (f.kids)))]),(V.agg [(ints t.ni),(ints t.no)])] (V.sl (List.map cB ((rst t f)))):=by
    intro mm
    induction mm with
    |zero=>intro f t hlt; exact absurd hlt (Nat.not_lt_zero _)
    | succ mm ih =>
      intro f t hlt hf hz ht hn
      exact rests_pure_step f t hf hz ht hn fun f2 t2 hlt2=>ih f2 t2 (by omega)
  exact key (f.sz+1) f t (Nat.lt_succ_self _) hf hz ht hn
end Go.Proofs.Ytdmcmkccifmofaa
namespace Go.Proofs.Ytdmcmkccifmofaa
open Go Go.Proofs
theorem holds_pure (f:Fm) (t:Tr):PureC Try.prog 23 [(V.agg [(iV (f.op)),(iV (f.arg)),(V.sl (List.map cF (f.kids)))]),(V.agg [(ints t.ni),(ints t.no)])] (V.tup [(V.bool (hoB t f)),(iV (hoE t f))]):=by
 refine pW Try.func23 s23_ok fun hB=>?_
 unfold s23
 dsimp only
 refine W_r (R_box (i:=2) (n:=0) (m:=3) (cs:=[(iV (f.op)),(iV (f.arg)),(V.sl (List.map cF (f.kids)))]) rfl (congrArg Blk.ver rfl) rfl rfl rfl (R_box (i:=3) (n:=0) (m:=2) (cs:=[(ints t.ni),(ints t.no)]) rfl (congrArg Blk.ver rfl) rfl rfl rfl (R_mv rfl (R_mv rfl (R_e (W_seq_seq (W_r ?_)))))))
 refine R_lk rfl rfl rfl rfl (R_callk (fvalid_pure f) rfl (R_mv rfl (R_e (W_seq_seq (W_r (R_mv rfl (R_neq rfl rfl ?_)))))))
 refine R_e ?_
 refine W_seq_if rfl (fun c1=>?_) fun c1=>?_
 ·
  have h0:hoE t f=fval f:=if_pos c1
  have hb0:hoB t f=false:=by unfold hoB; rw [h0,decide_eq_false (by omega)]; rfl
  refine W_seq_seq (W_r (R_mv rfl (R_mv rfl (R_mv rfl (R_e (W_seq_ret ?_))))))
  refine Ret_2 (@rfl V (V.bool false)) (@rfl V (iV (fval f))) (fz_bool ?_) (fz_int ?_)
  · rw [hb0]
  · omega
 have h1:fval f=0:=by omega
 refine W_seq_skip (W_seq_blockg fun Q2 n2 x2 y2 z2=>(W_r (R_fk rfl rfl (R_lk rfl rfl rfl rfl (R_len rfl (R_gtr rfl rfl (R_mv rfl ?_)))))))
 refine R_e ?_
 refine W_if rfl (fun c3=>?_) fun c3=>?_
 ·
  have h0:hoE t f=3:=by unfold hoE; rw [if_neg (by omega),if_pos (by omega)]
  have hb0:hoB t f=false:=by unfold hoB; rw [h0]; rfl
  refine W_r (R_mv rfl (R_mv rfl (R_e (W_ret (y2 _ _ ?_)))))
  refine Ret_2 (@rfl V (V.bool false)) (@rfl V (iV (3:Int))) (fz_bool ?_) (fz_int ?_)
  · rw [hb0]
  · omega
 refine W_r (R_fk rfl rfl (R_lk rfl rfl rfl rfl (R_len rfl (R_fk rfl rfl (R_lk rfl rfl rfl rfl (R_len rfl (R_neq rfl rfl ?_)))))))
 refine R_mv rfl (R_e ?_)
 refine W_if rfl (fun c4=>?_) fun c4=>?_
 ·
  have h0:hoE t f=1:=by unfold hoE; rw [if_neg (by omega),if_neg (by omega),if_pos (by omega)]
  have hb0:hoB t f=false:=by unfold hoB; rw [h0]; rfl
  refine W_r (R_mv rfl (R_mv rfl (R_e (W_ret (y2 _ _ ?_)))))
  refine Ret_2 (@rfl V (V.bool false)) (@rfl V (iV (1:Int))) (fz_bool ?_) (fz_int ?_)
  · rw [hb0]
  · omega
 have h0:hoE t f=0:=by unfold hoE; rw [if_neg (by omega),if_neg (by omega),if_neg (by omega)]
 have hb0:hoB t f=nth (rst t f) 0:=by unfold hoB; rw [h0,rst_nth (Nat.zero_le _)]; rfl
 have hrl:=rst_len t f
 refine W_skip (n2 _ _ (.done (W_r (R_lk rfl rfl rfl rfl (R_lk rfl rfl rfl rfl (R_callk (rests_pure f t (fval_ok h1) (fval_sz h1) (by omega) (by omega)) rfl (R_idx (i:=0) (@rfl V (V.sl (List.map cB ((rst t f))))) (@rfl V (iV ((0:Nat):Int))) (by omega) rfl ?_)))))))
 refine R_load_pp rfl rfl (R_mv rfl (R_mv rfl (R_e (W_ret ?_))))
 refine Ret_2 (@rfl V (V.bool ((nth ((rst t f)) (0))))) (@rfl V (iV (0:Int))) (fz_bool ?_) (fz_int ?_)
 · rw [hb0]
 · omega
def s27:SF:=⟨11,[.cell 6 true 3],.seq (.reg [sO 6 (.alloc 24 [.int .i64 0,.int .i64 0,.nilsl])]) (.seq (.reg [qM 7 0,qM 8 1,qM 9 2,sO 10 (.build [.int .i64 0,.int .i64 0,.nilsl] [(0,1,.t 7),(1,1,.t 8),(2,1,.t 9)]),sN (.store 3 (.t 6) (.t 10))]) (.ret))⟩
theorem s27_ok:slimF Try.prog ⟨[31,36,37,38,40,41,42,44,45,59,60,61,65,66,67,71,72,73,81,82,84,92,93,98,99,102,104],[],[],[]⟩ Try.f27=some s27:=by kernel_rfl
theorem lnode_pure (o a:Int) (l:List Fm):PureC Try.prog 27 [(iV (o)),(iV (a)),(V.sl (List.map cF (l)))] (V.agg [(iV (o)),(iV (a)),(V.sl (List.map cF (l)))]):=by
 refine pW Try.func27 s27_ok fun hB=>?_
 unfold s27
 dsimp only
 refine W_r (R_alloc (i:=6) (n:=0) (m:=3) rfl (congrArg Blk.ver rfl) rfl (R_e (W_r (R_mv rfl (R_mv rfl (R_mv rfl (R_build rfl rfl ?_)))))))
 refine R_sk rfl rfl rfl rfl rfl rfl rfl rfl rfl (R_e (W_ret ?_))
 refine RetC_1 (resV_c (u:=(V.agg [(iV (o)),(iV (a)),(V.sl (List.map cF (l)))])) rfl (@rfl Blk (bk 1 24 3 [[(iV (o)),(iV (a)),(V.sl (List.map cF (l)))]])) (lB oB rfl rfl)) (fz_canon (by simp) rfl)
def s28:SF:=⟨6,[.cell 0 true 1,.cell 1 true 1],.seq (.reg [sO 0 (.alloc 37 [.nilsl]),sO 1 (.alloc 37 [.nilsl])]) (.seq (.reg [sO 2 (.bslice 9 1 false [.str []] 2 [(0,.c (.str [99,111,105,110])),(1,.c (.str [112,117,115,104]))]),sO 3 (.build [.nilsl] [(0,1,.t 2)]),sO 4 (.bslice 9 1 false [.str []] 3 [(0,.c (.str [110,111])),(1,.c (.str [111,107])),(2,.c (.str [116,117,114,110]))]),sO 5 (.build [.nilsl] [(0,1,.t 4)]),sN (.store 1 (.t 0) (.t 3)),sN (.store 1 (.t 1) (.t 5))]) (.ret))⟩
theorem s28_ok:slimF Try.prog ⟨[31,36,37,38,40,41,42,44,45,59,60,61,65,66,67,71,72,73,81,82,84,92,93,98,99,102,104],[],[],[]⟩ Try.f28=some s28:=by kernel_rfl
theorem lnames_pure:PureC Try.prog 28 [] (V.tup [(V.agg [(V.sl (List.map cS ([[99,111,105,110],[112,117,115,104]])))]),(V.agg [(V.sl (List.map cS ([[110,111],[111,107],[116,117,114,110]])))])]):=by
 refine pW Try.func28 s28_ok fun hB=>?_
 unfold s28
 dsimp only
 refine W_r (R_alloc (i:=0) (n:=0) (m:=1) rfl (congrArg Blk.ver rfl) rfl (R_alloc (i:=1) (n:=0) (m:=1) rfl (congrArg Blk.ver rfl) rfl (R_e (W_r (R_bslice rfl rfl (R_build rfl rfl (R_bslice rfl rfl ?_)))))))
 refine R_build rfl rfl (R_sk rfl rfl rfl rfl rfl rfl rfl rfl rfl (R_sk rfl rfl rfl rfl rfl rfl rfl rfl rfl (R_e (W_ret ?_))))
 refine RetC_2 (resV_c (u:=(V.agg [(V.sl [[(V.str ([99,111,105,110]))],[(V.str ([112,117,115,104]))]])])) rfl (@rfl Blk (bk 1 37 1 [[(V.sl [[(V.str ([99,111,105,110]))],[(V.str ([112,117,115,104]))]])]])) (lB oB rfl rfl)) (resV_c (u:=(V.agg [(V.sl [[(V.str ([110,111]))],[(V.str ([111,107]))],[(V.str ([116,117,114,110]))]])])) rfl (@rfl Blk (bk 1 37 1 [[(V.sl [[(V.str ([110,111]))],[(V.str ([111,107]))],[(V.str ([116,117,114,110]))]])]])) (lB oB rfl rfl)) (fz_agg1 (fz_canon (by simp) ?_)) (fz_agg1 (fz_canon (by simp) ?_))
 · first|rfl|omega|simp_all
 · first|rfl|omega|simp_all
end Go.Proofs.Ytdmcmkccifmofaa
namespace Go.Proofs.Ytdmcmkccifmofaa
open Go Go.Proofs
set_option maxRecDepth 20000
theorem aw_p1:PureC Try.prog 19 [(V.agg [(V.sl (List.map cS ([[99,111,105,110],[112,117,115,104]])))]),(V.agg [(V.sl (List.map cS ([[110,111],[111,107],[116,117,114,110]])))]),(V.str ([71,32,40,105,110,58,99,111,105,110,32,45,62,32,111,117,116,58,111,107,41]))] (V.tup [(V.agg [(iV (10:Int)),(iV (0:Int)),(V.sl (List.map cF ([Fm.nd 4 0 [Fm.nd 1 0 []],Fm.nd 6 0 [Fm.nd 4 0 [Fm.nd 2 0 []],Fm.nd 3 1 []]])))]),(iV (0:Int)),(iV (0:Int))]):=by
  have h:=prs_pure [[99,111,105,110],[112,117,115,104]] [[110,111],[111,107],[116,117,114,110]] [71,32,40,105,110,58,99,111,105,110,32,45,62,32,111,117,116,58,111,107,41] (by decide+kernel) (by decide+kernel)
  rw [show prs [[99,111,105,110],[112,117,115,104]] [[110,111],[111,107],[116,117,114,110]] [71,32,40,105,110,58,99,111,105,110,32,45,62,32,111,117,116,58,111,107,41]=((Fm.nd 10 0 [Fm.nd 4 0 [Fm.nd 1 0 []],Fm.nd 6 0 [Fm.nd 4 0 [Fm.nd 2 0 []],Fm.nd 3 1 []]]),0,0) from by kernel_rfl] at h
  exact h
theorem aw_p2:PureC Try.prog 19 [(V.agg [(V.sl (List.map cS ([[99,111,105,110],[112,117,115,104]])))]),(V.agg [(V.sl (List.map cS ([[110,111],[111,107],[116,117,114,110]])))]),(V.str ([105,110,58,99,111,105,110,32,85]))] (V.tup [(V.agg [(iV (0:Int)),(iV (0:Int)),(V.sl (List.map cF ([])))]),(iV (9:Int)),(iV (5:Int))]):=by
  have h:=prs_pure [[99,111,105,110],[112,117,115,104]] [[110,111],[111,107],[116,117,114,110]] [105,110,58,99,111,105,110,32,85] (by decide+kernel) (by decide+kernel)
  rw [show prs [[99,111,105,110],[112,117,115,104]] [[110,111],[111,107],[116,117,114,110]] [105,110,58,99,111,105,110,32,85]=(Fm.nd 0 0 [],9,5) from by kernel_rfl] at h
  exact h
theorem aw_p3:PureC Try.prog 19 [(V.agg [(V.sl (List.map cS ([[99,111,105,110],[112,117,115,104]])))]),(V.agg [(V.sl (List.map cS ([[110,111],[111,107],[116,117,114,110]])))]),(V.str ([105,110,58,107,105,99,107]))] (V.tup [(V.agg [(iV (0:Int)),(iV (0:Int)),(V.sl (List.map cF ([])))]),(iV (0:Int)),(iV (8:Int))]):=by
  have h:=prs_pure [[99,111,105,110],[112,117,115,104]] [[110,111],[111,107],[116,117,114,110]] [105,110,58,107,105,99,107] (by decide+kernel) (by decide+kernel)
  rw [show prs [[99,111,105,110],[112,117,115,104]] [[110,111],[111,107],[116,117,114,110]] [105,110,58,107,105,99,107]=(Fm.nd 0 0 [],0,8) from by kernel_rfl] at h
  exact h
theorem aw_s1:PureC Try.prog 21 [(V.agg [(V.sl (List.map cS ([[99,111,105,110],[112,117,115,104]])))]),(V.agg [(V.sl (List.map cS ([[110,111],[111,107],[116,117,114,110]])))]),(V.agg [(iV (10:Int)),(iV (0:Int)),(V.sl (List.map cF ([Fm.nd 4 0 [Fm.nd 1 0 []],Fm.nd 6 0 [Fm.nd 4 0 [Fm.nd 2 0 []],Fm.nd 3 1 []]])))])] (V.tup [(V.str (([33,116,114,117,101,32,82,32,40,33,105,110,58,99,111,105,110,32,124,32,111,117,116,58,111,107,41]:List UInt8))),(iV (0:Int))]):=by
  have h:=show_pure [[99,111,105,110],[112,117,115,104]] [[110,111],[111,107],[116,117,114,110]] (Fm.nd 10 0 [Fm.nd 4 0 [Fm.nd 1 0 []],Fm.nd 6 0 [Fm.nd 4 0 [Fm.nd 2 0 []],Fm.nd 3 1 []]]) (by decide+kernel) (by decide+kernel)
  rw [show shwT [[99,111,105,110],[112,117,115,104]] [[110,111],[111,107],[116,117,114,110]] (Fm.nd 10 0 [Fm.nd 4 0 [Fm.nd 1 0 []],Fm.nd 6 0 [Fm.nd 4 0 [Fm.nd 2 0 []],Fm.nd 3 1 []]])=([33,116,114,117,101,32,82,32,40,33,105,110,58,99,111,105,110,32,124,32,111,117,116,58,111,107,41],0) from by kernel_rfl] at h
  exact h
theorem aw_h1:PureC Try.prog 23 [(V.agg [(iV (10:Int)),(iV (0:Int)),(V.sl (List.map cF ([Fm.nd 4 0 [Fm.nd 1 0 []],Fm.nd 6 0 [Fm.nd 4 0 [Fm.nd 2 0 []],Fm.nd 3 1 []]])))]),V.agg [ints [0,1],ints [1,0]]] (V.tup [(V.bool true),(iV (0:Int))]):=by
  have h:=holds_pure (Fm.nd 10 0 [Fm.nd 4 0 [Fm.nd 1 0 []],Fm.nd 6 0 [Fm.nd 4 0 [Fm.nd 2 0 []],Fm.nd 3 1 []]]) (⟨[0,1],[1,0]⟩:Tr)
  rw [show hoB (⟨[0,1],[1,0]⟩:Tr) (Fm.nd 10 0 [Fm.nd 4 0 [Fm.nd 1 0 []],Fm.nd 6 0 [Fm.nd 4 0 [Fm.nd 2 0 []],Fm.nd 3 1 []]])=true from by kernel_rfl,show hoE (⟨[0,1],[1,0]⟩:Tr) (Fm.nd 10 0 [Fm.nd 4 0 [Fm.nd 1 0 []],Fm.nd 6 0 [Fm.nd 4 0 [Fm.nd 2 0 []],Fm.nd 3 1 []]])=0 from by kernel_rfl] at h
  exact h
theorem aw_h2:PureC Try.prog 23 [(V.agg [(iV (10:Int)),(iV (0:Int)),(V.sl (List.map cF ([Fm.nd 4 0 [Fm.nd 1 0 []],Fm.nd 6 0 [Fm.nd 4 0 [Fm.nd 2 0 []],Fm.nd 3 1 []]])))]),V.agg [ints [0],ints [0]]] (V.tup [(V.bool false),(iV (0:Int))]):=by
  have h:=holds_pure (Fm.nd 10 0 [Fm.nd 4 0 [Fm.nd 1 0 []],Fm.nd 6 0 [Fm.nd 4 0 [Fm.nd 2 0 []],Fm.nd 3 1 []]]) (⟨[0],[0]⟩:Tr)
  rw [show hoB (⟨[0],[0]⟩:Tr) (Fm.nd 10 0 [Fm.nd 4 0 [Fm.nd 1 0 []],Fm.nd 6 0 [Fm.nd 4 0 [Fm.nd 2 0 []],Fm.nd 3 1 []]])=false from by kernel_rfl,show hoE (⟨[0],[0]⟩:Tr) (Fm.nd 10 0 [Fm.nd 4 0 [Fm.nd 1 0 []],Fm.nd 6 0 [Fm.nd 4 0 [Fm.nd 2 0 []],Fm.nd 3 1 []]])=0 from by kernel_rfl] at h
  exact h
theorem aw_h3:PureC Try.prog 23 [(V.agg [(iV (10:Int)),(iV (0:Int)),(V.sl (List.map cF ([Fm.nd 4 0 [Fm.nd 1 0 []],Fm.nd 6 0 [Fm.nd 4 0 [Fm.nd 2 0 []],Fm.nd 3 1 []]])))]),V.agg [ints [],ints []]] (V.tup [(V.bool true),(iV (0:Int))]):=by
  have h:=holds_pure (Fm.nd 10 0 [Fm.nd 4 0 [Fm.nd 1 0 []],Fm.nd 6 0 [Fm.nd 4 0 [Fm.nd 2 0 []],Fm.nd 3 1 []]]) (⟨[],[]⟩:Tr)
  rw [show hoB (⟨[],[]⟩:Tr) (Fm.nd 10 0 [Fm.nd 4 0 [Fm.nd 1 0 []],Fm.nd 6 0 [Fm.nd 4 0 [Fm.nd 2 0 []],Fm.nd 3 1 []]])=true from by kernel_rfl,show hoE (⟨[],[]⟩:Tr) (Fm.nd 10 0 [Fm.nd 4 0 [Fm.nd 1 0 []],Fm.nd 6 0 [Fm.nd 4 0 [Fm.nd 2 0 []],Fm.nd 3 1 []]])=0 from by kernel_rfl] at h
  exact h
theorem aw_n1:PureC Try.prog 12 [(V.agg [(iV (7:Int)),(iV (0:Int)),(V.sl (List.map cF ([Fm.nd 2 0 []])))])] (V.tup [(V.agg [(iV (9:Int)),(iV (0:Int)),(V.sl (List.map cF ([Fm.nd 4 0 [Fm.nd 2 0 []]])))]),(iV (0:Int))]):=by
  have h:=negate_pure (Fm.nd 7 0 [Fm.nd 2 0 []])
  rw [show ngF (Fm.nd 7 0 [Fm.nd 2 0 []])=Fm.nd 9 0 [Fm.nd 4 0 [Fm.nd 2 0 []]] from by kernel_rfl,show ngE (Fm.nd 7 0 [Fm.nd 2 0 []])=0 from by kernel_rfl] at h
  exact h
abbrev w11_14:=(Fm.nd (2:Int) (0:Int) [])
abbrev w11_16:=(Fm.nd (4:Int) (0:Int) [w11_14])
abbrev w11_1:=([(Fm.nd (4:Int) (0:Int) [(Fm.nd (1:Int) (0:Int) [])]),(Fm.nd (6:Int) (0:Int) [w11_16,(Fm.nd (3:Int) (1:Int) [])])])
abbrev w11_6:=(sameF (⟨((10:Int)),((0:Int)),([Fm.nd 4 0 [Fm.nd 1 0 []],Fm.nd 6 0 [Fm.nd 4 0 [Fm.nd 2 0 []],Fm.nd 3 1 []]])⟩:Fm) (⟨((((10:Int)))),((((0:Int)))),(w11_1)⟩:Fm))
abbrev w11_17:=((((w11_6&&w11_6))&&decide ((0:Int)=(0:Int))))
abbrev w11_0:=((((w11_17&&decide ((0:Int)=(0:Int))))&&decide (([33,116,114,117,101,32,82,32,40,33,105,110,58,99,111,105,110,32,124,32,111,117,116,58,111,107,41]:List UInt8)=[33,116,114,117,101,32,82,32,40,33,105,110,58,99,111,105,110,32,124,32,111,117,116,58,111,107,41])))
abbrev w11_11:=((((((w11_0&&decide ((0:Int)=(0:Int))))||false))&&decide ((0:Int)=(0:Int))))
abbrev w11_15:=((((w11_11||false))&&decide ((0:Int)=(0:Int))))
abbrev w11_2:=((((((w11_15||false))&&decide ((0:Int)=(0:Int))))&&(sameF (⟨((9:Int)),((0:Int)),([Fm.nd 4 0 [Fm.nd 2 0 []]])⟩:Fm) (⟨((((9:Int)))),((((0:Int)))),(([w11_16]))⟩:Fm))))
abbrev w11_3:=(bk 1 24 3 [[(iV (10:Int)),(iV (0:Int)),(V.sl (List.map cF ([Fm.nd 4 0 [Fm.nd 1 0 []],Fm.nd 6 0 [Fm.nd 4 0 [Fm.nd 2 0 []],Fm.nd 3 1 []]])))]])
abbrev w11_4:=(bk 1 24 3 [[(iV (0:Int)),(iV (0:Int)),(V.sl (List.map cF ([])))]])
abbrev w11_5:=(bk 1 24 3 [[(iV (((4:Int)))),(iV (((0:Int)))),(V.sl (List.map cF (([(Fm.nd (1:Int) (0:Int) [])]))))]])
abbrev w11_7:=(bk 1 24 3 [[(iV (9:Int)),(iV (0:Int)),(V.sl (List.map cF ([Fm.nd 4 0 [Fm.nd 2 0 []]])))]])
abbrev w11_8:=(bk 1 37 1 [[(V.sl (List.map cS ([[110,111],[111,107],[116,117,114,110]])))]])
abbrev w11_9:=(bk 1 24 3 [[(iV (((10:Int)))),(iV (((0:Int)))),(V.sl (List.map cF (w11_1)))]])
abbrev w11_10:=(bk 1 37 1 [[(V.sl (List.map cS ([[99,111,105,110],[112,117,115,104]])))]])
abbrev w11_12:=(([33,116,114,117,101,32,82,32,40,33,105,110,58,99,111,105,110,32,124,32,111,117,116,58,111,107,41]:List UInt8))
abbrev w11_13:=((((((w11_2&&decide ((0:Int)=(0:Int))))&&decide ((9:Int)=(9:Int))))&&decide ((5:Int)=(5:Int))))
theorem aw45_pure:PureC Try.prog 11 [] (V.bool true):=by
 refine pW Try.func11 s11_ok fun hB=>?_
 unfold s11
 dsimp only
 refine W_r (R_mv rfl (R_e (W_r (R_callk (lnames_pure) rfl (R_mv rfl (R_ext rfl rfl (R_ext rfl rfl ?_)))))))
 refine R_alloc (i:=1) (n:=0) (m:=1) rfl (congrArg Blk.ver rfl) rfl (R_alloc (i:=2) (n:=0) (m:=1) rfl (congrArg Blk.ver rfl) rfl (R_sk rfl rfl rfl rfl rfl rfl rfl rfl rfl (R_sk rfl rfl rfl rfl rfl rfl rfl rfl rfl (R_e (W_r (R_call (evcons (@rfl V (iV (1:Int))) (evcons (@rfl V (iV (0:Int))) (evcons (@rfl V V.nilsl) evnil))) (lnode_pure ((1:Int)) ((0:Int)) ([])) (mcons (fzv_canon 6 _ (by simp [-List.map_take,-List.map_drop,-List.map_append,-List.map_reverse])) (mcons (fzv_canon 6 _ (by simp [-List.map_take,-List.map_drop,-List.map_append,-List.map_reverse])) (mcons (by rfl) rfl))) (by simp [-List.map_take,-List.map_drop,-List.map_append,-List.map_reverse]) (Or.inl (by simp [-List.map_take,-List.map_drop,-List.map_append,-List.map_reverse])) (R_bslice rfl rfl ?_)))))))
 refine R_callk (lnode_pure ((4:Int)) ((0:Int)) ([(Fm.nd (1:Int) (0:Int) [])])) (evcons rfl (evcons rfl (evcons (sl_F1 (x:=((Fm.nd (1:Int) (0:Int) []))) rfl) evnil))) (R_alloc (i:=3) (n:=0) (m:=3) rfl (congrArg Blk.ver rfl) rfl (R_sk rfl rfl rfl rfl rfl rfl rfl rfl rfl (R_e (W_d (by exact (lateC rfl lateN)) (R_lk rfl rfl rfl rfl (R_call (evcons (@rfl V (iV (2:Int))) (evcons (@rfl V (iV (0:Int))) (evcons (@rfl V V.nilsl) evnil))) (lnode_pure ((2:Int)) ((0:Int)) ([])) (mcons (fzv_canon 6 _ (by simp [-List.map_take,-List.map_drop,-List.map_append,-List.map_reverse])) (mcons (fzv_canon 6 _ (by simp [-List.map_take,-List.map_drop,-List.map_append,-List.map_reverse])) (mcons (by rfl) rfl))) (by simp [-List.map_take,-List.map_drop,-List.map_append,-List.map_reverse]) (Or.inl (by simp [-List.map_take,-List.map_drop,-List.map_append,-List.map_reverse])) (R_bslice rfl rfl ?_)))))))
 refine R_callk (lnode_pure ((4:Int)) ((0:Int)) ([w11_14])) (evcons rfl (evcons rfl (evcons (sl_F1 (x:=(w11_14)) rfl) evnil))) (R_call (evcons (@rfl V (iV (3:Int))) (evcons (@rfl V (iV (1:Int))) (evcons (@rfl V V.nilsl) evnil))) (lnode_pure ((3:Int)) ((1:Int)) ([])) (mcons (fzv_canon 6 _ (by simp [-List.map_take,-List.map_drop,-List.map_append,-List.map_reverse])) (mcons (fzv_canon 6 _ (by simp [-List.map_take,-List.map_drop,-List.map_append,-List.map_reverse])) (mcons (by rfl) rfl))) (by simp [-List.map_take,-List.map_drop,-List.map_append,-List.map_reverse]) (Or.inl (by simp [-List.map_take,-List.map_drop,-List.map_append,-List.map_reverse])) (R_bslice rfl rfl (R_callk (lnode_pure ((6:Int)) ((0:Int)) ([w11_16,(Fm.nd (3:Int) (1:Int) [])])) (evcons rfl (evcons rfl (evcons (sl_F2 (x:=(w11_16)) (y:=((Fm.nd (3:Int) (1:Int) []))) rfl) evnil))) (R_bslice rfl rfl (R_callk (lnode_pure ((10:Int)) ((0:Int)) w11_1) (evcons rfl (evcons rfl (evcons (sl_F2 (x:=((Fm.nd (4:Int) (0:Int) [(Fm.nd (1:Int) (0:Int) [])]))) (y:=((Fm.nd (6:Int) (0:Int) [w11_16,(Fm.nd (3:Int) (1:Int) [])]))) rfl) evnil))) (R_alloc (i:=4) (n:=0) (m:=3) rfl (congrArg Blk.ver rfl) rfl (R_sk rfl rfl rfl rfl rfl rfl rfl rfl rfl ?_)))))))
 refine R_e (W_r (R_lk rfl rfl rfl rfl (R_lk rfl rfl rfl rfl (R_callk (aw_p1) rfl (R_mv rfl (R_ext rfl rfl (R_ext rfl rfl ?_)))))))
 refine R_ext rfl rfl (R_alloc (i:=5) (n:=0) (m:=3) rfl (congrArg Blk.ver rfl) rfl (R_sk rfl rfl rfl rfl rfl rfl rfl rfl rfl (R_mv rfl (R_mv rfl (R_e ?_)))))
 refine W_seq_regc (fun T H=>T 1=(V.mp 1 1 0 0)∧T 2=(V.mp 2 1 0 0)∧T 4=(V.mp 4 1 0 0)∧T 5=(V.mp 5 1 0 0)∧T 6=(iV (0:Int))∧T 7=(iV (0:Int))∧T 8=(V.str w11_12)∧T 9=(iV (0:Int))∧H 1=w11_10∧H 2=w11_8∧H 3=w11_5∧H 4=w11_9∧H 5=w11_3∧H 16=(⟨0,false,false,0,0,[]⟩:Blk)∧H 18=(⟨0,false,false,0,0,[]⟩:Blk)∧H 21=(⟨0,false,false,0,0,[]⟩:Blk)∧True) ?_ ?_
 ·
  refine R_lk rfl rfl rfl rfl (R_lk rfl rfl rfl rfl (R_lk rfl rfl rfl rfl (R_callk (aw_s1) rfl (R_mv rfl (R_ext rfl rfl (R_ext rfl rfl (R_mv rfl ?_)))))))
  refine R_mv rfl ?_
  exact R_nil ⟨rfl,rfl,rfl,rfl,rfl,rfl,rfl,rfl,rfl,rfl,rfl,rfl,rfl,rfl,rfl,rfl,trivial⟩
 intro T H ⟨t1,t2,t4,t5,t6,t7,t8,t9,h1,h2,h3,h4,h5,h16,h18,h21,_⟩
 refine W_r (R_lk t4 h4 rfl rfl (R_bslice rfl rfl (R_bslice rfl rfl (R_build rfl rfl (R_callk (aw_h1) rfl (R_mv rfl (R_ext rfl rfl ?_)))))))
 refine R_ext rfl rfl (R_mv rfl (R_mv rfl (R_e (W_r (R_lk t4 h4 rfl rfl (R_bslice rfl rfl (R_bslice rfl rfl ?_)))))))
 refine R_build rfl rfl (R_callk (aw_h2) rfl (R_mv rfl (R_ext rfl rfl (R_ext rfl rfl (R_mv rfl (R_mv rfl (R_e ?_)))))))
 refine W_r (R_lk t4 h4 rfl rfl (R_build rfl rfl (R_call (evcons (@rfl V (V.agg [(iV (((10:Int)))),(iV (((0:Int)))),(V.sl (List.map cF (w11_1)))])) (evcons (@rfl V (V.agg [V.nilsl,V.nilsl])) evnil)) (aw_h3) (mcons (fzv_canon 6 _ (by simp [-List.map_take,-List.map_drop,-List.map_append,-List.map_reverse])) (mcons (by rfl) rfl)) (by simp [-List.map_take,-List.map_drop,-List.map_append,-List.map_reverse]) (Or.inl (by simp [-List.map_take,-List.map_drop,-List.map_append,-List.map_reverse])) (R_mv rfl (R_ext rfl rfl (R_ext rfl rfl (R_mv rfl ?_)))))))
 refine R_mv rfl (R_e (W_r (R_call (evcons (@rfl V (iV (2:Int))) (evcons (@rfl V (iV (0:Int))) (evcons (@rfl V V.nilsl) evnil))) (lnode_pure ((2:Int)) ((0:Int)) ([])) (mcons (fzv_canon 6 _ (by simp [-List.map_take,-List.map_drop,-List.map_append,-List.map_reverse])) (mcons (fzv_canon 6 _ (by simp [-List.map_take,-List.map_drop,-List.map_append,-List.map_reverse])) (mcons (by rfl) rfl))) (by simp [-List.map_take,-List.map_drop,-List.map_append,-List.map_reverse]) (Or.inl (by simp [-List.map_take,-List.map_drop,-List.map_append,-List.map_reverse])) (R_bslice rfl rfl (R_callk (lnode_pure ((7:Int)) ((0:Int)) ([w11_14])) (evcons rfl (evcons rfl (evcons (sl_F1 (x:=(w11_14)) rfl) evnil))) (R_callk (aw_n1) rfl (R_mv rfl ?_)))))))
 refine R_ext rfl rfl (R_ext rfl rfl (R_alloc (i:=16) (n:=0) (m:=3) rfl (congrArg Blk.ver h16) rfl (R_sk rfl rfl rfl rfl rfl rfl rfl rfl rfl (R_mv rfl (R_e ?_)))))
 refine W_seq_regc (fun T H=>T 1=(V.mp 1 1 0 0)∧T 2=(V.mp 2 1 0 0)∧T 4=(V.mp 4 1 0 0)∧T 5=(V.mp 5 1 0 0)∧T 6=(iV (0:Int))∧T 7=(iV (0:Int))∧T 8=(V.str w11_12)∧T 9=(iV (0:Int))∧T 10=(V.bool true)∧T 11=(iV (0:Int))∧T 12=(V.bool false)∧T 13=(iV (0:Int))∧T 14=(V.bool true)∧T 15=(iV (0:Int))∧T 16=(V.mp 16 1 0 0)∧T 17=(iV (0:Int))∧T 19=(iV (9:Int))∧T 20=(iV (5:Int))∧H 1=w11_10∧H 2=w11_8∧H 3=w11_5∧H 4=w11_9∧H 5=w11_3∧H 16=w11_7∧H 18=w11_4∧H 21=(⟨0,false,false,0,0,[]⟩:Blk)∧True) ?_ ?_
 ·
  refine R_lk t1 h1 rfl rfl (R_lk t2 h2 rfl rfl (R_callk (aw_p2) rfl (R_mv rfl (R_ext rfl rfl (R_ext rfl rfl (R_ext rfl rfl (R_alloc (i:=18) (n:=0) (m:=3) rfl (congrArg Blk.ver h18) rfl ?_)))))))
  refine R_sk rfl rfl rfl rfl rfl rfl rfl rfl rfl (R_mv rfl (R_mv rfl ?_))
  exact R_nil ⟨t1,t2,t4,t5,t6,t7,t8,t9,rfl,rfl,rfl,rfl,rfl,rfl,rfl,rfl,rfl,rfl,h1,h2,h3,h4,h5,rfl,rfl,h21,trivial⟩
 intro T H ⟨t1,t2,t4,t5,t6,t7,t8,t9,t10,t11,t12,t13,t14,t15,t16,t17,t19,t20,h1,h2,h3,h4,h5,h16,h18,h21,_⟩
 refine W_r (R_lk t1 h1 rfl rfl (R_lk t2 h2 rfl rfl (R_callk (aw_p3) rfl (R_mv rfl (R_ext rfl rfl (R_ext rfl rfl (R_ext rfl rfl ?_)))))))
 refine R_alloc (i:=21) (n:=0) (m:=3) rfl (congrArg Blk.ver h21) rfl (R_sk rfl rfl rfl rfl rfl rfl rfl rfl rfl (R_mv rfl (R_mv rfl (R_e ?_))))
 refine W_seq_regc (fun T H=>T 0=(V.bool ((((w11_13&&decide ((0:Int)=(0:Int))))&&decide ((8:Int)=(8:Int)))))∧H 1=w11_10∧H 2=w11_8∧H 3=w11_5∧H 4=w11_9∧H 5=w11_3∧H 16=w11_7∧H 18=w11_4∧H 21=w11_4∧True) ?_ ?_
 ·
  refine R_lk t5 h5 rfl rfl (R_lk t4 h4 rfl rfl (R_callk (fsame_pure (⟨((10:Int)),((0:Int)),([Fm.nd 4 0 [Fm.nd 1 0 []],Fm.nd 6 0 [Fm.nd 4 0 [Fm.nd 2 0 []],Fm.nd 3 1 []]])⟩:Fm) (⟨((((10:Int)))),((((0:Int)))),(w11_1)⟩:Fm)) rfl (R_mv rfl ?_)))
  refine Ops_seg 4 (fun T H=>T 6=(iV (0:Int))∧T 7=(iV (0:Int))∧T 8=(V.str w11_12)∧T 9=(iV (0:Int))∧T 10=(V.bool true)∧T 11=(iV (0:Int))∧T 12=(V.bool false)∧T 13=(iV (0:Int))∧T 14=(V.bool true)∧T 15=(iV (0:Int))∧T 16=(V.mp 16 1 0 0)∧T 17=(iV (0:Int))∧T 19=(iV (9:Int))∧T 20=(iV (5:Int))∧T 22=(iV (0:Int))∧T 23=(iV (8:Int))∧T 104=(V.bool ((w11_6&&w11_6)))∧H 1=w11_10∧H 2=w11_8∧H 3=w11_5∧H 4=w11_9∧H 5=w11_3∧H 16=w11_7∧H 18=w11_4∧H 21=w11_4∧True) ?_ ?_
  ·
   by_cases g1:w11_6=true
   ·
    refine G_yes (ebT g1 rfl) (R_lk t5 h5 rfl rfl (G_yes (ebT g1 rfl) (R_lk t4 h4 rfl rfl (G_yes (ebT g1 rfl) (R_callk (rsame_pure (⟨((10:Int)),((0:Int)),([Fm.nd 4 0 [Fm.nd 1 0 []],Fm.nd 6 0 [Fm.nd 4 0 [Fm.nd 2 0 []],Fm.nd 3 1 []]])⟩:Fm) (⟨((((10:Int)))),((((0:Int)))),(w11_1)⟩:Fm)) rfl (R_pickT (ebT g1 rfl) rfl ?_))))))
    exact ⟨t6,t7,t8,t9,t10,t11,t12,t13,t14,t15,t16,t17,t19,t20,rfl,rfl,(bandT g1),h1,h2,h3,h4,h5,h16,h18,rfl,trivial⟩
   ·
    refine G_n (ebF g1 rfl) (G_n (ebF g1 rfl) (G_n (ebF g1 rfl) (R_pickF (ebF g1 rfl) rfl ?_)))
    exact ⟨t6,t7,t8,t9,t10,t11,t12,t13,t14,t15,t16,t17,t19,t20,rfl,rfl,(bandF g1),h1,h2,h3,h4,h5,h16,h18,rfl,trivial⟩
  intro T H ⟨t6,t7,t8,t9,t10,t11,t12,t13,t14,t15,t16,t17,t19,t20,t22,t23,t104,h1,h2,h3,h4,h5,h16,h18,h21,_⟩
  refine R_mv t104 ?_
  refine Ops_seg 3 (fun T H=>T 7=(iV (0:Int))∧T 8=(V.str w11_12)∧T 9=(iV (0:Int))∧T 10=(V.bool true)∧T 11=(iV (0:Int))∧T 12=(V.bool false)∧T 13=(iV (0:Int))∧T 14=(V.bool true)∧T 15=(iV (0:Int))∧T 16=(V.mp 16 1 0 0)∧T 17=(iV (0:Int))∧T 19=(iV (9:Int))∧T 20=(iV (5:Int))∧T 22=(iV (0:Int))∧T 23=(iV (8:Int))∧T 108=(V.bool w11_17)∧H 1=w11_10∧H 2=w11_8∧H 3=w11_5∧H 4=w11_9∧H 5=w11_3∧H 16=w11_7∧H 18=w11_4∧H 21=w11_4∧True) ?_ ?_
  ·
   by_cases g2:((w11_6&&w11_6))=true
   ·
    have g2x:=g2
    simp only [Bool.and_eq_true,Bool.or_eq_true,Bool.not_eq_true',decide_eq_true_eq] at g2x
    refine G_yes (ebT g2 rfl) (R_mv t6 (G_yes (ebT g2 rfl) (R_eql rfl rfl (R_pickT (ebT g2 rfl) rfl ?_))))
    exact ⟨t7,t8,t9,t10,t11,t12,t13,t14,t15,t16,t17,t19,t20,t22,t23,(bandT g2),h1,h2,h3,h4,h5,h16,h18,h21,trivial⟩
   ·
    have g2x:=g2
    simp only [Bool.and_eq_true,Bool.or_eq_true,Bool.not_eq_true',decide_eq_true_eq] at g2x
    refine G_n (ebF g2 rfl) (G_n (ebF g2 rfl) (R_pickF (ebF g2 rfl) rfl ?_))
    exact ⟨t7,t8,t9,t10,t11,t12,t13,t14,t15,t16,t17,t19,t20,t22,t23,(bandF g2),h1,h2,h3,h4,h5,h16,h18,h21,trivial⟩
  intro T H ⟨t7,t8,t9,t10,t11,t12,t13,t14,t15,t16,t17,t19,t20,t22,t23,t108,h1,h2,h3,h4,h5,h16,h18,h21,_⟩
  refine R_mv t108 ?_
  refine Ops_seg 3 (fun T H=>T 8=(V.str w11_12)∧T 9=(iV (0:Int))∧T 10=(V.bool true)∧T 11=(iV (0:Int))∧T 12=(V.bool false)∧T 13=(iV (0:Int))∧T 14=(V.bool true)∧T 15=(iV (0:Int))∧T 16=(V.mp 16 1 0 0)∧T 17=(iV (0:Int))∧T 19=(iV (9:Int))∧T 20=(iV (5:Int))∧T 22=(iV (0:Int))∧T 23=(iV (8:Int))∧T 112=(V.bool ((w11_17&&decide ((0:Int)=(0:Int)))))∧H 1=w11_10∧H 2=w11_8∧H 3=w11_5∧H 4=w11_9∧H 5=w11_3∧H 16=w11_7∧H 18=w11_4∧H 21=w11_4∧True) ?_ ?_
  ·
   by_cases g3:w11_17=true
   ·
    have g3x:=g3
    simp only [Bool.and_eq_true,Bool.or_eq_true,Bool.not_eq_true',decide_eq_true_eq] at g3x
    refine G_yes (ebT g3 rfl) (R_mv t7 (G_yes (ebT g3 rfl) (R_eql rfl rfl (R_pickT (ebT g3 rfl) rfl ?_))))
    exact ⟨t8,t9,t10,t11,t12,t13,t14,t15,t16,t17,t19,t20,t22,t23,(bandT g3),h1,h2,h3,h4,h5,h16,h18,h21,trivial⟩
   ·
    have g3x:=g3
    simp only [Bool.and_eq_true,Bool.or_eq_true,Bool.not_eq_true',decide_eq_true_eq] at g3x
    refine G_n (ebF g3 rfl) (G_n (ebF g3 rfl) (R_pickF (ebF g3 rfl) rfl ?_))
    exact ⟨t8,t9,t10,t11,t12,t13,t14,t15,t16,t17,t19,t20,t22,t23,(bandF g3),h1,h2,h3,h4,h5,h16,h18,h21,trivial⟩
  intro T H ⟨t8,t9,t10,t11,t12,t13,t14,t15,t16,t17,t19,t20,t22,t23,t112,h1,h2,h3,h4,h5,h16,h18,h21,_⟩
  refine R_mv t112 ?_
  refine Ops_seg 3 (fun T H=>T 9=(iV (0:Int))∧T 10=(V.bool true)∧T 11=(iV (0:Int))∧T 12=(V.bool false)∧T 13=(iV (0:Int))∧T 14=(V.bool true)∧T 15=(iV (0:Int))∧T 16=(V.mp 16 1 0 0)∧T 17=(iV (0:Int))∧T 19=(iV (9:Int))∧T 20=(iV (5:Int))∧T 22=(iV (0:Int))∧T 23=(iV (8:Int))∧T 116=(V.bool w11_0)∧H 1=w11_10∧H 2=w11_8∧H 3=w11_5∧H 4=w11_9∧H 5=w11_3∧H 16=w11_7∧H 18=w11_4∧H 21=w11_4∧True) ?_ ?_
  ·
   by_cases g4:((w11_17&&decide ((0:Int)=(0:Int))))=true
   ·
    have g4x:=g4
    simp only [Bool.and_eq_true,Bool.or_eq_true,Bool.not_eq_true',decide_eq_true_eq] at g4x
    refine G_yes (ebT g4 rfl) (R_mv t8 (G_yes (ebT g4 rfl) (R_seql (s:=w11_12) (t:=([33,116,114,117,101,32,82,32,40,33,105,110,58,99,111,105,110,32,124,32,111,117,116,58,111,107,41])) rfl rfl (R_pickT (ebT g4 rfl) rfl ?_))))
    exact ⟨t9,t10,t11,t12,t13,t14,t15,t16,t17,t19,t20,t22,t23,(bandT g4),h1,h2,h3,h4,h5,h16,h18,h21,trivial⟩
   ·
    have g4x:=g4
    simp only [Bool.and_eq_true,Bool.or_eq_true,Bool.not_eq_true',decide_eq_true_eq] at g4x
    refine G_n (ebF g4 rfl) (G_n (ebF g4 rfl) (R_pickF (ebF g4 rfl) rfl ?_))
    exact ⟨t9,t10,t11,t12,t13,t14,t15,t16,t17,t19,t20,t22,t23,(bandF g4),h1,h2,h3,h4,h5,h16,h18,h21,trivial⟩
  intro T H ⟨t9,t10,t11,t12,t13,t14,t15,t16,t17,t19,t20,t22,t23,t116,h1,h2,h3,h4,h5,h16,h18,h21,_⟩
  refine R_mv t116 ?_
  refine Ops_seg 3 (fun T H=>T 10=(V.bool true)∧T 11=(iV (0:Int))∧T 12=(V.bool false)∧T 13=(iV (0:Int))∧T 14=(V.bool true)∧T 15=(iV (0:Int))∧T 16=(V.mp 16 1 0 0)∧T 17=(iV (0:Int))∧T 19=(iV (9:Int))∧T 20=(iV (5:Int))∧T 22=(iV (0:Int))∧T 23=(iV (8:Int))∧T 120=(V.bool ((w11_0&&decide ((0:Int)=(0:Int)))))∧H 1=w11_10∧H 2=w11_8∧H 3=w11_5∧H 4=w11_9∧H 5=w11_3∧H 16=w11_7∧H 18=w11_4∧H 21=w11_4∧True) ?_ ?_
  ·
   by_cases g5:w11_0=true
   ·
    have g5x:=g5
    simp only [Bool.and_eq_true,Bool.or_eq_true,Bool.not_eq_true',decide_eq_true_eq] at g5x
    refine G_yes (ebT g5 rfl) (R_mv t9 (G_yes (ebT g5 rfl) (R_eql rfl rfl (R_pickT (ebT g5 rfl) rfl ?_))))
    exact ⟨t10,t11,t12,t13,t14,t15,t16,t17,t19,t20,t22,t23,(bandT g5),h1,h2,h3,h4,h5,h16,h18,h21,trivial⟩
   ·
    have g5x:=g5
    simp only [Bool.and_eq_true,Bool.or_eq_true,Bool.not_eq_true',decide_eq_true_eq] at g5x
    refine G_n (ebF g5 rfl) (G_n (ebF g5 rfl) (R_pickF (ebF g5 rfl) rfl ?_))
    exact ⟨t10,t11,t12,t13,t14,t15,t16,t17,t19,t20,t22,t23,(bandF g5),h1,h2,h3,h4,h5,h16,h18,h21,trivial⟩
  intro T H ⟨t10,t11,t12,t13,t14,t15,t16,t17,t19,t20,t22,t23,t120,h1,h2,h3,h4,h5,h16,h18,h21,_⟩
  refine R_mv t120 ?_
  refine Ops_seg 2 (fun T H=>T 11=(iV (0:Int))∧T 12=(V.bool false)∧T 13=(iV (0:Int))∧T 14=(V.bool true)∧T 15=(iV (0:Int))∧T 16=(V.mp 16 1 0 0)∧T 17=(iV (0:Int))∧T 19=(iV (9:Int))∧T 20=(iV (5:Int))∧T 22=(iV (0:Int))∧T 23=(iV (8:Int))∧T 123=(V.bool ((((w11_0&&decide ((0:Int)=(0:Int))))||false)))∧H 1=w11_10∧H 2=w11_8∧H 3=w11_5∧H 4=w11_9∧H 5=w11_3∧H 16=w11_7∧H 18=w11_4∧H 21=w11_4∧True) ?_ ?_
  ·
   by_cases g6:((w11_0&&decide ((0:Int)=(0:Int))))=true
   ·
    have g6x:=g6
    simp only [Bool.and_eq_true,Bool.or_eq_true,Bool.not_eq_true',decide_eq_true_eq] at g6x
    refine G_yes (ebT g6 rfl) (R_mv t10 (R_pickT (ebT g6 rfl) rfl ?_))
    exact ⟨t11,t12,t13,t14,t15,t16,t17,t19,t20,t22,t23,(borT g6),h1,h2,h3,h4,h5,h16,h18,h21,trivial⟩
   ·
    have g6x:=g6
    simp only [Bool.and_eq_true,Bool.or_eq_true,Bool.not_eq_true',decide_eq_true_eq] at g6x
    refine G_n (ebF g6 rfl) (R_pickF (ebF g6 rfl) rfl ?_)
    exact ⟨t11,t12,t13,t14,t15,t16,t17,t19,t20,t22,t23,(borF g6),h1,h2,h3,h4,h5,h16,h18,h21,trivial⟩
  intro T H ⟨t11,t12,t13,t14,t15,t16,t17,t19,t20,t22,t23,t123,h1,h2,h3,h4,h5,h16,h18,h21,_⟩
  refine R_mv t123 ?_
  refine Ops_seg 3 (fun T H=>T 12=(V.bool false)∧T 13=(iV (0:Int))∧T 14=(V.bool true)∧T 15=(iV (0:Int))∧T 16=(V.mp 16 1 0 0)∧T 17=(iV (0:Int))∧T 19=(iV (9:Int))∧T 20=(iV (5:Int))∧T 22=(iV (0:Int))∧T 23=(iV (8:Int))∧T 127=(V.bool w11_11)∧H 1=w11_10∧H 2=w11_8∧H 3=w11_5∧H 4=w11_9∧H 5=w11_3∧H 16=w11_7∧H 18=w11_4∧H 21=w11_4∧True) ?_ ?_
  ·
   by_cases g7:((((w11_0&&decide ((0:Int)=(0:Int))))||false))=true
   ·
    have g7x:=g7
    simp only [Bool.and_eq_true,Bool.or_eq_true,Bool.not_eq_true',decide_eq_true_eq] at g7x
    refine G_yes (ebT g7 rfl) (R_mv t11 (G_yes (ebT g7 rfl) (R_eql rfl rfl (R_pickT (ebT g7 rfl) rfl ?_))))
    exact ⟨t12,t13,t14,t15,t16,t17,t19,t20,t22,t23,(bandT g7),h1,h2,h3,h4,h5,h16,h18,h21,trivial⟩
   ·
    have g7x:=g7
    simp only [Bool.and_eq_true,Bool.or_eq_true,Bool.not_eq_true',decide_eq_true_eq] at g7x
    refine G_n (ebF g7 rfl) (G_n (ebF g7 rfl) (R_pickF (ebF g7 rfl) rfl ?_))
    exact ⟨t12,t13,t14,t15,t16,t17,t19,t20,t22,t23,(bandF g7),h1,h2,h3,h4,h5,h16,h18,h21,trivial⟩
  intro T H ⟨t12,t13,t14,t15,t16,t17,t19,t20,t22,t23,t127,h1,h2,h3,h4,h5,h16,h18,h21,_⟩
  refine R_mv t127 ?_
  refine Ops_seg 3 (fun T H=>T 13=(iV (0:Int))∧T 14=(V.bool true)∧T 15=(iV (0:Int))∧T 16=(V.mp 16 1 0 0)∧T 17=(iV (0:Int))∧T 19=(iV (9:Int))∧T 20=(iV (5:Int))∧T 22=(iV (0:Int))∧T 23=(iV (8:Int))∧T 131=(V.bool ((w11_11||false)))∧H 1=w11_10∧H 2=w11_8∧H 3=w11_5∧H 4=w11_9∧H 5=w11_3∧H 16=w11_7∧H 18=w11_4∧H 21=w11_4∧True) ?_ ?_
  ·
   by_cases g8:w11_11=true
   ·
    have g8x:=g8
    simp only [Bool.and_eq_true,Bool.or_eq_true,Bool.not_eq_true',decide_eq_true_eq] at g8x
    refine G_yes (ebT g8 rfl) (R_mv t12 (G_yes (ebT g8 rfl) (R_notb rfl (R_pickT (ebT g8 rfl) rfl ?_))))
    exact ⟨t13,t14,t15,t16,t17,t19,t20,t22,t23,(borT g8),h1,h2,h3,h4,h5,h16,h18,h21,trivial⟩
   ·
    have g8x:=g8
    simp only [Bool.and_eq_true,Bool.or_eq_true,Bool.not_eq_true',decide_eq_true_eq] at g8x
    refine G_n (ebF g8 rfl) (G_n (ebF g8 rfl) (R_pickF (ebF g8 rfl) rfl ?_))
    exact ⟨t13,t14,t15,t16,t17,t19,t20,t22,t23,(borF g8),h1,h2,h3,h4,h5,h16,h18,h21,trivial⟩
  intro T H ⟨t13,t14,t15,t16,t17,t19,t20,t22,t23,t131,h1,h2,h3,h4,h5,h16,h18,h21,_⟩
  refine R_mv t131 ?_
  refine Ops_seg 3 (fun T H=>T 14=(V.bool true)∧T 15=(iV (0:Int))∧T 16=(V.mp 16 1 0 0)∧T 17=(iV (0:Int))∧T 19=(iV (9:Int))∧T 20=(iV (5:Int))∧T 22=(iV (0:Int))∧T 23=(iV (8:Int))∧T 135=(V.bool w11_15)∧H 1=w11_10∧H 2=w11_8∧H 3=w11_5∧H 4=w11_9∧H 5=w11_3∧H 16=w11_7∧H 18=w11_4∧H 21=w11_4∧True) ?_ ?_
  ·
   by_cases g9:((w11_11||false))=true
   ·
    have g9x:=g9
    simp only [Bool.and_eq_true,Bool.or_eq_true,Bool.not_eq_true',decide_eq_true_eq] at g9x
    refine G_yes (ebT g9 rfl) (R_mv t13 (G_yes (ebT g9 rfl) (R_eql rfl rfl (R_pickT (ebT g9 rfl) rfl ?_))))
    exact ⟨t14,t15,t16,t17,t19,t20,t22,t23,(bandT g9),h1,h2,h3,h4,h5,h16,h18,h21,trivial⟩
   ·
    have g9x:=g9
    simp only [Bool.and_eq_true,Bool.or_eq_true,Bool.not_eq_true',decide_eq_true_eq] at g9x
    refine G_n (ebF g9 rfl) (G_n (ebF g9 rfl) (R_pickF (ebF g9 rfl) rfl ?_))
    exact ⟨t14,t15,t16,t17,t19,t20,t22,t23,(bandF g9),h1,h2,h3,h4,h5,h16,h18,h21,trivial⟩
  intro T H ⟨t14,t15,t16,t17,t19,t20,t22,t23,t135,h1,h2,h3,h4,h5,h16,h18,h21,_⟩
  refine R_mv t135 ?_
  refine Ops_seg 2 (fun T H=>T 15=(iV (0:Int))∧T 16=(V.mp 16 1 0 0)∧T 17=(iV (0:Int))∧T 19=(iV (9:Int))∧T 20=(iV (5:Int))∧T 22=(iV (0:Int))∧T 23=(iV (8:Int))∧T 138=(V.bool ((w11_15||false)))∧H 1=w11_10∧H 2=w11_8∧H 3=w11_5∧H 4=w11_9∧H 5=w11_3∧H 16=w11_7∧H 18=w11_4∧H 21=w11_4∧True) ?_ ?_
  ·
   by_cases g10:w11_15=true
   ·
    have g10x:=g10
    simp only [Bool.and_eq_true,Bool.or_eq_true,Bool.not_eq_true',decide_eq_true_eq] at g10x
    refine G_yes (ebT g10 rfl) (R_mv t14 (R_pickT (ebT g10 rfl) rfl ?_))
    exact ⟨t15,t16,t17,t19,t20,t22,t23,(borT g10),h1,h2,h3,h4,h5,h16,h18,h21,trivial⟩
   ·
    have g10x:=g10
    simp only [Bool.and_eq_true,Bool.or_eq_true,Bool.not_eq_true',decide_eq_true_eq] at g10x
    refine G_n (ebF g10 rfl) (R_pickF (ebF g10 rfl) rfl ?_)
    exact ⟨t15,t16,t17,t19,t20,t22,t23,(borF g10),h1,h2,h3,h4,h5,h16,h18,h21,trivial⟩
  intro T H ⟨t15,t16,t17,t19,t20,t22,t23,t138,h1,h2,h3,h4,h5,h16,h18,h21,_⟩
  refine R_mv t138 ?_
  refine Ops_seg 3 (fun T H=>T 16=(V.mp 16 1 0 0)∧T 17=(iV (0:Int))∧T 19=(iV (9:Int))∧T 20=(iV (5:Int))∧T 22=(iV (0:Int))∧T 23=(iV (8:Int))∧T 142=(V.bool ((((w11_15||false))&&decide ((0:Int)=(0:Int)))))∧H 1=w11_10∧H 2=w11_8∧H 3=w11_5∧H 4=w11_9∧H 5=w11_3∧H 16=w11_7∧H 18=w11_4∧H 21=w11_4∧True) ?_ ?_
  ·
   by_cases g11:((w11_15||false))=true
   ·
    have g11x:=g11
    simp only [Bool.and_eq_true,Bool.or_eq_true,Bool.not_eq_true',decide_eq_true_eq] at g11x
    refine G_yes (ebT g11 rfl) (R_mv t15 (G_yes (ebT g11 rfl) (R_eql rfl rfl (R_pickT (ebT g11 rfl) rfl ?_))))
    exact ⟨t16,t17,t19,t20,t22,t23,(bandT g11),h1,h2,h3,h4,h5,h16,h18,h21,trivial⟩
   ·
    have g11x:=g11
    simp only [Bool.and_eq_true,Bool.or_eq_true,Bool.not_eq_true',decide_eq_true_eq] at g11x
    refine G_n (ebF g11 rfl) (G_n (ebF g11 rfl) (R_pickF (ebF g11 rfl) rfl ?_))
    exact ⟨t16,t17,t19,t20,t22,t23,(bandF g11),h1,h2,h3,h4,h5,h16,h18,h21,trivial⟩
  intro T H ⟨t16,t17,t19,t20,t22,t23,t142,h1,h2,h3,h4,h5,h16,h18,h21,_⟩
  refine R_mv t142 ?_
  refine Ops_seg 8 (fun T H=>T 17=(iV (0:Int))∧T 19=(iV (9:Int))∧T 20=(iV (5:Int))∧T 22=(iV (0:Int))∧T 23=(iV (8:Int))∧T 151=(V.bool w11_2)∧H 1=w11_10∧H 2=w11_8∧H 3=w11_5∧H 4=w11_9∧H 5=w11_3∧H 16=w11_7∧H 18=w11_4∧H 21=w11_4∧True) ?_ ?_
  ·
   by_cases g12:((((w11_15||false))&&decide ((0:Int)=(0:Int))))=true
   ·
    have g12x:=g12
    simp only [Bool.and_eq_true,Bool.or_eq_true,Bool.not_eq_true',decide_eq_true_eq] at g12x
    refine G_yes (ebT g12 rfl) (R_lk t16 h16 rfl rfl (G_yes (ebT g12 rfl) (R_call (evcons (@rfl V (iV (2:Int))) (evcons (@rfl V (iV (0:Int))) (evcons (@rfl V V.nilsl) evnil))) (lnode_pure ((2:Int)) ((0:Int)) ([])) (mcons (fzv_canon 6 _ (by simp [-List.map_take,-List.map_drop,-List.map_append,-List.map_reverse])) (mcons (fzv_canon 6 _ (by simp [-List.map_take,-List.map_drop,-List.map_append,-List.map_reverse])) (mcons (by rfl) rfl))) (by simp [-List.map_take,-List.map_drop,-List.map_append,-List.map_reverse]) (Or.inl (by simp [-List.map_take,-List.map_drop,-List.map_append,-List.map_reverse])) (G_yes (ebT g12 rfl) (R_bslice rfl rfl (G_yes (ebT g12 rfl) (R_callk (lnode_pure ((4:Int)) ((0:Int)) ([w11_14])) (evcons rfl (evcons rfl (evcons (sl_F1 (x:=(w11_14)) rfl) evnil))) ?_)))))))
    refine G_yes (ebT g12 rfl) (R_bslice rfl rfl (G_yes (ebT g12 rfl) (R_callk (lnode_pure ((9:Int)) ((0:Int)) ([w11_16])) (evcons rfl (evcons rfl (evcons (sl_F1 (x:=(w11_16)) rfl) evnil))) (G_yes (ebT g12 rfl) (R_callk (rsame_pure (⟨((9:Int)),((0:Int)),([Fm.nd 4 0 [Fm.nd 2 0 []]])⟩:Fm) (⟨((((9:Int)))),((((0:Int)))),(([w11_16]))⟩:Fm)) rfl (R_pickT (ebT g12 rfl) rfl ?_))))))
    exact ⟨t17,t19,t20,t22,t23,(bandT g12),h1,h2,h3,h4,h5,h16,h18,h21,trivial⟩
   ·
    have g12x:=g12
    simp only [Bool.and_eq_true,Bool.or_eq_true,Bool.not_eq_true',decide_eq_true_eq] at g12x
    refine G_n (ebF g12 rfl) (G_n (ebF g12 rfl) (G_n (ebF g12 rfl) (G_n (ebF g12 rfl) (G_n (ebF g12 rfl) (G_n (ebF g12 rfl) (G_n (ebF g12 rfl) (R_pickF (ebF g12 rfl) rfl ?_)))))))
    exact ⟨t17,t19,t20,t22,t23,(bandF g12),h1,h2,h3,h4,h5,h16,h18,h21,trivial⟩
  intro T H ⟨t17,t19,t20,t22,t23,t151,h1,h2,h3,h4,h5,h16,h18,h21,_⟩
  refine R_mv t151 ?_
  refine Ops_seg 3 (fun T H=>T 19=(iV (9:Int))∧T 20=(iV (5:Int))∧T 22=(iV (0:Int))∧T 23=(iV (8:Int))∧T 155=(V.bool ((w11_2&&decide ((0:Int)=(0:Int)))))∧H 1=w11_10∧H 2=w11_8∧H 3=w11_5∧H 4=w11_9∧H 5=w11_3∧H 16=w11_7∧H 18=w11_4∧H 21=w11_4∧True) ?_ ?_
  ·
   by_cases g13:w11_2=true
   ·
    have g13x:=g13
    simp only [Bool.and_eq_true,Bool.or_eq_true,Bool.not_eq_true',decide_eq_true_eq] at g13x
    refine G_yes (ebT g13 rfl) (R_mv t17 (G_yes (ebT g13 rfl) (R_eql rfl rfl (R_pickT (ebT g13 rfl) rfl ?_))))
    exact ⟨t19,t20,t22,t23,(bandT g13),h1,h2,h3,h4,h5,h16,h18,h21,trivial⟩
   ·
    have g13x:=g13
    simp only [Bool.and_eq_true,Bool.or_eq_true,Bool.not_eq_true',decide_eq_true_eq] at g13x
    refine G_n (ebF g13 rfl) (G_n (ebF g13 rfl) (R_pickF (ebF g13 rfl) rfl ?_))
    exact ⟨t19,t20,t22,t23,(bandF g13),h1,h2,h3,h4,h5,h16,h18,h21,trivial⟩
  intro T H ⟨t19,t20,t22,t23,t155,h1,h2,h3,h4,h5,h16,h18,h21,_⟩
  refine R_mv t155 ?_
  refine Ops_seg 3 (fun T H=>T 20=(iV (5:Int))∧T 22=(iV (0:Int))∧T 23=(iV (8:Int))∧T 159=(V.bool ((((w11_2&&decide ((0:Int)=(0:Int))))&&decide ((9:Int)=(9:Int)))))∧H 1=w11_10∧H 2=w11_8∧H 3=w11_5∧H 4=w11_9∧H 5=w11_3∧H 16=w11_7∧H 18=w11_4∧H 21=w11_4∧True) ?_ ?_
  ·
   by_cases g14:((w11_2&&decide ((0:Int)=(0:Int))))=true
   ·
    have g14x:=g14
    simp only [Bool.and_eq_true,Bool.or_eq_true,Bool.not_eq_true',decide_eq_true_eq] at g14x
    refine G_yes (ebT g14 rfl) (R_mv t19 (G_yes (ebT g14 rfl) (R_eql rfl rfl (R_pickT (ebT g14 rfl) rfl ?_))))
    exact ⟨t20,t22,t23,(bandT g14),h1,h2,h3,h4,h5,h16,h18,h21,trivial⟩
   ·
    have g14x:=g14
    simp only [Bool.and_eq_true,Bool.or_eq_true,Bool.not_eq_true',decide_eq_true_eq] at g14x
    refine G_n (ebF g14 rfl) (G_n (ebF g14 rfl) (R_pickF (ebF g14 rfl) rfl ?_))
    exact ⟨t20,t22,t23,(bandF g14),h1,h2,h3,h4,h5,h16,h18,h21,trivial⟩
  intro T H ⟨t20,t22,t23,t159,h1,h2,h3,h4,h5,h16,h18,h21,_⟩
  refine R_mv t159 ?_
  refine Ops_seg 3 (fun T H=>T 22=(iV (0:Int))∧T 23=(iV (8:Int))∧T 163=(V.bool w11_13)∧H 1=w11_10∧H 2=w11_8∧H 3=w11_5∧H 4=w11_9∧H 5=w11_3∧H 16=w11_7∧H 18=w11_4∧H 21=w11_4∧True) ?_ ?_
  ·
   by_cases g15:((((w11_2&&decide ((0:Int)=(0:Int))))&&decide ((9:Int)=(9:Int))))=true
   ·
    have g15x:=g15
    simp only [Bool.and_eq_true,Bool.or_eq_true,Bool.not_eq_true',decide_eq_true_eq] at g15x
    refine G_yes (ebT g15 rfl) (R_mv t20 (G_yes (ebT g15 rfl) (R_eql rfl rfl (R_pickT (ebT g15 rfl) rfl ?_))))
    exact ⟨t22,t23,(bandT g15),h1,h2,h3,h4,h5,h16,h18,h21,trivial⟩
   ·
    have g15x:=g15
    simp only [Bool.and_eq_true,Bool.or_eq_true,Bool.not_eq_true',decide_eq_true_eq] at g15x
    refine G_n (ebF g15 rfl) (G_n (ebF g15 rfl) (R_pickF (ebF g15 rfl) rfl ?_))
    exact ⟨t22,t23,(bandF g15),h1,h2,h3,h4,h5,h16,h18,h21,trivial⟩
  intro T H ⟨t22,t23,t163,h1,h2,h3,h4,h5,h16,h18,h21,_⟩
  refine R_mv t163 ?_
  refine Ops_seg 3 (fun T H=>T 23=(iV (8:Int))∧T 167=(V.bool ((w11_13&&decide ((0:Int)=(0:Int)))))∧H 1=w11_10∧H 2=w11_8∧H 3=w11_5∧H 4=w11_9∧H 5=w11_3∧H 16=w11_7∧H 18=w11_4∧H 21=w11_4∧True) ?_ ?_
  ·
   by_cases g16:w11_13=true
   ·
    have g16x:=g16
    simp only [Bool.and_eq_true,Bool.or_eq_true,Bool.not_eq_true',decide_eq_true_eq] at g16x
    refine G_yes (ebT g16 rfl) (R_mv t22 (G_yes (ebT g16 rfl) (R_eql rfl rfl (R_pickT (ebT g16 rfl) rfl ?_))))
    exact ⟨t23,(bandT g16),h1,h2,h3,h4,h5,h16,h18,h21,trivial⟩
   ·
    have g16x:=g16
    simp only [Bool.and_eq_true,Bool.or_eq_true,Bool.not_eq_true',decide_eq_true_eq] at g16x
    refine G_n (ebF g16 rfl) (G_n (ebF g16 rfl) (R_pickF (ebF g16 rfl) rfl ?_))
    exact ⟨t23,(bandF g16),h1,h2,h3,h4,h5,h16,h18,h21,trivial⟩
  intro T H ⟨t23,t167,h1,h2,h3,h4,h5,h16,h18,h21,_⟩
  refine R_mv t167 ?_
  refine Ops_seg 3 (fun T H=>T 171=(V.bool ((((w11_13&&decide ((0:Int)=(0:Int))))&&decide ((8:Int)=(8:Int)))))∧H 1=w11_10∧H 2=w11_8∧H 3=w11_5∧H 4=w11_9∧H 5=w11_3∧H 16=w11_7∧H 18=w11_4∧H 21=w11_4∧True) ?_ ?_
  ·
   by_cases g17:((w11_13&&decide ((0:Int)=(0:Int))))=true
   ·
    have g17x:=g17
    simp only [Bool.and_eq_true,Bool.or_eq_true,Bool.not_eq_true',decide_eq_true_eq] at g17x
    refine G_yes (ebT g17 rfl) (R_mv t23 (G_yes (ebT g17 rfl) (R_eql rfl rfl (R_pickT (ebT g17 rfl) rfl ?_))))
    exact ⟨(bandT g17),h1,h2,h3,h4,h5,h16,h18,h21,trivial⟩
   ·
    have g17x:=g17
    simp only [Bool.and_eq_true,Bool.or_eq_true,Bool.not_eq_true',decide_eq_true_eq] at g17x
    refine G_n (ebF g17 rfl) (G_n (ebF g17 rfl) (R_pickF (ebF g17 rfl) rfl ?_))
    exact ⟨(bandF g17),h1,h2,h3,h4,h5,h16,h18,h21,trivial⟩
  intro T H ⟨t171,h1,h2,h3,h4,h5,h16,h18,h21,_⟩
  refine R_mv t171 ?_
  exact R_nil ⟨rfl,h1,h2,h3,h4,h5,h16,h18,h21,trivial⟩
 intro T H ⟨t0,h1,h2,h3,h4,h5,h16,h18,h21,_⟩
 refine W_ret ?_
 refine Ret_1 t0 (fz_bool ?_)
 · decide+kernel
end Go.Proofs.Ytdmcmkccifmofaa
namespace Go.Proofs.Ytdmcmkccifmofaa
open Go Go.Proofs
def r18_2:List SO:=[
 qM 4 3,
 qF 5 0 1,
 ql 6 5,
 qN 7 6,
 qP 8 .lss 4 7,
 qM 9 8,
 ⟨some (9,true),some 10,.mv (.t 3)⟩,
 ⟨some (9,true),some 11,.bin .lss (.t 10) (.c (.int .i64 71))⟩,
 sO 12 (.pick (.t 9) (.t 11) (.c (.bool false)))]
def r18_4:List SO:=[
 qF 15 0 1,
 ql 16 15,
 qM 17 3,
 qA 18 1 16 17,
 ql 19 18,
 sO 20 (.slen (.t 19)),
 qC 21 .gtr 20 100]
def b18_0:SC:=.seq (.seq (.reg r18_2) (.cond (.t 12) (.skip) (.exit 0))) (.seq (.block 1 (.seq (.reg r18_4) (.cond (.t 21) (.seq (.reg [sO 2 (.mv (.c (.bool true)))]) (.ret)) (.skip)))) (.reg [qM 13 3,qC 14 .add 13 1,qM 3 14]))
def s18:SF:=⟨26,[.tmp 2],.seq (.reg [sO 1 (.box 37 1 (.t 0)),sO 2 (.mv (.c (.bool false)))]) (.seq (.seq (.reg [qI 3 0]) (.block 0 (.loop b18_0))) (.seq (.reg [qF 22 0 1,ql 23 22,qN 24 23,qC 25 .gtr 24 70,qM 2 25]) (.ret)))⟩
theorem s18_ok:slimF Try.prog ⟨[31,36,37,38,40,41,42,44,45,59,60,61,65,66,67,71,72,73,81,82,84,92,93,98,99,102,104],[],[],[]⟩ Try.f18=some s18:=by kernel_rfl
theorem great_pure (l:List (List UInt8)):PureC Try.prog 18 [(V.agg [(V.sl (List.map cS (l)))])] (V.bool (grB l)):=by
 refine pW Try.func18 s18_ok fun hB=>?_
 unfold s18
 dsimp only
 refine W_r (R_box (i:=1) (n:=0) (m:=1) (cs:=[(V.sl (List.map cS (l)))]) rfl (congrArg Blk.ver rfl) rfl rfl rfl (R_mv rfl (R_e (W_seq_seq (W_r (R_mv rfl (R_e ?_)))))))
 refine W_seq_blockg fun Q1 n1 x1 y1 z1=>?_
 refine W_loop (fun mm T H=> ∃ (k:Nat),mm=l.length - k∧T 1=(V.mp 1 1 0 0)∧T 3=(iV ((k:Nat):Int))∧H 1=(bk 1 37 1 [[(V.sl (List.map cS (l)))]])∧(k≤l.length∧k≤71)∧((l.take 71).any (fun s=>decide (100 < s.length))=((l.take 71).drop k).any fun s=>decide (100 < s.length))) ?_ ?_
 ·
  refine ⟨_,0,rfl,rfl,(Eq.trans (@rfl V (iV (0:Int))) rfl),rfl,?_,?_⟩
  · omega
  · rfl
 intro mm T H ⟨k,hmm,t1,t3,h1,hk,hc⟩ Q2 p12 p22 p32
 unfold b18_0
 refine W_seq_seq (W_r (R_mv t3 (R_fk t1 h1 (R_lk rfl h1 rfl rfl (R_len rfl (R_lss rfl rfl (R_mv rfl ?_)))))))
 refine Ops_seg 3 (fun T H=>T 1=(V.mp 1 1 0 0)∧T 3=(iV ((k:Nat):Int))∧T 12=(V.bool (decide ((((k:Nat):Int) < ((l.length:Nat):Int))∧(((k:Nat):Int) < (71:Int)))))∧H 1=(bk 1 37 1 [[(V.sl (List.map cS (l)))]])∧True) ?_ ?_
 ·
  by_cases g3:((k:Nat):Int) < ((l.length:Nat):Int)
  ·
   refine G_yes (edT g3 rfl) (R_mv t3 (G_yes (edT g3 rfl) (R_lss rfl rfl (R_pickT (edT g3 rfl) rfl ?_))))
   exact ⟨t1,t3,(dec_andT g3),h1,trivial⟩
  ·
   refine G_n (edF g3 rfl) (G_n (edF g3 rfl) (R_pickF (edF g3 rfl) rfl ?_))
   exact ⟨t1,t3,(dec_andF g3),h1,trivial⟩
 intro T H ⟨t1,t3,t12,h1,_⟩
 refine R_e ?_
 refine W_seq_if t12 (fun c4=>?_) fun c4=>?_
 ·
  refine W_seq_skip (W_seq_blockg fun Q5 n5 x5 y5 z5=>(W_r (R_fk t1 h1 (R_lk rfl h1 rfl rfl (R_mv t3 (R_idx (i:=k) (@rfl V (V.sl (List.map cS (l)))) (@rfl V (iV ((k:Nat):Int))) (by omega) rfl (R_load_pp rfl rfl ?_)))))))
  refine R_slen (s:=((nth (l) (k)))) rfl (R_gtr rfl rfl (R_e ?_))
  refine W_if rfl (fun c6=>?_) fun c6=>?_
  ·
   refine W_r (R_mv rfl (R_e (W_ret (y5 _ _ (p22 _ _ (y1 _ _ ?_))))))
   refine Ret_1 (@rfl V (V.bool true)) (fz_bool ?_)
   · unfold grB; rw [hc,any_yes (by simp; omega) (by rw [nth_take (by omega)]; exact decide_eq_true (by omega))]; rfl
  refine W_skip (n5 _ _ (.done (W_t (R_mv t3 (R_addN rfl (@rfl V (iV ((1:Nat):Int))) (by omega) (R_mv rfl (R_e ?_)))))))
  refine p12 _ _ _ ?_ ⟨(k+1),rfl,t1,(Eq.trans (@rfl V (iV ((k+1:Nat):Int))) (by rfl)),h1,?_,?_⟩
  · omega
  · omega
  · rw [hc,any_step (by simp; omega) (by rw [nth_take (by omega)]; exact decide_eq_false (by omega))]
 refine W_seq_exit (p32 _ _ _ (x1 _ _ (.done (W_r (R_fk t1 h1 (R_lk rfl h1 rfl rfl (R_len rfl ?_)))))))
 refine R_gtr rfl rfl (R_mv rfl (R_e (W_ret ?_)))
 refine Ret_1 (@rfl V (V.bool (decide ((70:Int) < ((l.length:Nat):Int))))) (fz_bool ?_)
 · unfold grB; rw [hc,any_end (by simp; omega),Bool.false_or]; exact decide_eq_decide.2 (by omega)
def r20_12:List SO:=[
 sO 47 (.build [.int .i64 0,.int .i64 0,.nilsl] []),
 qM 48 9,
 sO 49 (.nilck (.t 48)),
 qF 50 6 49,
 sO 51 (.ldp false 1 (.t 50)),
 qM 52 9,
 sO 53 (.nilck (.t 52)),
 qF 54 5 53,
 sO 55 (.ldp false 1 (.t 54)),
 sN (.store 3 (.t 6) (.t 47)),
 qM 7 51,
 qM 8 55]
def r20_14:List SO:=[
 sO 59 (.build [.int .i64 0,.int .i64 0,.nilsl] []),
 qM 60 2,
 sO 61 (.slen (.t 60)),
 qL 62 3 10,
 sO 63 (.call false 15 [.t 62]),
 sN (.store 3 (.t 6) (.t 59)),
 qM 7 61,
 qM 8 63]
def s20:SF:=⟨65,[.cell 6 true 3,.tmp 7,.tmp 8],.seq (.reg [sO 3 (.box 37 1 (.t 0)),sO 4 (.box 37 1 (.t 1)),sO 6 (.alloc 24 [.int .i64 0,.int .i64 0,.nilsl]),qI 7 0,qI 8 0]) (.seq (.block 0 (.seq (.reg [qL 12 1 3,sO 13 (.call false 39 [.t 12]),qC 14 .neq 13 0,qM 11 14]) (.cond (.t 11) (.seq (.reg [sO 15 (.build [.int .i64 0,.int .i64 0,.nilsl] []),qL 16 1 3,sO 17 (.call false 39 [.t 16]),sN (.store 3 (.t 6) (.t 15)),qI 7 0,qM 8 17]) (.ret)) (.seq (.reg [qL 19 1 4,sO 20 (.call false 39 [.t 19]),qC 21 .neq 20 0,qM 18 21]) (.cond (.t 18) (.seq (.reg [sO 22 (.build [.int .i64 0,.int .i64 0,.nilsl] []),qL 23 1 4,sO 24 (.call false 39 [.t 23]),sN (.store 3 (.t 6) (.t 22)),qI 7 0,qM 8 24]) (.ret)) (.seq (.reg [qM 26 2,sO 27 (.slen (.t 26)),qC 28 .gtr 27 1048576,qM 25 28]) (.cond (.t 25) (.seq (.reg [sO 29 (.build [.int .i64 0,.int .i64 0,.nilsl] []),sN (.store 3 (.t 6) (.t 29)),qI 7 0,qI 8 3]) (.ret)) (.skip)))))))) (.seq (.reg [qL 30 1 3,qL 31 1 4,qM 32 2,sO 33 (.build [.nilsl,.nilsl,.str [],.int .i64 0,.int .i64 0,.int .i64 0,.int .i64 0] [(0,1,.t 30),(1,1,.t 31),(2,1,.t 32)]),sO 34 (.box 85 7 (.t 33)),qM 9 34]) (.seq (.seq (.reg [qM 35 9]) (.seq (.pop (some 36) (.call 40 [.t 35])) (.reg [sO 10 (.alloc 24 [.int .i64 0,.int .i64 0,.nilsl]),sN (.store 3 (.t 10) (.t 36))]))) (.seq (.seq (.seq (.reg [qM 37 9]) (.seq (.pop (some 38) (.call 41 [.t 37])) (.reg [sO 39 (.sbin .neq (.t 38) (.c (.str [])))]))) (.cond (.t 39) (.seq (.reg [qM 40 9]) (.seq (.pop (some 41) (.call 42 [.t 40,.c (.int .i64 5)])) (.reg []))) (.skip))) (.seq (.seq (.reg [qM 42 9,sO 43 (.nilck (.t 42)),qF 44 5 43,ql 45 44,qC 46 .neq 45 0]) (.cond (.t 46) (.seq (.reg r20_12) (.ret)) (.skip))) (.seq (.seq (.reg [qL 56 3 10,sO 57 (.call false 15 [.t 56]),qC 58 .neq 57 0]) (.cond (.t 58) (.seq (.reg r20_14) (.ret)) (.skip))) (.seq (.reg [qL 64 3 10,sN (.store 3 (.t 6) (.t 64)),qI 7 0,qI 8 0]) (.ret))))))))⟩
theorem s20_ok:slimF Try.prog ⟨[31,36,37,38,40,41,42,44,45,59,60,61,65,66,67,71,72,73,81,82,84,92,93,98,99,102,104],[51,55],[36,37,38,40,41,42,59,60,61,65,66,67,81,82,92,93,98,99,102,104],[]⟩ Try.f20=some s20:=by kernel_rfl
def r15_1:List SO:=[
 qL 6 3 1,
 sO 7 (.call false 32 [.t 6,.c (.int .i64 1),.c (.int .i64 0)]),
 qM 5 7,
 qE 8 5 0,
 qE 9 5 1,
 qM 3 8,
 qM 4 9]
def s15:SF:=⟨11,[.tmp 2],.seq (.reg [sO 1 (.box 24 3 (.t 0)),qI 2 0]) (.seq (.reg r15_1) (.seq (.reg [qM 10 4,qM 2 10]) (.ret)))⟩
theorem s15_ok:slimF Try.prog ⟨[31,36,37,38,40,41,42,44,45,59,60,61,65,66,67,71,72,73,81,82,84,92,93,98,99,102,104],[],[],[]⟩ Try.f15=some s15:=by kernel_rfl
def r32_11:List SO:=[
 qF 37 2 3,
 ql 38 37,
 qM 39 9,
 qA 40 3 38 39,
 qL 41 3 40,
 qM 42 1,
 qC 43 .add 42 1,
 qM 44 8,
 sO 45 (.call false 32 [.t 41,.t 43,.t 44]),
 qM 36 45,
 qE 46 36 0,
 qE 47 36 1,
 qM 10 46,
 qM 11 47]
def b32_0:SC:=.seq (.seq (.reg [qM 29 9,qF 30 2 3,ql 31 30,qN 32 31,qP 33 .lss 29 32]) (.cond (.t 33) (.skip) (.exit 1))) (.seq (.block 2 (.seq (.reg r32_11) (.seq (.seq (.reg [qM 48 11,qC 49 .neq 48 0]) (.cond (.t 49) (.seq (.reg [qM 50 10,qM 51 11,qM 6 50,qM 7 51]) (.ret)) (.skip))) (.reg [qM 52 10,qM 8 52])))) (.reg [qM 34 9,qC 35 .add 34 1,qM 9 35]))
def s32:SF:=⟨54,[.tmp 6,.tmp 7],.seq (.reg [sO 3 (.box 24 3 (.t 0)),qI 6 0,qI 7 0]) (.seq (.reg [qM 12 2,qC 13 .add 12 1,qM 8 13]) (.seq (.block 0 (.seq (.reg [qM 15 8,qC 16 .gtr 15 4096,qM 14 16]) (.cond (.t 14) (.seq (.reg [qM 17 8,qM 6 17,qI 7 11]) (.ret)) (.seq (.reg [qM 19 1,qC 20 .gtr 19 64,qM 18 20]) (.cond (.t 18) (.seq (.reg [qM 21 8,qM 6 21,qI 7 16]) (.ret)) (.seq (.reg [qL 23 3 3,sO 24 (.call false 54 [.t 23]),qC 25 .neq 24 0,qM 22 25]) (.cond (.t 22) (.seq (.reg [qM 26 8,qL 27 3 3,sO 28 (.call false 54 [.t 27]),qM 6 26,qM 7 28]) (.ret)) (.skip)))))))) (.seq (.seq (.reg [qI 9 0]) (.block 1 (.loop b32_0))) (.seq (.reg [qM 53 8,qM 6 53,qI 7 0]) (.ret)))))⟩
theorem s32_ok:slimF Try.prog ⟨[31,36,37,38,40,41,42,44,45,59,60,61,65,66,67,71,72,73,81,82,84,92,93,98,99,102,104],[],[],[]⟩ Try.f32=some s32:=by kernel_rfl
def r54_18:List SO:=[
 qF 33 0 1,
 ql 34 33,
 qC 35 .eql 34 2,
 qM 36 35,
 ⟨some (36,false),some 37,.fld 0 (.t 1)⟩,
 ⟨some (36,false),some 38,.load false 1 (.t 37)⟩,
 ⟨some (36,false),some 39,.bin .eql (.t 38) (.c (.int .i64 3))⟩,
 sO 40 (.pick (.t 36) (.c (.bool true)) (.t 39)),
 qM 5 40]
def r54_19:List SO:=[
 qM 42 4,
 sO 43 (.un .not (.t 42)),
 qM 44 43,
 ⟨some (44,false),some 45,.mv (.t 5)⟩,
 ⟨some (44,false),some 46,.un .not (.t 45)⟩,
 ⟨some (44,false),some 47,.mv (.t 46)⟩,
 ⟨some (47,true),some 48,.fld 1 (.t 1)⟩,
 ⟨some (47,true),some 49,.load false 1 (.t 48)⟩,
 ⟨some (47,true),some 50,.bin .neq (.t 49) (.c (.int .i64 0))⟩,
 ⟨some (44,false),some 51,.pick (.t 47) (.t 50) (.c (.bool false))⟩,
 sO 52 (.pick (.t 44) (.c (.bool true)) (.t 51)),
 qM 41 52]
def r54_21:List SO:=[
 qF 54 0 1,
 ql 55 54,
 qC 56 .eql 55 2,
 qM 57 56,
 ⟨some (57,true),some 58,.fld 1 (.t 1)⟩,
 ⟨some (57,true),some 59,.load false 1 (.t 58)⟩,
 ⟨some (57,true),some 60,.bin .lss (.t 59) (.c (.int .i64 0))⟩,
 ⟨some (57,true),some 61,.mv (.t 60)⟩,
 ⟨some (61,false),some 62,.fld 1 (.t 1)⟩,
 ⟨some (61,false),some 63,.load false 1 (.t 62)⟩,
 ⟨some (61,false),some 64,.bin .geq (.t 63) (.c (.int .i64 64))⟩,
 ⟨some (57,true),some 65,.pick (.t 61) (.c (.bool true)) (.t 64)⟩,
 sO 66 (.pick (.t 57) (.t 65) (.c (.bool false))),
 qM 53 66]
def r54_22:List SO:=[
 qF 67 0 1,
 ql 68 67,
 qC 69 .eql 68 3,
 qM 70 69,
 ⟨some (70,true),some 71,.fld 1 (.t 1)⟩,
 ⟨some (70,true),some 72,.load false 1 (.t 71)⟩,
 ⟨some (70,true),some 73,.bin .lss (.t 72) (.c (.int .i64 0))⟩,
 ⟨some (70,true),some 74,.mv (.t 73)⟩,
 ⟨some (74,false),some 75,.fld 1 (.t 1)⟩,
 ⟨some (74,false),some 76,.load false 1 (.t 75)⟩,
 ⟨some (74,false),some 77,.bin .gtr (.t 76) (.c (.int .i64 1048576))⟩,
 ⟨some (70,true),some 78,.pick (.t 74) (.c (.bool true)) (.t 77)⟩,
 sO 79 (.pick (.t 70) (.t 78) (.c (.bool false))),
 qM 53 79]
def s54:SF:=⟨80,[.tmp 2],.seq (.reg [sO 1 (.box 24 3 (.t 0)),qI 2 0]) (.seq (.reg [qF 6 2 1,ql 7 6,qN 8 7,qM 3 8]) (.seq (.reg [sO 4 (.mv (.c (.bool false)))]) (.seq (.seq (.reg [qF 9 0 1,ql 10 9]) (.block 0 (.seq (.seq (.reg [qC 12 .eql 10 1,qM 11 12]) (.cond (.t 11) (.skip) (.seq (.reg [qC 13 .eql 10 2,qM 11 13]) (.cond (.t 11) (.skip) (.reg [qC 14 .eql 10 3,qM 11 14]))))) (.cond (.t 11) (.reg [qM 15 3,qC 16 .eql 15 0,qM 4 16]) (.seq (.seq (.reg [qC 18 .eql 10 4,qM 17 18]) (.cond (.t 17) (.skip) (.seq (.reg [qC 19 .eql 10 7,qM 17 19]) (.cond (.t 17) (.skip) (.reg [qC 20 .eql 10 9,qM 17 20]))))) (.cond (.t 17) (.reg [qM 21 3,qC 22 .eql 21 1,qM 4 22]) (.seq (.seq (.reg [qC 24 .eql 10 5,qM 23 24]) (.cond (.t 23) (.skip) (.reg [qC 25 .eql 10 6,qM 23 25]))) (.cond (.t 23) (.reg [qM 26 3,qC 27 .geq 26 2,qM 4 27]) (.seq (.seq (.reg [qC 29 .eql 10 8,qM 28 29]) (.cond (.t 28) (.skip) (.reg [qC 30 .eql 10 10,qM 28 30]))) (.cond (.t 28) (.reg [qM 31 3,qC 32 .eql 31 2,qM 4 32]) (.skip))))))))))) (.seq (.reg r54_18) (.seq (.block 1 (.seq (.reg r54_19) (.cond (.t 41) (.seq (.reg [qI 2 1]) (.ret)) (.seq (.seq (.reg r54_21) (.cond (.t 53) (.skip) (.reg r54_22))) (.cond (.t 53) (.seq (.reg [qI 2 2]) (.ret)) (.skip)))))) (.seq (.reg [qI 2 0]) (.ret)))))))⟩
theorem s54_ok:slimF Try.prog ⟨[31,36,37,38,40,41,42,44,45,59,60,61,65,66,67,71,72,73,81,82,84,92,93,98,99,102,104],[],[],[]⟩ Try.f54=some s54:=by kernel_rfl
theorem rright_pure (f:Fm):PureC Try.prog 54 [(V.agg [(iV (f.op)),(iV (f.arg)),(V.sl (List.map cF (f.kids)))])] (iV (rgt f)):=by
 refine pW Try.func54 s54_ok fun hB=>?_
 unfold s54
 dsimp only
 refine W_r (R_box (i:=1) (n:=0) (m:=3) (cs:=[(iV (f.op)),(iV (f.arg)),(V.sl (List.map cF (f.kids)))]) rfl (congrArg Blk.ver rfl) rfl rfl rfl (R_mv rfl (R_e (W_r (R_fk rfl rfl (R_lk rfl rfl rfl rfl (R_len rfl ?_)))))))
 refine R_mv rfl (R_e (W_r (R_mv rfl (R_e (W_seq_seq (W_r (R_fk rfl rfl ?_)))))))
 refine R_lk rfl rfl rfl rfl (R_e (W_seq_blockg fun Q1 n1 x1 y1 z1=>(W_seq_seq (W_r (R_eql rfl rfl (R_mv rfl (R_e ?_)))))))
 refine W_seq_if rfl (fun c2=>?_) fun c2=>?_
 ·
  refine W_seq_skip ?_
  refine W_if rfl (fun c3=>?_) fun c3=>?_
  ·
   refine W_t (R_mv rfl (R_eql rfl rfl (R_mv rfl (R_e (n1 _ _ (.done (W_r ?_)))))))
   refine R_fk rfl rfl (R_lk rfl rfl rfl rfl (R_eql rfl rfl (R_mv rfl ?_)))
   refine Ops_seg 4 (fun T H=>T 1=(V.mp 1 1 0 0)∧T 4=(V.bool (decide (((f.kids.length:Nat):Int)=(0:Int))))∧T 40=(V.bool (decide (((f.op)=(2:Int))∨((f.op)=(3:Int)))))∧H 1=(bk 1 24 3 [[(iV (f.op)),(iV (f.arg)),(V.sl (List.map cF (f.kids)))]])∧True) ?_ ?_
   ·
    by_cases g4:(f.op)=(2:Int)
    ·
     refine G_n (edT g4 rfl) (G_n (edT g4 rfl) (G_n (edT g4 rfl) (R_pickT (edT g4 rfl) rfl ?_)))
     exact ⟨rfl,rfl,(dec_orT g4),rfl,trivial⟩
    ·
     refine G_yes (edF g4 rfl) (R_fk rfl rfl (G_yes (edF g4 rfl) (R_lk rfl rfl rfl rfl (G_yes (edF g4 rfl) (R_eql rfl rfl (R_pickF (edF g4 rfl) rfl ?_))))))
     exact ⟨rfl,rfl,(dec_orF g4),rfl,trivial⟩
   intro T H ⟨t1,t4,t40,h1,_⟩
   refine R_mv t40 (R_e (W_seq_blockg fun Q5 n5 x5 y5 z5=>(W_r (R_mv t4 (R_not rfl (R_mv rfl ?_))))))
   refine Ops_seg 8 (fun T H=>T 1=(V.mp 1 1 0 0)∧T 52=(V.bool (decide ((¬(((f.kids.length:Nat):Int)=(0:Int)))∨((¬(((f.op)=(2:Int))∨((f.op)=(3:Int))))∧((f.arg)≠(0:Int))))))∧H 1=(bk 1 24 3 [[(iV (f.op)),(iV (f.arg)),(V.sl (List.map cF (f.kids)))]])∧True) ?_ ?_
   ·
    by_cases g6: ¬(((f.kids.length:Nat):Int)=(0:Int))
    ·
     refine G_n (edT g6 rfl) (G_n (edT g6 rfl) (G_n (edT g6 rfl) (G_raw (@rfl V (V.raw undef)) (G_raw (@rfl V (V.raw undef)) (G_raw (@rfl V (V.raw undef)) (G_n (edT g6 rfl) (R_pickT (edT g6 rfl) rfl ?_)))))))
     exact ⟨t1,(dec_orT g6),h1,trivial⟩
    ·
     refine G_yes (edF g6 rfl) (R_mv rfl (G_yes (edF g6 rfl) (R_not rfl (G_yes (edF g6 rfl) (R_mv rfl ?_)))))
     refine Ops_seg 4 (fun T H=>T 1=(V.mp 1 1 0 0)∧T 44=(V.bool false)∧T 51=(V.bool (decide ((¬(((f.op)=(2:Int))∨((f.op)=(3:Int))))∧((f.arg)≠(0:Int)))))∧H 1=(bk 1 24 3 [[(iV (f.op)),(iV (f.arg)),(V.sl (List.map cF (f.kids)))]])∧True) ?_ ?_
     ·
      by_cases g7: ¬(((f.op)=(2:Int))∨((f.op)=(3:Int)))
      ·
       refine G_yes (edT g7 rfl) (R_fk t1 h1 (G_yes (edT g7 rfl) (R_lk rfl h1 rfl rfl (G_yes (edT g7 rfl) (R_neq rfl rfl (G_yes (edF g6 rfl) (R_pickT (edT g7 rfl) rfl ?_)))))))
       exact ⟨t1,(edF g6 rfl),(dec_andT g7),h1,trivial⟩
      ·
       refine G_n (edF g7 rfl) (G_n (edF g7 rfl) (G_n (edF g7 rfl) (G_yes (edF g6 rfl) (R_pickF (edF g7 rfl) rfl ?_))))
       exact ⟨t1,(edF g6 rfl),(dec_andF g7),h1,trivial⟩
     intro T H ⟨t1,t44,t51,h1,_⟩
     refine R_pickF t44 t51 ?_
     exact ⟨t1,(dec_orF g6),h1,trivial⟩
   intro T H ⟨t1,t52,h1,_⟩
   refine R_mv t52 (R_e ?_)
   refine W_if rfl (fun c8=>?_) fun c8=>?_
   ·
    refine W_r (R_mv rfl (R_e (W_ret (y5 _ _ ?_))))
    refine Ret_1 (@rfl V (iV (1:Int))) (fz_int ?_)
    · simp only [rgt,kLo,kHi]; repeat (first|rfl|omega|split)
   refine W_seq_seq (W_r (R_fk t1 h1 (R_lk rfl h1 rfl rfl (R_eql rfl rfl (R_mv rfl ?_)))))
   refine Ops_seg 9 (fun T H=>T 1=(V.mp 1 1 0 0)∧T 66=(V.bool (decide (((f.op)=(2:Int))∧(((f.arg) < (0:Int))∨((64:Int)≤(f.arg))))))∧H 1=(bk 1 24 3 [[(iV (f.op)),(iV (f.arg)),(V.sl (List.map cF (f.kids)))]])∧True) ?_ ?_
   ·
    by_cases g9:(f.op)=(2:Int)
    ·
     refine G_yes (edT g9 rfl) (R_fk t1 h1 (G_yes (edT g9 rfl) (R_lk rfl h1 rfl rfl (G_yes (edT g9 rfl) (R_lss rfl rfl (G_yes (edT g9 rfl) (R_mv rfl ?_)))))))
     refine Ops_seg 4 (fun T H=>T 1=(V.mp 1 1 0 0)∧T 57=(V.bool true)∧T 65=(V.bool (decide (((f.arg) < (0:Int))∨((64:Int)≤(f.arg)))))∧H 1=(bk 1 24 3 [[(iV (f.op)),(iV (f.arg)),(V.sl (List.map cF (f.kids)))]])∧True) ?_ ?_
     ·
      by_cases g10:(f.arg) < (0:Int)
      ·
       refine G_n (edT g10 rfl) (G_n (edT g10 rfl) (G_n (edT g10 rfl) (G_yes (edT g9 rfl) (R_pickT (edT g10 rfl) rfl ?_))))
       exact ⟨t1,(edT g9 rfl),(dec_orT g10),h1,trivial⟩
      ·
       refine G_yes (edF g10 rfl) (R_fk t1 h1 (G_yes (edF g10 rfl) (R_lk rfl h1 rfl rfl (G_yes (edF g10 rfl) (R_geq rfl rfl (G_yes (edT g9 rfl) (R_pickF (edF g10 rfl) rfl ?_)))))))
       exact ⟨t1,(edT g9 rfl),(dec_orF g10),h1,trivial⟩
     intro T H ⟨t1,t57,t65,h1,_⟩
     refine R_pickT t57 t65 ?_
     exact ⟨t1,(dec_andT g9),h1,trivial⟩
    ·
     refine G_n (edF g9 rfl) (G_n (edF g9 rfl) (G_n (edF g9 rfl) (G_n (edF g9 rfl) (G_raw (@rfl V (V.raw undef)) (G_raw (@rfl V (V.raw undef)) (G_raw (@rfl V (V.raw undef)) (G_n (edF g9 rfl) ?_)))))))
     refine R_pickF (edF g9 rfl) rfl ?_
     exact ⟨t1,(dec_andF g9),h1,trivial⟩
   intro T H ⟨t1,t66,h1,_⟩
   refine R_mv t66 (R_e ?_)
   refine W_seq_if rfl (fun c11=>?_) fun c11=>?_
   ·
    refine W_seq_skip ?_
    refine W_if rfl (fun c12=>?_) fun c12=>?_
    ·
     refine W_r (R_mv rfl (R_e (W_ret (y5 _ _ ?_))))
     refine Ret_1 (@rfl V (iV (2:Int))) (fz_int ?_)
     · simp only [rgt,kLo,kHi]; repeat (first|rfl|omega|split)
    · exact (c12 c11).elim
   refine W_r (R_fk t1 h1 (R_lk rfl h1 rfl rfl (R_eql rfl rfl (R_mv rfl ?_))))
   refine Ops_seg 9 (fun T H=>T 53=(V.bool (decide (((f.op)=(2:Int))∧(((f.arg) < (0:Int))∨((64:Int)≤(f.arg))))))∧T 79=(V.bool (decide (((f.op)=(3:Int))∧(((f.arg) < (0:Int))∨((1048576:Int) < (f.arg))))))∧H 1=(bk 1 24 3 [[(iV (f.op)),(iV (f.arg)),(V.sl (List.map cF (f.kids)))]])∧True) ?_ ?_
   ·
    by_cases g13:(f.op)=(3:Int)
    ·
     refine G_yes (edT g13 rfl) (R_fk t1 h1 (G_yes (edT g13 rfl) (R_lk rfl h1 rfl rfl (G_yes (edT g13 rfl) (R_lss rfl rfl (G_yes (edT g13 rfl) (R_mv rfl ?_)))))))
     refine Ops_seg 4 (fun T H=>T 53=(V.bool (decide (((f.op)=(2:Int))∧(((f.arg) < (0:Int))∨((64:Int)≤(f.arg))))))∧T 70=(V.bool true)∧T 78=(V.bool (decide (((f.arg) < (0:Int))∨((1048576:Int) < (f.arg)))))∧H 1=(bk 1 24 3 [[(iV (f.op)),(iV (f.arg)),(V.sl (List.map cF (f.kids)))]])∧True) ?_ ?_
     ·
      by_cases g14:(f.arg) < (0:Int)
      ·
       refine G_n (edT g14 rfl) (G_n (edT g14 rfl) (G_n (edT g14 rfl) (G_yes (edT g13 rfl) (R_pickT (edT g14 rfl) rfl ?_))))
       exact ⟨rfl,(edT g13 rfl),(dec_orT g14),h1,trivial⟩
      ·
       refine G_yes (edF g14 rfl) (R_fk t1 h1 (G_yes (edF g14 rfl) (R_lk rfl h1 rfl rfl (G_yes (edF g14 rfl) (R_gtr rfl rfl (G_yes (edT g13 rfl) (R_pickF (edF g14 rfl) rfl ?_)))))))
       exact ⟨rfl,(edT g13 rfl),(dec_orF g14),h1,trivial⟩
     intro T H ⟨t53,t70,t78,h1,_⟩
     refine R_pickT t70 t78 ?_
     exact ⟨t53,(dec_andT g13),h1,trivial⟩
    ·
     refine G_n (edF g13 rfl) (G_n (edF g13 rfl) (G_n (edF g13 rfl) (G_n (edF g13 rfl) (G_raw (@rfl V (V.raw undef)) (G_raw (@rfl V (V.raw undef)) (G_raw (@rfl V (V.raw undef)) (G_n (edF g13 rfl) ?_)))))))
     refine R_pickF (edF g13 rfl) rfl ?_
     exact ⟨rfl,(dec_andF g13),h1,trivial⟩
   intro T H ⟨t53,t79,h1,_⟩
   refine R_mv t79 (R_e ?_)
   refine W_if rfl (fun c15=>?_) fun c15=>?_
   ·
    refine W_r (R_mv rfl (R_e (W_ret (y5 _ _ ?_))))
    refine Ret_1 (@rfl V (iV (2:Int))) (fz_int ?_)
    · simp only [rgt,kLo,kHi]; repeat (first|rfl|omega|split)
   refine W_skip (n5 _ _ (.done (W_r (R_mv rfl (R_e (W_ret ?_))))))
   refine Ret_1 (@rfl V (iV (0:Int))) (fz_int ?_)
   · simp only [rgt,kLo,kHi]; repeat (first|rfl|omega|split)
  · exact (c3 c2).elim
 refine W_seq_seq (W_r (R_eql rfl rfl (R_mv rfl (R_e ?_))))
 refine W_seq_if rfl (fun c16=>?_) fun c16=>?_
 ·
  refine W_seq_skip ?_
  refine W_if rfl (fun c17=>?_) fun c17=>?_
  ·
   refine W_t (R_mv rfl (R_eql rfl rfl (R_mv rfl (R_e (n1 _ _ (.done (W_r ?_)))))))
   refine R_fk rfl rfl (R_lk rfl rfl rfl rfl (R_eql rfl rfl (R_mv rfl ?_)))
   refine Ops_seg 4 (fun T H=>T 1=(V.mp 1 1 0 0)∧T 4=(V.bool (decide (((f.kids.length:Nat):Int)=(0:Int))))∧T 40=(V.bool (decide (((f.op)=(2:Int))∨((f.op)=(3:Int)))))∧H 1=(bk 1 24 3 [[(iV (f.op)),(iV (f.arg)),(V.sl (List.map cF (f.kids)))]])∧True) ?_ ?_
   ·
    by_cases g18:(f.op)=(2:Int)
    ·
     refine G_n (edT g18 rfl) (G_n (edT g18 rfl) (G_n (edT g18 rfl) (R_pickT (edT g18 rfl) rfl ?_)))
     exact ⟨rfl,rfl,(dec_orT g18),rfl,trivial⟩
    ·
     refine G_yes (edF g18 rfl) (R_fk rfl rfl (G_yes (edF g18 rfl) (R_lk rfl rfl rfl rfl (G_yes (edF g18 rfl) (R_eql rfl rfl (R_pickF (edF g18 rfl) rfl ?_))))))
     exact ⟨rfl,rfl,(dec_orF g18),rfl,trivial⟩
   intro T H ⟨t1,t4,t40,h1,_⟩
   refine R_mv t40 (R_e (W_seq_blockg fun Q19 n19 x19 y19 z19=>(W_r (R_mv t4 (R_not rfl (R_mv rfl ?_))))))
   refine Ops_seg 8 (fun T H=>T 1=(V.mp 1 1 0 0)∧T 52=(V.bool (decide ((¬(((f.kids.length:Nat):Int)=(0:Int)))∨((¬(((f.op)=(2:Int))∨((f.op)=(3:Int))))∧((f.arg)≠(0:Int))))))∧H 1=(bk 1 24 3 [[(iV (f.op)),(iV (f.arg)),(V.sl (List.map cF (f.kids)))]])∧True) ?_ ?_
   ·
    by_cases g20: ¬(((f.kids.length:Nat):Int)=(0:Int))
    ·
     refine G_n (edT g20 rfl) (G_n (edT g20 rfl) (G_n (edT g20 rfl) (G_raw (@rfl V (V.raw undef)) (G_raw (@rfl V (V.raw undef)) (G_raw (@rfl V (V.raw undef)) (G_n (edT g20 rfl) (R_pickT (edT g20 rfl) rfl ?_)))))))
     exact ⟨t1,(dec_orT g20),h1,trivial⟩
    ·
     refine G_yes (edF g20 rfl) (R_mv rfl (G_yes (edF g20 rfl) (R_not rfl (G_yes (edF g20 rfl) (R_mv rfl ?_)))))
     refine Ops_seg 4 (fun T H=>T 1=(V.mp 1 1 0 0)∧T 44=(V.bool false)∧T 51=(V.bool (decide ((¬(((f.op)=(2:Int))∨((f.op)=(3:Int))))∧((f.arg)≠(0:Int)))))∧H 1=(bk 1 24 3 [[(iV (f.op)),(iV (f.arg)),(V.sl (List.map cF (f.kids)))]])∧True) ?_ ?_
     ·
      by_cases g21: ¬(((f.op)=(2:Int))∨((f.op)=(3:Int)))
      ·
       refine G_yes (edT g21 rfl) (R_fk t1 h1 (G_yes (edT g21 rfl) (R_lk rfl h1 rfl rfl (G_yes (edT g21 rfl) (R_neq rfl rfl (G_yes (edF g20 rfl) (R_pickT (edT g21 rfl) rfl ?_)))))))
       exact ⟨t1,(edF g20 rfl),(dec_andT g21),h1,trivial⟩
      ·
       refine G_n (edF g21 rfl) (G_n (edF g21 rfl) (G_n (edF g21 rfl) (G_yes (edF g20 rfl) (R_pickF (edF g21 rfl) rfl ?_))))
       exact ⟨t1,(edF g20 rfl),(dec_andF g21),h1,trivial⟩
     intro T H ⟨t1,t44,t51,h1,_⟩
     refine R_pickF t44 t51 ?_
     exact ⟨t1,(dec_orF g20),h1,trivial⟩
   intro T H ⟨t1,t52,h1,_⟩
   refine R_mv t52 (R_e ?_)
   refine W_if rfl (fun c22=>?_) fun c22=>?_
   ·
    refine W_r (R_mv rfl (R_e (W_ret (y19 _ _ ?_))))
    refine Ret_1 (@rfl V (iV (1:Int))) (fz_int ?_)
    · simp only [rgt,kLo,kHi]; repeat (first|rfl|omega|split)
   refine W_seq_seq (W_r (R_fk t1 h1 (R_lk rfl h1 rfl rfl (R_eql rfl rfl (R_mv rfl ?_)))))
   refine Ops_seg 9 (fun T H=>T 1=(V.mp 1 1 0 0)∧T 66=(V.bool (decide (((f.op)=(2:Int))∧(((f.arg) < (0:Int))∨((64:Int)≤(f.arg))))))∧H 1=(bk 1 24 3 [[(iV (f.op)),(iV (f.arg)),(V.sl (List.map cF (f.kids)))]])∧True) ?_ ?_
   ·
    by_cases g23:(f.op)=(2:Int)
    ·
     refine G_yes (edT g23 rfl) (R_fk t1 h1 (G_yes (edT g23 rfl) (R_lk rfl h1 rfl rfl (G_yes (edT g23 rfl) (R_lss rfl rfl (G_yes (edT g23 rfl) (R_mv rfl ?_)))))))
     refine Ops_seg 4 (fun T H=>T 1=(V.mp 1 1 0 0)∧T 57=(V.bool true)∧T 65=(V.bool (decide (((f.arg) < (0:Int))∨((64:Int)≤(f.arg)))))∧H 1=(bk 1 24 3 [[(iV (f.op)),(iV (f.arg)),(V.sl (List.map cF (f.kids)))]])∧True) ?_ ?_
     ·
      by_cases g24:(f.arg) < (0:Int)
      ·
       refine G_n (edT g24 rfl) (G_n (edT g24 rfl) (G_n (edT g24 rfl) (G_yes (edT g23 rfl) (R_pickT (edT g24 rfl) rfl ?_))))
       exact ⟨t1,(edT g23 rfl),(dec_orT g24),h1,trivial⟩
      ·
       refine G_yes (edF g24 rfl) (R_fk t1 h1 (G_yes (edF g24 rfl) (R_lk rfl h1 rfl rfl (G_yes (edF g24 rfl) (R_geq rfl rfl (G_yes (edT g23 rfl) (R_pickF (edF g24 rfl) rfl ?_)))))))
       exact ⟨t1,(edT g23 rfl),(dec_orF g24),h1,trivial⟩
     intro T H ⟨t1,t57,t65,h1,_⟩
     refine R_pickT t57 t65 ?_
     exact ⟨t1,(dec_andT g23),h1,trivial⟩
    ·
     refine G_n (edF g23 rfl) (G_n (edF g23 rfl) (G_n (edF g23 rfl) (G_n (edF g23 rfl) (G_raw (@rfl V (V.raw undef)) (G_raw (@rfl V (V.raw undef)) (G_raw (@rfl V (V.raw undef)) (G_n (edF g23 rfl) ?_)))))))
     refine R_pickF (edF g23 rfl) rfl ?_
     exact ⟨t1,(dec_andF g23),h1,trivial⟩
   intro T H ⟨t1,t66,h1,_⟩
   refine R_mv t66 (R_e ?_)
   refine W_seq_if rfl (fun c25=>?_) fun c25=>?_
   ·
    refine W_seq_skip ?_
    refine W_if rfl (fun c26=>?_) fun c26=>?_
    ·
     refine W_r (R_mv rfl (R_e (W_ret (y19 _ _ ?_))))
     refine Ret_1 (@rfl V (iV (2:Int))) (fz_int ?_)
     · simp only [rgt,kLo,kHi]; repeat (first|rfl|omega|split)
    · exact (c26 c25).elim
   refine W_r (R_fk t1 h1 (R_lk rfl h1 rfl rfl (R_eql rfl rfl (R_mv rfl ?_))))
   refine Ops_seg 9 (fun T H=>T 53=(V.bool (decide (((f.op)=(2:Int))∧(((f.arg) < (0:Int))∨((64:Int)≤(f.arg))))))∧T 79=(V.bool (decide (((f.op)=(3:Int))∧(((f.arg) < (0:Int))∨((1048576:Int) < (f.arg))))))∧H 1=(bk 1 24 3 [[(iV (f.op)),(iV (f.arg)),(V.sl (List.map cF (f.kids)))]])∧True) ?_ ?_
   ·
    by_cases g27:(f.op)=(3:Int)
    ·
     refine G_yes (edT g27 rfl) (R_fk t1 h1 (G_yes (edT g27 rfl) (R_lk rfl h1 rfl rfl (G_yes (edT g27 rfl) (R_lss rfl rfl (G_yes (edT g27 rfl) (R_mv rfl ?_)))))))
     refine Ops_seg 4 (fun T H=>T 53=(V.bool (decide (((f.op)=(2:Int))∧(((f.arg) < (0:Int))∨((64:Int)≤(f.arg))))))∧T 70=(V.bool true)∧T 78=(V.bool (decide (((f.arg) < (0:Int))∨((1048576:Int) < (f.arg)))))∧H 1=(bk 1 24 3 [[(iV (f.op)),(iV (f.arg)),(V.sl (List.map cF (f.kids)))]])∧True) ?_ ?_
     ·
      by_cases g28:(f.arg) < (0:Int)
      ·
       refine G_n (edT g28 rfl) (G_n (edT g28 rfl) (G_n (edT g28 rfl) (G_yes (edT g27 rfl) (R_pickT (edT g28 rfl) rfl ?_))))
       exact ⟨rfl,(edT g27 rfl),(dec_orT g28),h1,trivial⟩
      ·
       refine G_yes (edF g28 rfl) (R_fk t1 h1 (G_yes (edF g28 rfl) (R_lk rfl h1 rfl rfl (G_yes (edF g28 rfl) (R_gtr rfl rfl (G_yes (edT g27 rfl) (R_pickF (edF g28 rfl) rfl ?_)))))))
       exact ⟨rfl,(edT g27 rfl),(dec_orF g28),h1,trivial⟩
     intro T H ⟨t53,t70,t78,h1,_⟩
     refine R_pickT t70 t78 ?_
     exact ⟨t53,(dec_andT g27),h1,trivial⟩
    ·
     refine G_n (edF g27 rfl) (G_n (edF g27 rfl) (G_n (edF g27 rfl) (G_n (edF g27 rfl) (G_raw (@rfl V (V.raw undef)) (G_raw (@rfl V (V.raw undef)) (G_raw (@rfl V (V.raw undef)) (G_n (edF g27 rfl) ?_)))))))
     refine R_pickF (edF g27 rfl) rfl ?_
     exact ⟨rfl,(dec_andF g27),h1,trivial⟩
   intro T H ⟨t53,t79,h1,_⟩
   refine R_mv t79 (R_e ?_)
   refine W_if rfl (fun c29=>?_) fun c29=>?_
   ·
    refine W_r (R_mv rfl (R_e (W_ret (y19 _ _ ?_))))
    refine Ret_1 (@rfl V (iV (2:Int))) (fz_int ?_)
    · simp only [rgt,kLo,kHi]; repeat (first|rfl|omega|split)
   refine W_skip (n19 _ _ (.done (W_r (R_mv rfl (R_e (W_ret ?_))))))
   refine Ret_1 (@rfl V (iV (0:Int))) (fz_int ?_)
   · simp only [rgt,kLo,kHi]; repeat (first|rfl|omega|split)
  · exact (c17 c16).elim
 refine W_r (R_eql rfl rfl (R_mv rfl (R_e ?_)))
 refine W_if rfl (fun c30=>?_) fun c30=>?_
 ·
  refine W_t (R_mv rfl (R_eql rfl rfl (R_mv rfl (R_e (n1 _ _ (.done (W_r ?_)))))))
  refine R_fk rfl rfl (R_lk rfl rfl rfl rfl (R_eql rfl rfl (R_mv rfl ?_)))
  refine Ops_seg 4 (fun T H=>T 1=(V.mp 1 1 0 0)∧T 4=(V.bool (decide (((f.kids.length:Nat):Int)=(0:Int))))∧T 40=(V.bool (decide (((f.op)=(2:Int))∨((f.op)=(3:Int)))))∧H 1=(bk 1 24 3 [[(iV (f.op)),(iV (f.arg)),(V.sl (List.map cF (f.kids)))]])∧True) ?_ ?_
  ·
   by_cases g31:(f.op)=(2:Int)
   ·
    refine G_n (edT g31 rfl) (G_n (edT g31 rfl) (G_n (edT g31 rfl) (R_pickT (edT g31 rfl) rfl ?_)))
    exact ⟨rfl,rfl,(dec_orT g31),rfl,trivial⟩
   ·
    refine G_yes (edF g31 rfl) (R_fk rfl rfl (G_yes (edF g31 rfl) (R_lk rfl rfl rfl rfl (G_yes (edF g31 rfl) (R_eql rfl rfl (R_pickF (edF g31 rfl) rfl ?_))))))
    exact ⟨rfl,rfl,(dec_orF g31),rfl,trivial⟩
  intro T H ⟨t1,t4,t40,h1,_⟩
  refine R_mv t40 (R_e (W_seq_blockg fun Q32 n32 x32 y32 z32=>(W_r (R_mv t4 (R_not rfl (R_mv rfl ?_))))))
  refine Ops_seg 8 (fun T H=>T 1=(V.mp 1 1 0 0)∧T 52=(V.bool (decide ((¬(((f.kids.length:Nat):Int)=(0:Int)))∨((¬(((f.op)=(2:Int))∨((f.op)=(3:Int))))∧((f.arg)≠(0:Int))))))∧H 1=(bk 1 24 3 [[(iV (f.op)),(iV (f.arg)),(V.sl (List.map cF (f.kids)))]])∧True) ?_ ?_
  ·
   by_cases g33: ¬(((f.kids.length:Nat):Int)=(0:Int))
   ·
    refine G_n (edT g33 rfl) (G_n (edT g33 rfl) (G_n (edT g33 rfl) (G_raw (@rfl V (V.raw undef)) (G_raw (@rfl V (V.raw undef)) (G_raw (@rfl V (V.raw undef)) (G_n (edT g33 rfl) (R_pickT (edT g33 rfl) rfl ?_)))))))
    exact ⟨t1,(dec_orT g33),h1,trivial⟩
   ·
    refine G_yes (edF g33 rfl) (R_mv rfl (G_yes (edF g33 rfl) (R_not rfl (G_yes (edF g33 rfl) (R_mv rfl ?_)))))
    refine Ops_seg 4 (fun T H=>T 1=(V.mp 1 1 0 0)∧T 44=(V.bool false)∧T 51=(V.bool (decide ((¬(((f.op)=(2:Int))∨((f.op)=(3:Int))))∧((f.arg)≠(0:Int)))))∧H 1=(bk 1 24 3 [[(iV (f.op)),(iV (f.arg)),(V.sl (List.map cF (f.kids)))]])∧True) ?_ ?_
    ·
     by_cases g34: ¬(((f.op)=(2:Int))∨((f.op)=(3:Int)))
     ·
      refine G_yes (edT g34 rfl) (R_fk t1 h1 (G_yes (edT g34 rfl) (R_lk rfl h1 rfl rfl (G_yes (edT g34 rfl) (R_neq rfl rfl (G_yes (edF g33 rfl) (R_pickT (edT g34 rfl) rfl ?_)))))))
      exact ⟨t1,(edF g33 rfl),(dec_andT g34),h1,trivial⟩
     ·
      refine G_n (edF g34 rfl) (G_n (edF g34 rfl) (G_n (edF g34 rfl) (G_yes (edF g33 rfl) (R_pickF (edF g34 rfl) rfl ?_))))
      exact ⟨t1,(edF g33 rfl),(dec_andF g34),h1,trivial⟩
    intro T H ⟨t1,t44,t51,h1,_⟩
    refine R_pickF t44 t51 ?_
    exact ⟨t1,(dec_orF g33),h1,trivial⟩
  intro T H ⟨t1,t52,h1,_⟩
  refine R_mv t52 (R_e ?_)
  refine W_if rfl (fun c35=>?_) fun c35=>?_
  ·
   refine W_r (R_mv rfl (R_e (W_ret (y32 _ _ ?_))))
   refine Ret_1 (@rfl V (iV (1:Int))) (fz_int ?_)
   · simp only [rgt,kLo,kHi]; repeat (first|rfl|omega|split)
  refine W_seq_seq (W_r (R_fk t1 h1 (R_lk rfl h1 rfl rfl (R_eql rfl rfl (R_mv rfl ?_)))))
  refine Ops_seg 9 (fun T H=>T 1=(V.mp 1 1 0 0)∧T 66=(V.bool (decide (((f.op)=(2:Int))∧(((f.arg) < (0:Int))∨((64:Int)≤(f.arg))))))∧H 1=(bk 1 24 3 [[(iV (f.op)),(iV (f.arg)),(V.sl (List.map cF (f.kids)))]])∧True) ?_ ?_
  ·
   by_cases g36:(f.op)=(2:Int)
   ·
    refine G_yes (edT g36 rfl) (R_fk t1 h1 (G_yes (edT g36 rfl) (R_lk rfl h1 rfl rfl (G_yes (edT g36 rfl) (R_lss rfl rfl (G_yes (edT g36 rfl) (R_mv rfl ?_)))))))
    refine Ops_seg 4 (fun T H=>T 1=(V.mp 1 1 0 0)∧T 57=(V.bool true)∧T 65=(V.bool (decide (((f.arg) < (0:Int))∨((64:Int)≤(f.arg)))))∧H 1=(bk 1 24 3 [[(iV (f.op)),(iV (f.arg)),(V.sl (List.map cF (f.kids)))]])∧True) ?_ ?_
    ·
     by_cases g37:(f.arg) < (0:Int)
     ·
      refine G_n (edT g37 rfl) (G_n (edT g37 rfl) (G_n (edT g37 rfl) (G_yes (edT g36 rfl) (R_pickT (edT g37 rfl) rfl ?_))))
      exact ⟨t1,(edT g36 rfl),(dec_orT g37),h1,trivial⟩
     ·
      refine G_yes (edF g37 rfl) (R_fk t1 h1 (G_yes (edF g37 rfl) (R_lk rfl h1 rfl rfl (G_yes (edF g37 rfl) (R_geq rfl rfl (G_yes (edT g36 rfl) (R_pickF (edF g37 rfl) rfl ?_)))))))
      exact ⟨t1,(edT g36 rfl),(dec_orF g37),h1,trivial⟩
    intro T H ⟨t1,t57,t65,h1,_⟩
    refine R_pickT t57 t65 ?_
    exact ⟨t1,(dec_andT g36),h1,trivial⟩
   ·
    refine G_n (edF g36 rfl) (G_n (edF g36 rfl) (G_n (edF g36 rfl) (G_n (edF g36 rfl) (G_raw (@rfl V (V.raw undef)) (G_raw (@rfl V (V.raw undef)) (G_raw (@rfl V (V.raw undef)) (G_n (edF g36 rfl) ?_)))))))
    refine R_pickF (edF g36 rfl) rfl ?_
    exact ⟨t1,(dec_andF g36),h1,trivial⟩
  intro T H ⟨t1,t66,h1,_⟩
  refine R_mv t66 (R_e ?_)
  refine W_seq_if rfl (fun c38=>?_) fun c38=>?_
  ·
   refine W_seq_skip ?_
   refine W_if rfl (fun c39=>?_) fun c39=>?_
   ·
    refine W_r (R_mv rfl (R_e (W_ret (y32 _ _ ?_))))
    refine Ret_1 (@rfl V (iV (2:Int))) (fz_int ?_)
    · simp only [rgt,kLo,kHi]; repeat (first|rfl|omega|split)
   · exact (c39 c38).elim
  refine W_r (R_fk t1 h1 (R_lk rfl h1 rfl rfl (R_eql rfl rfl (R_mv rfl ?_))))
  refine Ops_seg 9 (fun T H=>T 53=(V.bool (decide (((f.op)=(2:Int))∧(((f.arg) < (0:Int))∨((64:Int)≤(f.arg))))))∧T 79=(V.bool (decide (((f.op)=(3:Int))∧(((f.arg) < (0:Int))∨((1048576:Int) < (f.arg))))))∧H 1=(bk 1 24 3 [[(iV (f.op)),(iV (f.arg)),(V.sl (List.map cF (f.kids)))]])∧True) ?_ ?_
  ·
   by_cases g40:(f.op)=(3:Int)
   ·
    refine G_yes (edT g40 rfl) (R_fk t1 h1 (G_yes (edT g40 rfl) (R_lk rfl h1 rfl rfl (G_yes (edT g40 rfl) (R_lss rfl rfl (G_yes (edT g40 rfl) (R_mv rfl ?_)))))))
    refine Ops_seg 4 (fun T H=>T 53=(V.bool (decide (((f.op)=(2:Int))∧(((f.arg) < (0:Int))∨((64:Int)≤(f.arg))))))∧T 70=(V.bool true)∧T 78=(V.bool (decide (((f.arg) < (0:Int))∨((1048576:Int) < (f.arg)))))∧H 1=(bk 1 24 3 [[(iV (f.op)),(iV (f.arg)),(V.sl (List.map cF (f.kids)))]])∧True) ?_ ?_
    ·
     by_cases g41:(f.arg) < (0:Int)
     ·
      refine G_n (edT g41 rfl) (G_n (edT g41 rfl) (G_n (edT g41 rfl) (G_yes (edT g40 rfl) (R_pickT (edT g41 rfl) rfl ?_))))
      exact ⟨rfl,(edT g40 rfl),(dec_orT g41),h1,trivial⟩
     ·
      refine G_yes (edF g41 rfl) (R_fk t1 h1 (G_yes (edF g41 rfl) (R_lk rfl h1 rfl rfl (G_yes (edF g41 rfl) (R_gtr rfl rfl (G_yes (edT g40 rfl) (R_pickF (edF g41 rfl) rfl ?_)))))))
      exact ⟨rfl,(edT g40 rfl),(dec_orF g41),h1,trivial⟩
    intro T H ⟨t53,t70,t78,h1,_⟩
    refine R_pickT t70 t78 ?_
    exact ⟨t53,(dec_andT g40),h1,trivial⟩
   ·
    refine G_n (edF g40 rfl) (G_n (edF g40 rfl) (G_n (edF g40 rfl) (G_n (edF g40 rfl) (G_raw (@rfl V (V.raw undef)) (G_raw (@rfl V (V.raw undef)) (G_raw (@rfl V (V.raw undef)) (G_n (edF g40 rfl) ?_)))))))
    refine R_pickF (edF g40 rfl) rfl ?_
    exact ⟨rfl,(dec_andF g40),h1,trivial⟩
  intro T H ⟨t53,t79,h1,_⟩
  refine R_mv t79 (R_e ?_)
  refine W_if rfl (fun c42=>?_) fun c42=>?_
  ·
   refine W_r (R_mv rfl (R_e (W_ret (y32 _ _ ?_))))
   refine Ret_1 (@rfl V (iV (2:Int))) (fz_int ?_)
   · simp only [rgt,kLo,kHi]; repeat (first|rfl|omega|split)
  refine W_skip (n32 _ _ (.done (W_r (R_mv rfl (R_e (W_ret ?_))))))
  refine Ret_1 (@rfl V (iV (0:Int))) (fz_int ?_)
  · simp only [rgt,kLo,kHi]; repeat (first|rfl|omega|split)
 refine W_seq_seq (W_r (R_eql rfl rfl (R_mv rfl (R_e ?_))))
 refine W_seq_if rfl (fun c43=>?_) fun c43=>?_
 ·
  refine W_seq_skip ?_
  refine W_if rfl (fun c44=>?_) fun c44=>?_
  ·
   refine W_t (R_mv rfl (R_eql rfl rfl (R_mv rfl (R_e (n1 _ _ (.done (W_r ?_)))))))
   refine R_fk rfl rfl (R_lk rfl rfl rfl rfl (R_eql rfl rfl (R_mv rfl ?_)))
   refine Ops_seg 4 (fun T H=>T 1=(V.mp 1 1 0 0)∧T 4=(V.bool (decide (((f.kids.length:Nat):Int)=(1:Int))))∧T 40=(V.bool (decide (((f.op)=(2:Int))∨((f.op)=(3:Int)))))∧H 1=(bk 1 24 3 [[(iV (f.op)),(iV (f.arg)),(V.sl (List.map cF (f.kids)))]])∧True) ?_ ?_
   ·
    by_cases g45:(f.op)=(2:Int)
    ·
     refine G_n (edT g45 rfl) (G_n (edT g45 rfl) (G_n (edT g45 rfl) (R_pickT (edT g45 rfl) rfl ?_)))
     exact ⟨rfl,rfl,(dec_orT g45),rfl,trivial⟩
    ·
     refine G_yes (edF g45 rfl) (R_fk rfl rfl (G_yes (edF g45 rfl) (R_lk rfl rfl rfl rfl (G_yes (edF g45 rfl) (R_eql rfl rfl (R_pickF (edF g45 rfl) rfl ?_))))))
     exact ⟨rfl,rfl,(dec_orF g45),rfl,trivial⟩
   intro T H ⟨t1,t4,t40,h1,_⟩
   refine R_mv t40 (R_e (W_seq_blockg fun Q46 n46 x46 y46 z46=>(W_r (R_mv t4 (R_not rfl (R_mv rfl ?_))))))
   refine Ops_seg 8 (fun T H=>T 1=(V.mp 1 1 0 0)∧T 52=(V.bool (decide ((¬(((f.kids.length:Nat):Int)=(1:Int)))∨((¬(((f.op)=(2:Int))∨((f.op)=(3:Int))))∧((f.arg)≠(0:Int))))))∧H 1=(bk 1 24 3 [[(iV (f.op)),(iV (f.arg)),(V.sl (List.map cF (f.kids)))]])∧True) ?_ ?_
   ·
    by_cases g47: ¬(((f.kids.length:Nat):Int)=(1:Int))
    ·
     refine G_n (edT g47 rfl) (G_n (edT g47 rfl) (G_n (edT g47 rfl) (G_raw (@rfl V (V.raw undef)) (G_raw (@rfl V (V.raw undef)) (G_raw (@rfl V (V.raw undef)) (G_n (edT g47 rfl) (R_pickT (edT g47 rfl) rfl ?_)))))))
     exact ⟨t1,(dec_orT g47),h1,trivial⟩
    ·
     refine G_yes (edF g47 rfl) (R_mv rfl (G_yes (edF g47 rfl) (R_not rfl (G_yes (edF g47 rfl) (R_mv rfl ?_)))))
     refine Ops_seg 4 (fun T H=>T 1=(V.mp 1 1 0 0)∧T 44=(V.bool false)∧T 51=(V.bool (decide ((¬(((f.op)=(2:Int))∨((f.op)=(3:Int))))∧((f.arg)≠(0:Int)))))∧H 1=(bk 1 24 3 [[(iV (f.op)),(iV (f.arg)),(V.sl (List.map cF (f.kids)))]])∧True) ?_ ?_
     ·
      by_cases g48: ¬(((f.op)=(2:Int))∨((f.op)=(3:Int)))
      ·
       refine G_yes (edT g48 rfl) (R_fk t1 h1 (G_yes (edT g48 rfl) (R_lk rfl h1 rfl rfl (G_yes (edT g48 rfl) (R_neq rfl rfl (G_yes (edF g47 rfl) (R_pickT (edT g48 rfl) rfl ?_)))))))
       exact ⟨t1,(edF g47 rfl),(dec_andT g48),h1,trivial⟩
      ·
       refine G_n (edF g48 rfl) (G_n (edF g48 rfl) (G_n (edF g48 rfl) (G_yes (edF g47 rfl) (R_pickF (edF g48 rfl) rfl ?_))))
       exact ⟨t1,(edF g47 rfl),(dec_andF g48),h1,trivial⟩
     intro T H ⟨t1,t44,t51,h1,_⟩
     refine R_pickF t44 t51 ?_
     exact ⟨t1,(dec_orF g47),h1,trivial⟩
   intro T H ⟨t1,t52,h1,_⟩
   refine R_mv t52 (R_e ?_)
   refine W_if rfl (fun c49=>?_) fun c49=>?_
   ·
    refine W_r (R_mv rfl (R_e (W_ret (y46 _ _ ?_))))
    refine Ret_1 (@rfl V (iV (1:Int))) (fz_int ?_)
    · simp only [rgt,kLo,kHi]; repeat (first|rfl|omega|split)
   refine W_seq_seq (W_r (R_fk t1 h1 (R_lk rfl h1 rfl rfl (R_eql rfl rfl (R_mv rfl ?_)))))
   refine Ops_seg 9 (fun T H=>T 1=(V.mp 1 1 0 0)∧T 66=(V.bool (decide (((f.op)=(2:Int))∧(((f.arg) < (0:Int))∨((64:Int)≤(f.arg))))))∧H 1=(bk 1 24 3 [[(iV (f.op)),(iV (f.arg)),(V.sl (List.map cF (f.kids)))]])∧True) ?_ ?_
   ·
    by_cases g50:(f.op)=(2:Int)
    ·
     refine G_yes (edT g50 rfl) (R_fk t1 h1 (G_yes (edT g50 rfl) (R_lk rfl h1 rfl rfl (G_yes (edT g50 rfl) (R_lss rfl rfl (G_yes (edT g50 rfl) (R_mv rfl ?_)))))))
     refine Ops_seg 4 (fun T H=>T 1=(V.mp 1 1 0 0)∧T 57=(V.bool true)∧T 65=(V.bool (decide (((f.arg) < (0:Int))∨((64:Int)≤(f.arg)))))∧H 1=(bk 1 24 3 [[(iV (f.op)),(iV (f.arg)),(V.sl (List.map cF (f.kids)))]])∧True) ?_ ?_
     ·
      by_cases g51:(f.arg) < (0:Int)
      ·
       refine G_n (edT g51 rfl) (G_n (edT g51 rfl) (G_n (edT g51 rfl) (G_yes (edT g50 rfl) (R_pickT (edT g51 rfl) rfl ?_))))
       exact ⟨t1,(edT g50 rfl),(dec_orT g51),h1,trivial⟩
      ·
       refine G_yes (edF g51 rfl) (R_fk t1 h1 (G_yes (edF g51 rfl) (R_lk rfl h1 rfl rfl (G_yes (edF g51 rfl) (R_geq rfl rfl (G_yes (edT g50 rfl) (R_pickF (edF g51 rfl) rfl ?_)))))))
       exact ⟨t1,(edT g50 rfl),(dec_orF g51),h1,trivial⟩
     intro T H ⟨t1,t57,t65,h1,_⟩
     refine R_pickT t57 t65 ?_
     exact ⟨t1,(dec_andT g50),h1,trivial⟩
    ·
     refine G_n (edF g50 rfl) (G_n (edF g50 rfl) (G_n (edF g50 rfl) (G_n (edF g50 rfl) (G_raw (@rfl V (V.raw undef)) (G_raw (@rfl V (V.raw undef)) (G_raw (@rfl V (V.raw undef)) (G_n (edF g50 rfl) ?_)))))))
     refine R_pickF (edF g50 rfl) rfl ?_
     exact ⟨t1,(dec_andF g50),h1,trivial⟩
   intro T H ⟨t1,t66,h1,_⟩
   refine R_mv t66 (R_e ?_)
   refine W_seq_if rfl (fun c52=>?_) fun c52=>?_
   ·
    refine W_seq_skip ?_
    refine W_if rfl (fun c53=>?_) fun c53=>?_
    ·
     refine W_r (R_mv rfl (R_e (W_ret (y46 _ _ ?_))))
     refine Ret_1 (@rfl V (iV (2:Int))) (fz_int ?_)
     · simp only [rgt,kLo,kHi]; repeat (first|rfl|omega|split)
    · exact (c53 c52).elim
   refine W_r (R_fk t1 h1 (R_lk rfl h1 rfl rfl (R_eql rfl rfl (R_mv rfl ?_))))
   refine Ops_seg 9 (fun T H=>T 53=(V.bool (decide (((f.op)=(2:Int))∧(((f.arg) < (0:Int))∨((64:Int)≤(f.arg))))))∧T 79=(V.bool (decide (((f.op)=(3:Int))∧(((f.arg) < (0:Int))∨((1048576:Int) < (f.arg))))))∧H 1=(bk 1 24 3 [[(iV (f.op)),(iV (f.arg)),(V.sl (List.map cF (f.kids)))]])∧True) ?_ ?_
   ·
    by_cases g54:(f.op)=(3:Int)
    ·
     refine G_yes (edT g54 rfl) (R_fk t1 h1 (G_yes (edT g54 rfl) (R_lk rfl h1 rfl rfl (G_yes (edT g54 rfl) (R_lss rfl rfl (G_yes (edT g54 rfl) (R_mv rfl ?_)))))))
     refine Ops_seg 4 (fun T H=>T 53=(V.bool (decide (((f.op)=(2:Int))∧(((f.arg) < (0:Int))∨((64:Int)≤(f.arg))))))∧T 70=(V.bool true)∧T 78=(V.bool (decide (((f.arg) < (0:Int))∨((1048576:Int) < (f.arg)))))∧H 1=(bk 1 24 3 [[(iV (f.op)),(iV (f.arg)),(V.sl (List.map cF (f.kids)))]])∧True) ?_ ?_
     ·
      by_cases g55:(f.arg) < (0:Int)
      ·
       refine G_n (edT g55 rfl) (G_n (edT g55 rfl) (G_n (edT g55 rfl) (G_yes (edT g54 rfl) (R_pickT (edT g55 rfl) rfl ?_))))
       exact ⟨rfl,(edT g54 rfl),(dec_orT g55),h1,trivial⟩
      ·
       refine G_yes (edF g55 rfl) (R_fk t1 h1 (G_yes (edF g55 rfl) (R_lk rfl h1 rfl rfl (G_yes (edF g55 rfl) (R_gtr rfl rfl (G_yes (edT g54 rfl) (R_pickF (edF g55 rfl) rfl ?_)))))))
       exact ⟨rfl,(edT g54 rfl),(dec_orF g55),h1,trivial⟩
     intro T H ⟨t53,t70,t78,h1,_⟩
     refine R_pickT t70 t78 ?_
     exact ⟨t53,(dec_andT g54),h1,trivial⟩
    ·
     refine G_n (edF g54 rfl) (G_n (edF g54 rfl) (G_n (edF g54 rfl) (G_n (edF g54 rfl) (G_raw (@rfl V (V.raw undef)) (G_raw (@rfl V (V.raw undef)) (G_raw (@rfl V (V.raw undef)) (G_n (edF g54 rfl) ?_)))))))
     refine R_pickF (edF g54 rfl) rfl ?_
     exact ⟨rfl,(dec_andF g54),h1,trivial⟩
   intro T H ⟨t53,t79,h1,_⟩
   refine R_mv t79 (R_e ?_)
   refine W_if rfl (fun c56=>?_) fun c56=>?_
   ·
    refine W_r (R_mv rfl (R_e (W_ret (y46 _ _ ?_))))
    refine Ret_1 (@rfl V (iV (2:Int))) (fz_int ?_)
    · simp only [rgt,kLo,kHi]; repeat (first|rfl|omega|split)
   refine W_skip (n46 _ _ (.done (W_r (R_mv rfl (R_e (W_ret ?_))))))
   refine Ret_1 (@rfl V (iV (0:Int))) (fz_int ?_)
   · simp only [rgt,kLo,kHi]; repeat (first|rfl|omega|split)
  · exact (c44 c43).elim
 refine W_seq_seq (W_r (R_eql rfl rfl (R_mv rfl (R_e ?_))))
 refine W_seq_if rfl (fun c57=>?_) fun c57=>?_
 ·
  refine W_seq_skip ?_
  refine W_if rfl (fun c58=>?_) fun c58=>?_
  ·
   refine W_t (R_mv rfl (R_eql rfl rfl (R_mv rfl (R_e (n1 _ _ (.done (W_r ?_)))))))
   refine R_fk rfl rfl (R_lk rfl rfl rfl rfl (R_eql rfl rfl (R_mv rfl ?_)))
   refine Ops_seg 4 (fun T H=>T 1=(V.mp 1 1 0 0)∧T 4=(V.bool (decide (((f.kids.length:Nat):Int)=(1:Int))))∧T 40=(V.bool (decide (((f.op)=(2:Int))∨((f.op)=(3:Int)))))∧H 1=(bk 1 24 3 [[(iV (f.op)),(iV (f.arg)),(V.sl (List.map cF (f.kids)))]])∧True) ?_ ?_
   ·
    by_cases g59:(f.op)=(2:Int)
    ·
     refine G_n (edT g59 rfl) (G_n (edT g59 rfl) (G_n (edT g59 rfl) (R_pickT (edT g59 rfl) rfl ?_)))
     exact ⟨rfl,rfl,(dec_orT g59),rfl,trivial⟩
    ·
     refine G_yes (edF g59 rfl) (R_fk rfl rfl (G_yes (edF g59 rfl) (R_lk rfl rfl rfl rfl (G_yes (edF g59 rfl) (R_eql rfl rfl (R_pickF (edF g59 rfl) rfl ?_))))))
     exact ⟨rfl,rfl,(dec_orF g59),rfl,trivial⟩
   intro T H ⟨t1,t4,t40,h1,_⟩
   refine R_mv t40 (R_e (W_seq_blockg fun Q60 n60 x60 y60 z60=>(W_r (R_mv t4 (R_not rfl (R_mv rfl ?_))))))
   refine Ops_seg 8 (fun T H=>T 1=(V.mp 1 1 0 0)∧T 52=(V.bool (decide ((¬(((f.kids.length:Nat):Int)=(1:Int)))∨((¬(((f.op)=(2:Int))∨((f.op)=(3:Int))))∧((f.arg)≠(0:Int))))))∧H 1=(bk 1 24 3 [[(iV (f.op)),(iV (f.arg)),(V.sl (List.map cF (f.kids)))]])∧True) ?_ ?_
   ·
    by_cases g61: ¬(((f.kids.length:Nat):Int)=(1:Int))
    ·
     refine G_n (edT g61 rfl) (G_n (edT g61 rfl) (G_n (edT g61 rfl) (G_raw (@rfl V (V.raw undef)) (G_raw (@rfl V (V.raw undef)) (G_raw (@rfl V (V.raw undef)) (G_n (edT g61 rfl) (R_pickT (edT g61 rfl) rfl ?_)))))))
     exact ⟨t1,(dec_orT g61),h1,trivial⟩
    ·
     refine G_yes (edF g61 rfl) (R_mv rfl (G_yes (edF g61 rfl) (R_not rfl (G_yes (edF g61 rfl) (R_mv rfl ?_)))))
     refine Ops_seg 4 (fun T H=>T 1=(V.mp 1 1 0 0)∧T 44=(V.bool false)∧T 51=(V.bool (decide ((¬(((f.op)=(2:Int))∨((f.op)=(3:Int))))∧((f.arg)≠(0:Int)))))∧H 1=(bk 1 24 3 [[(iV (f.op)),(iV (f.arg)),(V.sl (List.map cF (f.kids)))]])∧True) ?_ ?_
     ·
      by_cases g62: ¬(((f.op)=(2:Int))∨((f.op)=(3:Int)))
      ·
       refine G_yes (edT g62 rfl) (R_fk t1 h1 (G_yes (edT g62 rfl) (R_lk rfl h1 rfl rfl (G_yes (edT g62 rfl) (R_neq rfl rfl (G_yes (edF g61 rfl) (R_pickT (edT g62 rfl) rfl ?_)))))))
       exact ⟨t1,(edF g61 rfl),(dec_andT g62),h1,trivial⟩
      ·
       refine G_n (edF g62 rfl) (G_n (edF g62 rfl) (G_n (edF g62 rfl) (G_yes (edF g61 rfl) (R_pickF (edF g62 rfl) rfl ?_))))
       exact ⟨t1,(edF g61 rfl),(dec_andF g62),h1,trivial⟩
     intro T H ⟨t1,t44,t51,h1,_⟩
     refine R_pickF t44 t51 ?_
     exact ⟨t1,(dec_orF g61),h1,trivial⟩
   intro T H ⟨t1,t52,h1,_⟩
   refine R_mv t52 (R_e ?_)
   refine W_if rfl (fun c63=>?_) fun c63=>?_
   ·
    refine W_r (R_mv rfl (R_e (W_ret (y60 _ _ ?_))))
    refine Ret_1 (@rfl V (iV (1:Int))) (fz_int ?_)
    · simp only [rgt,kLo,kHi]; repeat (first|rfl|omega|split)
   refine W_seq_seq (W_r (R_fk t1 h1 (R_lk rfl h1 rfl rfl (R_eql rfl rfl (R_mv rfl ?_)))))
   refine Ops_seg 9 (fun T H=>T 1=(V.mp 1 1 0 0)∧T 66=(V.bool (decide (((f.op)=(2:Int))∧(((f.arg) < (0:Int))∨((64:Int)≤(f.arg))))))∧H 1=(bk 1 24 3 [[(iV (f.op)),(iV (f.arg)),(V.sl (List.map cF (f.kids)))]])∧True) ?_ ?_
   ·
    by_cases g64:(f.op)=(2:Int)
    ·
     refine G_yes (edT g64 rfl) (R_fk t1 h1 (G_yes (edT g64 rfl) (R_lk rfl h1 rfl rfl (G_yes (edT g64 rfl) (R_lss rfl rfl (G_yes (edT g64 rfl) (R_mv rfl ?_)))))))
     refine Ops_seg 4 (fun T H=>T 1=(V.mp 1 1 0 0)∧T 57=(V.bool true)∧T 65=(V.bool (decide (((f.arg) < (0:Int))∨((64:Int)≤(f.arg)))))∧H 1=(bk 1 24 3 [[(iV (f.op)),(iV (f.arg)),(V.sl (List.map cF (f.kids)))]])∧True) ?_ ?_
     ·
      by_cases g65:(f.arg) < (0:Int)
      ·
       refine G_n (edT g65 rfl) (G_n (edT g65 rfl) (G_n (edT g65 rfl) (G_yes (edT g64 rfl) (R_pickT (edT g65 rfl) rfl ?_))))
       exact ⟨t1,(edT g64 rfl),(dec_orT g65),h1,trivial⟩
      ·
       refine G_yes (edF g65 rfl) (R_fk t1 h1 (G_yes (edF g65 rfl) (R_lk rfl h1 rfl rfl (G_yes (edF g65 rfl) (R_geq rfl rfl (G_yes (edT g64 rfl) (R_pickF (edF g65 rfl) rfl ?_)))))))
       exact ⟨t1,(edT g64 rfl),(dec_orF g65),h1,trivial⟩
     intro T H ⟨t1,t57,t65,h1,_⟩
     refine R_pickT t57 t65 ?_
     exact ⟨t1,(dec_andT g64),h1,trivial⟩
    ·
     refine G_n (edF g64 rfl) (G_n (edF g64 rfl) (G_n (edF g64 rfl) (G_n (edF g64 rfl) (G_raw (@rfl V (V.raw undef)) (G_raw (@rfl V (V.raw undef)) (G_raw (@rfl V (V.raw undef)) (G_n (edF g64 rfl) ?_)))))))
     refine R_pickF (edF g64 rfl) rfl ?_
     exact ⟨t1,(dec_andF g64),h1,trivial⟩
   intro T H ⟨t1,t66,h1,_⟩
   refine R_mv t66 (R_e ?_)
   refine W_seq_if rfl (fun c66=>?_) fun c66=>?_
   ·
    refine W_seq_skip ?_
    refine W_if rfl (fun c67=>?_) fun c67=>?_
    ·
     refine W_r (R_mv rfl (R_e (W_ret (y60 _ _ ?_))))
     refine Ret_1 (@rfl V (iV (2:Int))) (fz_int ?_)
     · simp only [rgt,kLo,kHi]; repeat (first|rfl|omega|split)
    · exact (c67 c66).elim
   refine W_r (R_fk t1 h1 (R_lk rfl h1 rfl rfl (R_eql rfl rfl (R_mv rfl ?_))))
   refine Ops_seg 9 (fun T H=>T 53=(V.bool (decide (((f.op)=(2:Int))∧(((f.arg) < (0:Int))∨((64:Int)≤(f.arg))))))∧T 79=(V.bool (decide (((f.op)=(3:Int))∧(((f.arg) < (0:Int))∨((1048576:Int) < (f.arg))))))∧H 1=(bk 1 24 3 [[(iV (f.op)),(iV (f.arg)),(V.sl (List.map cF (f.kids)))]])∧True) ?_ ?_
   ·
    by_cases g68:(f.op)=(3:Int)
    ·
     refine G_yes (edT g68 rfl) (R_fk t1 h1 (G_yes (edT g68 rfl) (R_lk rfl h1 rfl rfl (G_yes (edT g68 rfl) (R_lss rfl rfl (G_yes (edT g68 rfl) (R_mv rfl ?_)))))))
     refine Ops_seg 4 (fun T H=>T 53=(V.bool (decide (((f.op)=(2:Int))∧(((f.arg) < (0:Int))∨((64:Int)≤(f.arg))))))∧T 70=(V.bool true)∧T 78=(V.bool (decide (((f.arg) < (0:Int))∨((1048576:Int) < (f.arg)))))∧H 1=(bk 1 24 3 [[(iV (f.op)),(iV (f.arg)),(V.sl (List.map cF (f.kids)))]])∧True) ?_ ?_
     ·
      by_cases g69:(f.arg) < (0:Int)
      ·
       refine G_n (edT g69 rfl) (G_n (edT g69 rfl) (G_n (edT g69 rfl) (G_yes (edT g68 rfl) (R_pickT (edT g69 rfl) rfl ?_))))
       exact ⟨rfl,(edT g68 rfl),(dec_orT g69),h1,trivial⟩
      ·
       refine G_yes (edF g69 rfl) (R_fk t1 h1 (G_yes (edF g69 rfl) (R_lk rfl h1 rfl rfl (G_yes (edF g69 rfl) (R_gtr rfl rfl (G_yes (edT g68 rfl) (R_pickF (edF g69 rfl) rfl ?_)))))))
       exact ⟨rfl,(edT g68 rfl),(dec_orF g69),h1,trivial⟩
     intro T H ⟨t53,t70,t78,h1,_⟩
     refine R_pickT t70 t78 ?_
     exact ⟨t53,(dec_andT g68),h1,trivial⟩
    ·
     refine G_n (edF g68 rfl) (G_n (edF g68 rfl) (G_n (edF g68 rfl) (G_n (edF g68 rfl) (G_raw (@rfl V (V.raw undef)) (G_raw (@rfl V (V.raw undef)) (G_raw (@rfl V (V.raw undef)) (G_n (edF g68 rfl) ?_)))))))
     refine R_pickF (edF g68 rfl) rfl ?_
     exact ⟨rfl,(dec_andF g68),h1,trivial⟩
   intro T H ⟨t53,t79,h1,_⟩
   refine R_mv t79 (R_e ?_)
   refine W_if rfl (fun c70=>?_) fun c70=>?_
   ·
    refine W_r (R_mv rfl (R_e (W_ret (y60 _ _ ?_))))
    refine Ret_1 (@rfl V (iV (2:Int))) (fz_int ?_)
    · simp only [rgt,kLo,kHi]; repeat (first|rfl|omega|split)
   refine W_skip (n60 _ _ (.done (W_r (R_mv rfl (R_e (W_ret ?_))))))
   refine Ret_1 (@rfl V (iV (0:Int))) (fz_int ?_)
   · simp only [rgt,kLo,kHi]; repeat (first|rfl|omega|split)
  · exact (c58 c57).elim
 refine W_r (R_eql rfl rfl (R_mv rfl (R_e ?_)))
 refine W_if rfl (fun c71=>?_) fun c71=>?_
 ·
  refine W_t (R_mv rfl (R_eql rfl rfl (R_mv rfl (R_e (n1 _ _ (.done (W_r ?_)))))))
  refine R_fk rfl rfl (R_lk rfl rfl rfl rfl (R_eql rfl rfl (R_mv rfl ?_)))
  refine Ops_seg 4 (fun T H=>T 1=(V.mp 1 1 0 0)∧T 4=(V.bool (decide (((f.kids.length:Nat):Int)=(1:Int))))∧T 40=(V.bool (decide (((f.op)=(2:Int))∨((f.op)=(3:Int)))))∧H 1=(bk 1 24 3 [[(iV (f.op)),(iV (f.arg)),(V.sl (List.map cF (f.kids)))]])∧True) ?_ ?_
  ·
   by_cases g72:(f.op)=(2:Int)
   ·
    refine G_n (edT g72 rfl) (G_n (edT g72 rfl) (G_n (edT g72 rfl) (R_pickT (edT g72 rfl) rfl ?_)))
    exact ⟨rfl,rfl,(dec_orT g72),rfl,trivial⟩
   ·
    refine G_yes (edF g72 rfl) (R_fk rfl rfl (G_yes (edF g72 rfl) (R_lk rfl rfl rfl rfl (G_yes (edF g72 rfl) (R_eql rfl rfl (R_pickF (edF g72 rfl) rfl ?_))))))
    exact ⟨rfl,rfl,(dec_orF g72),rfl,trivial⟩
  intro T H ⟨t1,t4,t40,h1,_⟩
  refine R_mv t40 (R_e (W_seq_blockg fun Q73 n73 x73 y73 z73=>(W_r (R_mv t4 (R_not rfl (R_mv rfl ?_))))))
  refine Ops_seg 8 (fun T H=>T 1=(V.mp 1 1 0 0)∧T 52=(V.bool (decide ((¬(((f.kids.length:Nat):Int)=(1:Int)))∨((¬(((f.op)=(2:Int))∨((f.op)=(3:Int))))∧((f.arg)≠(0:Int))))))∧H 1=(bk 1 24 3 [[(iV (f.op)),(iV (f.arg)),(V.sl (List.map cF (f.kids)))]])∧True) ?_ ?_
  ·
   by_cases g74: ¬(((f.kids.length:Nat):Int)=(1:Int))
   ·
    refine G_n (edT g74 rfl) (G_n (edT g74 rfl) (G_n (edT g74 rfl) (G_raw (@rfl V (V.raw undef)) (G_raw (@rfl V (V.raw undef)) (G_raw (@rfl V (V.raw undef)) (G_n (edT g74 rfl) (R_pickT (edT g74 rfl) rfl ?_)))))))
    exact ⟨t1,(dec_orT g74),h1,trivial⟩
   ·
    refine G_yes (edF g74 rfl) (R_mv rfl (G_yes (edF g74 rfl) (R_not rfl (G_yes (edF g74 rfl) (R_mv rfl ?_)))))
    refine Ops_seg 4 (fun T H=>T 1=(V.mp 1 1 0 0)∧T 44=(V.bool false)∧T 51=(V.bool (decide ((¬(((f.op)=(2:Int))∨((f.op)=(3:Int))))∧((f.arg)≠(0:Int)))))∧H 1=(bk 1 24 3 [[(iV (f.op)),(iV (f.arg)),(V.sl (List.map cF (f.kids)))]])∧True) ?_ ?_
    ·
     by_cases g75: ¬(((f.op)=(2:Int))∨((f.op)=(3:Int)))
     ·
      refine G_yes (edT g75 rfl) (R_fk t1 h1 (G_yes (edT g75 rfl) (R_lk rfl h1 rfl rfl (G_yes (edT g75 rfl) (R_neq rfl rfl (G_yes (edF g74 rfl) (R_pickT (edT g75 rfl) rfl ?_)))))))
      exact ⟨t1,(edF g74 rfl),(dec_andT g75),h1,trivial⟩
     ·
      refine G_n (edF g75 rfl) (G_n (edF g75 rfl) (G_n (edF g75 rfl) (G_yes (edF g74 rfl) (R_pickF (edF g75 rfl) rfl ?_))))
      exact ⟨t1,(edF g74 rfl),(dec_andF g75),h1,trivial⟩
    intro T H ⟨t1,t44,t51,h1,_⟩
    refine R_pickF t44 t51 ?_
    exact ⟨t1,(dec_orF g74),h1,trivial⟩
  intro T H ⟨t1,t52,h1,_⟩
  refine R_mv t52 (R_e ?_)
  refine W_if rfl (fun c76=>?_) fun c76=>?_
  ·
   refine W_r (R_mv rfl (R_e (W_ret (y73 _ _ ?_))))
   refine Ret_1 (@rfl V (iV (1:Int))) (fz_int ?_)
   · simp only [rgt,kLo,kHi]; repeat (first|rfl|omega|split)
  refine W_seq_seq (W_r (R_fk t1 h1 (R_lk rfl h1 rfl rfl (R_eql rfl rfl (R_mv rfl ?_)))))
  refine Ops_seg 9 (fun T H=>T 1=(V.mp 1 1 0 0)∧T 66=(V.bool (decide (((f.op)=(2:Int))∧(((f.arg) < (0:Int))∨((64:Int)≤(f.arg))))))∧H 1=(bk 1 24 3 [[(iV (f.op)),(iV (f.arg)),(V.sl (List.map cF (f.kids)))]])∧True) ?_ ?_
  ·
   by_cases g77:(f.op)=(2:Int)
   ·
    refine G_yes (edT g77 rfl) (R_fk t1 h1 (G_yes (edT g77 rfl) (R_lk rfl h1 rfl rfl (G_yes (edT g77 rfl) (R_lss rfl rfl (G_yes (edT g77 rfl) (R_mv rfl ?_)))))))
    refine Ops_seg 4 (fun T H=>T 1=(V.mp 1 1 0 0)∧T 57=(V.bool true)∧T 65=(V.bool (decide (((f.arg) < (0:Int))∨((64:Int)≤(f.arg)))))∧H 1=(bk 1 24 3 [[(iV (f.op)),(iV (f.arg)),(V.sl (List.map cF (f.kids)))]])∧True) ?_ ?_
    ·
     by_cases g78:(f.arg) < (0:Int)
     ·
      refine G_n (edT g78 rfl) (G_n (edT g78 rfl) (G_n (edT g78 rfl) (G_yes (edT g77 rfl) (R_pickT (edT g78 rfl) rfl ?_))))
      exact ⟨t1,(edT g77 rfl),(dec_orT g78),h1,trivial⟩
     ·
      refine G_yes (edF g78 rfl) (R_fk t1 h1 (G_yes (edF g78 rfl) (R_lk rfl h1 rfl rfl (G_yes (edF g78 rfl) (R_geq rfl rfl (G_yes (edT g77 rfl) (R_pickF (edF g78 rfl) rfl ?_)))))))
      exact ⟨t1,(edT g77 rfl),(dec_orF g78),h1,trivial⟩
    intro T H ⟨t1,t57,t65,h1,_⟩
    refine R_pickT t57 t65 ?_
    exact ⟨t1,(dec_andT g77),h1,trivial⟩
   ·
    refine G_n (edF g77 rfl) (G_n (edF g77 rfl) (G_n (edF g77 rfl) (G_n (edF g77 rfl) (G_raw (@rfl V (V.raw undef)) (G_raw (@rfl V (V.raw undef)) (G_raw (@rfl V (V.raw undef)) (G_n (edF g77 rfl) ?_)))))))
    refine R_pickF (edF g77 rfl) rfl ?_
    exact ⟨t1,(dec_andF g77),h1,trivial⟩
  intro T H ⟨t1,t66,h1,_⟩
  refine R_mv t66 (R_e ?_)
  refine W_seq_if rfl (fun c79=>?_) fun c79=>?_
  ·
   refine W_seq_skip ?_
   refine W_if rfl (fun c80=>?_) fun c80=>?_
   ·
    refine W_r (R_mv rfl (R_e (W_ret (y73 _ _ ?_))))
    refine Ret_1 (@rfl V (iV (2:Int))) (fz_int ?_)
    · simp only [rgt,kLo,kHi]; repeat (first|rfl|omega|split)
   · exact (c80 c79).elim
  refine W_r (R_fk t1 h1 (R_lk rfl h1 rfl rfl (R_eql rfl rfl (R_mv rfl ?_))))
  refine Ops_seg 9 (fun T H=>T 53=(V.bool (decide (((f.op)=(2:Int))∧(((f.arg) < (0:Int))∨((64:Int)≤(f.arg))))))∧T 79=(V.bool (decide (((f.op)=(3:Int))∧(((f.arg) < (0:Int))∨((1048576:Int) < (f.arg))))))∧H 1=(bk 1 24 3 [[(iV (f.op)),(iV (f.arg)),(V.sl (List.map cF (f.kids)))]])∧True) ?_ ?_
  ·
   by_cases g81:(f.op)=(3:Int)
   ·
    refine G_yes (edT g81 rfl) (R_fk t1 h1 (G_yes (edT g81 rfl) (R_lk rfl h1 rfl rfl (G_yes (edT g81 rfl) (R_lss rfl rfl (G_yes (edT g81 rfl) (R_mv rfl ?_)))))))
    refine Ops_seg 4 (fun T H=>T 53=(V.bool (decide (((f.op)=(2:Int))∧(((f.arg) < (0:Int))∨((64:Int)≤(f.arg))))))∧T 70=(V.bool true)∧T 78=(V.bool (decide (((f.arg) < (0:Int))∨((1048576:Int) < (f.arg)))))∧H 1=(bk 1 24 3 [[(iV (f.op)),(iV (f.arg)),(V.sl (List.map cF (f.kids)))]])∧True) ?_ ?_
    ·
     by_cases g82:(f.arg) < (0:Int)
     ·
      refine G_n (edT g82 rfl) (G_n (edT g82 rfl) (G_n (edT g82 rfl) (G_yes (edT g81 rfl) (R_pickT (edT g82 rfl) rfl ?_))))
      exact ⟨rfl,(edT g81 rfl),(dec_orT g82),h1,trivial⟩
     ·
      refine G_yes (edF g82 rfl) (R_fk t1 h1 (G_yes (edF g82 rfl) (R_lk rfl h1 rfl rfl (G_yes (edF g82 rfl) (R_gtr rfl rfl (G_yes (edT g81 rfl) (R_pickF (edF g82 rfl) rfl ?_)))))))
      exact ⟨rfl,(edT g81 rfl),(dec_orF g82),h1,trivial⟩
    intro T H ⟨t53,t70,t78,h1,_⟩
    refine R_pickT t70 t78 ?_
    exact ⟨t53,(dec_andT g81),h1,trivial⟩
   ·
    refine G_n (edF g81 rfl) (G_n (edF g81 rfl) (G_n (edF g81 rfl) (G_n (edF g81 rfl) (G_raw (@rfl V (V.raw undef)) (G_raw (@rfl V (V.raw undef)) (G_raw (@rfl V (V.raw undef)) (G_n (edF g81 rfl) ?_)))))))
    refine R_pickF (edF g81 rfl) rfl ?_
    exact ⟨rfl,(dec_andF g81),h1,trivial⟩
  intro T H ⟨t53,t79,h1,_⟩
  refine R_mv t79 (R_e ?_)
  refine W_if rfl (fun c83=>?_) fun c83=>?_
  ·
   refine W_r (R_mv rfl (R_e (W_ret (y73 _ _ ?_))))
   refine Ret_1 (@rfl V (iV (2:Int))) (fz_int ?_)
   · simp only [rgt,kLo,kHi]; repeat (first|rfl|omega|split)
  refine W_skip (n73 _ _ (.done (W_r (R_mv rfl (R_e (W_ret ?_))))))
  refine Ret_1 (@rfl V (iV (0:Int))) (fz_int ?_)
  · simp only [rgt,kLo,kHi]; repeat (first|rfl|omega|split)
 refine W_seq_seq (W_r (R_eql rfl rfl (R_mv rfl (R_e ?_))))
 refine W_seq_if rfl (fun c84=>?_) fun c84=>?_
 ·
  refine W_seq_skip ?_
  refine W_if rfl (fun c85=>?_) fun c85=>?_
  ·
   refine W_t (R_mv rfl (R_geq rfl rfl (R_mv rfl (R_e (n1 _ _ (.done (W_r ?_)))))))
   refine R_fk rfl rfl (R_lk rfl rfl rfl rfl (R_eql rfl rfl (R_mv rfl ?_)))
   refine Ops_seg 4 (fun T H=>T 1=(V.mp 1 1 0 0)∧T 4=(V.bool (decide ((2:Int)≤((f.kids.length:Nat):Int))))∧T 40=(V.bool (decide (((f.op)=(2:Int))∨((f.op)=(3:Int)))))∧H 1=(bk 1 24 3 [[(iV (f.op)),(iV (f.arg)),(V.sl (List.map cF (f.kids)))]])∧True) ?_ ?_
   ·
    by_cases g86:(f.op)=(2:Int)
    ·
     refine G_n (edT g86 rfl) (G_n (edT g86 rfl) (G_n (edT g86 rfl) (R_pickT (edT g86 rfl) rfl ?_)))
     exact ⟨rfl,rfl,(dec_orT g86),rfl,trivial⟩
    ·
     refine G_yes (edF g86 rfl) (R_fk rfl rfl (G_yes (edF g86 rfl) (R_lk rfl rfl rfl rfl (G_yes (edF g86 rfl) (R_eql rfl rfl (R_pickF (edF g86 rfl) rfl ?_))))))
     exact ⟨rfl,rfl,(dec_orF g86),rfl,trivial⟩
   intro T H ⟨t1,t4,t40,h1,_⟩
   refine R_mv t40 (R_e (W_seq_blockg fun Q87 n87 x87 y87 z87=>(W_r (R_mv t4 (R_not rfl (R_mv rfl ?_))))))
   refine Ops_seg 8 (fun T H=>T 1=(V.mp 1 1 0 0)∧T 52=(V.bool (decide ((¬((2:Int)≤((f.kids.length:Nat):Int)))∨((¬(((f.op)=(2:Int))∨((f.op)=(3:Int))))∧((f.arg)≠(0:Int))))))∧H 1=(bk 1 24 3 [[(iV (f.op)),(iV (f.arg)),(V.sl (List.map cF (f.kids)))]])∧True) ?_ ?_
   ·
    by_cases g88: ¬((2:Int)≤((f.kids.length:Nat):Int))
    ·
     refine G_n (edT g88 rfl) (G_n (edT g88 rfl) (G_n (edT g88 rfl) (G_raw (@rfl V (V.raw undef)) (G_raw (@rfl V (V.raw undef)) (G_raw (@rfl V (V.raw undef)) (G_n (edT g88 rfl) (R_pickT (edT g88 rfl) rfl ?_)))))))
     exact ⟨t1,(dec_orT g88),h1,trivial⟩
    ·
     refine G_yes (edF g88 rfl) (R_mv rfl (G_yes (edF g88 rfl) (R_not rfl (G_yes (edF g88 rfl) (R_mv rfl ?_)))))
     refine Ops_seg 4 (fun T H=>T 1=(V.mp 1 1 0 0)∧T 44=(V.bool false)∧T 51=(V.bool (decide ((¬(((f.op)=(2:Int))∨((f.op)=(3:Int))))∧((f.arg)≠(0:Int)))))∧H 1=(bk 1 24 3 [[(iV (f.op)),(iV (f.arg)),(V.sl (List.map cF (f.kids)))]])∧True) ?_ ?_
     ·
      by_cases g89: ¬(((f.op)=(2:Int))∨((f.op)=(3:Int)))
      ·
       refine G_yes (edT g89 rfl) (R_fk t1 h1 (G_yes (edT g89 rfl) (R_lk rfl h1 rfl rfl (G_yes (edT g89 rfl) (R_neq rfl rfl (G_yes (edF g88 rfl) (R_pickT (edT g89 rfl) rfl ?_)))))))
       exact ⟨t1,(edF g88 rfl),(dec_andT g89),h1,trivial⟩
      ·
       refine G_n (edF g89 rfl) (G_n (edF g89 rfl) (G_n (edF g89 rfl) (G_yes (edF g88 rfl) (R_pickF (edF g89 rfl) rfl ?_))))
       exact ⟨t1,(edF g88 rfl),(dec_andF g89),h1,trivial⟩
     intro T H ⟨t1,t44,t51,h1,_⟩
     refine R_pickF t44 t51 ?_
     exact ⟨t1,(dec_orF g88),h1,trivial⟩
   intro T H ⟨t1,t52,h1,_⟩
   refine R_mv t52 (R_e ?_)
   refine W_if rfl (fun c90=>?_) fun c90=>?_
   ·
    refine W_r (R_mv rfl (R_e (W_ret (y87 _ _ ?_))))
    refine Ret_1 (@rfl V (iV (1:Int))) (fz_int ?_)
    · simp only [rgt,kLo,kHi]; repeat (first|rfl|omega|split)
   refine W_seq_seq (W_r (R_fk t1 h1 (R_lk rfl h1 rfl rfl (R_eql rfl rfl (R_mv rfl ?_)))))
   refine Ops_seg 9 (fun T H=>T 1=(V.mp 1 1 0 0)∧T 66=(V.bool (decide (((f.op)=(2:Int))∧(((f.arg) < (0:Int))∨((64:Int)≤(f.arg))))))∧H 1=(bk 1 24 3 [[(iV (f.op)),(iV (f.arg)),(V.sl (List.map cF (f.kids)))]])∧True) ?_ ?_
   ·
    by_cases g91:(f.op)=(2:Int)
    ·
     refine G_yes (edT g91 rfl) (R_fk t1 h1 (G_yes (edT g91 rfl) (R_lk rfl h1 rfl rfl (G_yes (edT g91 rfl) (R_lss rfl rfl (G_yes (edT g91 rfl) (R_mv rfl ?_)))))))
     refine Ops_seg 4 (fun T H=>T 1=(V.mp 1 1 0 0)∧T 57=(V.bool true)∧T 65=(V.bool (decide (((f.arg) < (0:Int))∨((64:Int)≤(f.arg)))))∧H 1=(bk 1 24 3 [[(iV (f.op)),(iV (f.arg)),(V.sl (List.map cF (f.kids)))]])∧True) ?_ ?_
     ·
      by_cases g92:(f.arg) < (0:Int)
      ·
       refine G_n (edT g92 rfl) (G_n (edT g92 rfl) (G_n (edT g92 rfl) (G_yes (edT g91 rfl) (R_pickT (edT g92 rfl) rfl ?_))))
       exact ⟨t1,(edT g91 rfl),(dec_orT g92),h1,trivial⟩
      ·
       refine G_yes (edF g92 rfl) (R_fk t1 h1 (G_yes (edF g92 rfl) (R_lk rfl h1 rfl rfl (G_yes (edF g92 rfl) (R_geq rfl rfl (G_yes (edT g91 rfl) (R_pickF (edF g92 rfl) rfl ?_)))))))
       exact ⟨t1,(edT g91 rfl),(dec_orF g92),h1,trivial⟩
     intro T H ⟨t1,t57,t65,h1,_⟩
     refine R_pickT t57 t65 ?_
     exact ⟨t1,(dec_andT g91),h1,trivial⟩
    ·
     refine G_n (edF g91 rfl) (G_n (edF g91 rfl) (G_n (edF g91 rfl) (G_n (edF g91 rfl) (G_raw (@rfl V (V.raw undef)) (G_raw (@rfl V (V.raw undef)) (G_raw (@rfl V (V.raw undef)) (G_n (edF g91 rfl) ?_)))))))
     refine R_pickF (edF g91 rfl) rfl ?_
     exact ⟨t1,(dec_andF g91),h1,trivial⟩
   intro T H ⟨t1,t66,h1,_⟩
   refine R_mv t66 (R_e ?_)
   refine W_seq_if rfl (fun c93=>?_) fun c93=>?_
   ·
    refine W_seq_skip ?_
    refine W_if rfl (fun c94=>?_) fun c94=>?_
    ·
     refine W_r (R_mv rfl (R_e (W_ret (y87 _ _ ?_))))
     refine Ret_1 (@rfl V (iV (2:Int))) (fz_int ?_)
     · simp only [rgt,kLo,kHi]; repeat (first|rfl|omega|split)
    · exact (c94 c93).elim
   refine W_r (R_fk t1 h1 (R_lk rfl h1 rfl rfl (R_eql rfl rfl (R_mv rfl ?_))))
   refine Ops_seg 9 (fun T H=>T 53=(V.bool (decide (((f.op)=(2:Int))∧(((f.arg) < (0:Int))∨((64:Int)≤(f.arg))))))∧T 79=(V.bool (decide (((f.op)=(3:Int))∧(((f.arg) < (0:Int))∨((1048576:Int) < (f.arg))))))∧H 1=(bk 1 24 3 [[(iV (f.op)),(iV (f.arg)),(V.sl (List.map cF (f.kids)))]])∧True) ?_ ?_
   ·
    by_cases g95:(f.op)=(3:Int)
    ·
     refine G_yes (edT g95 rfl) (R_fk t1 h1 (G_yes (edT g95 rfl) (R_lk rfl h1 rfl rfl (G_yes (edT g95 rfl) (R_lss rfl rfl (G_yes (edT g95 rfl) (R_mv rfl ?_)))))))
     refine Ops_seg 4 (fun T H=>T 53=(V.bool (decide (((f.op)=(2:Int))∧(((f.arg) < (0:Int))∨((64:Int)≤(f.arg))))))∧T 70=(V.bool true)∧T 78=(V.bool (decide (((f.arg) < (0:Int))∨((1048576:Int) < (f.arg)))))∧H 1=(bk 1 24 3 [[(iV (f.op)),(iV (f.arg)),(V.sl (List.map cF (f.kids)))]])∧True) ?_ ?_
     ·
      by_cases g96:(f.arg) < (0:Int)
      ·
       refine G_n (edT g96 rfl) (G_n (edT g96 rfl) (G_n (edT g96 rfl) (G_yes (edT g95 rfl) (R_pickT (edT g96 rfl) rfl ?_))))
       exact ⟨rfl,(edT g95 rfl),(dec_orT g96),h1,trivial⟩
      ·
       refine G_yes (edF g96 rfl) (R_fk t1 h1 (G_yes (edF g96 rfl) (R_lk rfl h1 rfl rfl (G_yes (edF g96 rfl) (R_gtr rfl rfl (G_yes (edT g95 rfl) (R_pickF (edF g96 rfl) rfl ?_)))))))
       exact ⟨rfl,(edT g95 rfl),(dec_orF g96),h1,trivial⟩
     intro T H ⟨t53,t70,t78,h1,_⟩
     refine R_pickT t70 t78 ?_
     exact ⟨t53,(dec_andT g95),h1,trivial⟩
    ·
     refine G_n (edF g95 rfl) (G_n (edF g95 rfl) (G_n (edF g95 rfl) (G_n (edF g95 rfl) (G_raw (@rfl V (V.raw undef)) (G_raw (@rfl V (V.raw undef)) (G_raw (@rfl V (V.raw undef)) (G_n (edF g95 rfl) ?_)))))))
     refine R_pickF (edF g95 rfl) rfl ?_
     exact ⟨rfl,(dec_andF g95),h1,trivial⟩
   intro T H ⟨t53,t79,h1,_⟩
   refine R_mv t79 (R_e ?_)
   refine W_if rfl (fun c97=>?_) fun c97=>?_
   ·
    refine W_r (R_mv rfl (R_e (W_ret (y87 _ _ ?_))))
    refine Ret_1 (@rfl V (iV (2:Int))) (fz_int ?_)
    · simp only [rgt,kLo,kHi]; repeat (first|rfl|omega|split)
   refine W_skip (n87 _ _ (.done (W_r (R_mv rfl (R_e (W_ret ?_))))))
   refine Ret_1 (@rfl V (iV (0:Int))) (fz_int ?_)
   · simp only [rgt,kLo,kHi]; repeat (first|rfl|omega|split)
  · exact (c85 c84).elim
 refine W_r (R_eql rfl rfl (R_mv rfl (R_e ?_)))
 refine W_if rfl (fun c98=>?_) fun c98=>?_
 ·
  refine W_t (R_mv rfl (R_geq rfl rfl (R_mv rfl (R_e (n1 _ _ (.done (W_r ?_)))))))
  refine R_fk rfl rfl (R_lk rfl rfl rfl rfl (R_eql rfl rfl (R_mv rfl ?_)))
  refine Ops_seg 4 (fun T H=>T 1=(V.mp 1 1 0 0)∧T 4=(V.bool (decide ((2:Int)≤((f.kids.length:Nat):Int))))∧T 40=(V.bool (decide (((f.op)=(2:Int))∨((f.op)=(3:Int)))))∧H 1=(bk 1 24 3 [[(iV (f.op)),(iV (f.arg)),(V.sl (List.map cF (f.kids)))]])∧True) ?_ ?_
  ·
   by_cases g99:(f.op)=(2:Int)
   ·
    refine G_n (edT g99 rfl) (G_n (edT g99 rfl) (G_n (edT g99 rfl) (R_pickT (edT g99 rfl) rfl ?_)))
    exact ⟨rfl,rfl,(dec_orT g99),rfl,trivial⟩
   ·
    refine G_yes (edF g99 rfl) (R_fk rfl rfl (G_yes (edF g99 rfl) (R_lk rfl rfl rfl rfl (G_yes (edF g99 rfl) (R_eql rfl rfl (R_pickF (edF g99 rfl) rfl ?_))))))
    exact ⟨rfl,rfl,(dec_orF g99),rfl,trivial⟩
  intro T H ⟨t1,t4,t40,h1,_⟩
  refine R_mv t40 (R_e (W_seq_blockg fun Q100 n100 x100 y100 z100=>(W_r (R_mv t4 (R_not rfl (R_mv rfl ?_))))))
  refine Ops_seg 8 (fun T H=>T 1=(V.mp 1 1 0 0)∧T 52=(V.bool (decide ((¬((2:Int)≤((f.kids.length:Nat):Int)))∨((¬(((f.op)=(2:Int))∨((f.op)=(3:Int))))∧((f.arg)≠(0:Int))))))∧H 1=(bk 1 24 3 [[(iV (f.op)),(iV (f.arg)),(V.sl (List.map cF (f.kids)))]])∧True) ?_ ?_
  ·
   by_cases g101: ¬((2:Int)≤((f.kids.length:Nat):Int))
   ·
    refine G_n (edT g101 rfl) (G_n (edT g101 rfl) (G_n (edT g101 rfl) (G_raw (@rfl V (V.raw undef)) (G_raw (@rfl V (V.raw undef)) (G_raw (@rfl V (V.raw undef)) (G_n (edT g101 rfl) (R_pickT (edT g101 rfl) rfl ?_)))))))
    exact ⟨t1,(dec_orT g101),h1,trivial⟩
   ·
    refine G_yes (edF g101 rfl) (R_mv rfl (G_yes (edF g101 rfl) (R_not rfl (G_yes (edF g101 rfl) (R_mv rfl ?_)))))
    refine Ops_seg 4 (fun T H=>T 1=(V.mp 1 1 0 0)∧T 44=(V.bool false)∧T 51=(V.bool (decide ((¬(((f.op)=(2:Int))∨((f.op)=(3:Int))))∧((f.arg)≠(0:Int)))))∧H 1=(bk 1 24 3 [[(iV (f.op)),(iV (f.arg)),(V.sl (List.map cF (f.kids)))]])∧True) ?_ ?_
    ·
     by_cases g102: ¬(((f.op)=(2:Int))∨((f.op)=(3:Int)))
     ·
      refine G_yes (edT g102 rfl) (R_fk t1 h1 (G_yes (edT g102 rfl) (R_lk rfl h1 rfl rfl (G_yes (edT g102 rfl) (R_neq rfl rfl (G_yes (edF g101 rfl) (R_pickT (edT g102 rfl) rfl ?_)))))))
      exact ⟨t1,(edF g101 rfl),(dec_andT g102),h1,trivial⟩
     ·
      refine G_n (edF g102 rfl) (G_n (edF g102 rfl) (G_n (edF g102 rfl) (G_yes (edF g101 rfl) (R_pickF (edF g102 rfl) rfl ?_))))
      exact ⟨t1,(edF g101 rfl),(dec_andF g102),h1,trivial⟩
    intro T H ⟨t1,t44,t51,h1,_⟩
    refine R_pickF t44 t51 ?_
    exact ⟨t1,(dec_orF g101),h1,trivial⟩
  intro T H ⟨t1,t52,h1,_⟩
  refine R_mv t52 (R_e ?_)
  refine W_if rfl (fun c103=>?_) fun c103=>?_
  ·
   refine W_r (R_mv rfl (R_e (W_ret (y100 _ _ ?_))))
   refine Ret_1 (@rfl V (iV (1:Int))) (fz_int ?_)
   · simp only [rgt,kLo,kHi]; repeat (first|rfl|omega|split)
  refine W_seq_seq (W_r (R_fk t1 h1 (R_lk rfl h1 rfl rfl (R_eql rfl rfl (R_mv rfl ?_)))))
  refine Ops_seg 9 (fun T H=>T 1=(V.mp 1 1 0 0)∧T 66=(V.bool (decide (((f.op)=(2:Int))∧(((f.arg) < (0:Int))∨((64:Int)≤(f.arg))))))∧H 1=(bk 1 24 3 [[(iV (f.op)),(iV (f.arg)),(V.sl (List.map cF (f.kids)))]])∧True) ?_ ?_
  ·
   by_cases g104:(f.op)=(2:Int)
   ·
    refine G_yes (edT g104 rfl) (R_fk t1 h1 (G_yes (edT g104 rfl) (R_lk rfl h1 rfl rfl (G_yes (edT g104 rfl) (R_lss rfl rfl (G_yes (edT g104 rfl) (R_mv rfl ?_)))))))
    refine Ops_seg 4 (fun T H=>T 1=(V.mp 1 1 0 0)∧T 57=(V.bool true)∧T 65=(V.bool (decide (((f.arg) < (0:Int))∨((64:Int)≤(f.arg)))))∧H 1=(bk 1 24 3 [[(iV (f.op)),(iV (f.arg)),(V.sl (List.map cF (f.kids)))]])∧True) ?_ ?_
    ·
     by_cases g105:(f.arg) < (0:Int)
     ·
      refine G_n (edT g105 rfl) (G_n (edT g105 rfl) (G_n (edT g105 rfl) (G_yes (edT g104 rfl) (R_pickT (edT g105 rfl) rfl ?_))))
      exact ⟨t1,(edT g104 rfl),(dec_orT g105),h1,trivial⟩
     ·
      refine G_yes (edF g105 rfl) (R_fk t1 h1 (G_yes (edF g105 rfl) (R_lk rfl h1 rfl rfl (G_yes (edF g105 rfl) (R_geq rfl rfl (G_yes (edT g104 rfl) (R_pickF (edF g105 rfl) rfl ?_)))))))
      exact ⟨t1,(edT g104 rfl),(dec_orF g105),h1,trivial⟩
    intro T H ⟨t1,t57,t65,h1,_⟩
    refine R_pickT t57 t65 ?_
    exact ⟨t1,(dec_andT g104),h1,trivial⟩
   ·
    refine G_n (edF g104 rfl) (G_n (edF g104 rfl) (G_n (edF g104 rfl) (G_n (edF g104 rfl) (G_raw (@rfl V (V.raw undef)) (G_raw (@rfl V (V.raw undef)) (G_raw (@rfl V (V.raw undef)) (G_n (edF g104 rfl) ?_)))))))
    refine R_pickF (edF g104 rfl) rfl ?_
    exact ⟨t1,(dec_andF g104),h1,trivial⟩
  intro T H ⟨t1,t66,h1,_⟩
  refine R_mv t66 (R_e ?_)
  refine W_seq_if rfl (fun c106=>?_) fun c106=>?_
  ·
   refine W_seq_skip ?_
   refine W_if rfl (fun c107=>?_) fun c107=>?_
   ·
    refine W_r (R_mv rfl (R_e (W_ret (y100 _ _ ?_))))
    refine Ret_1 (@rfl V (iV (2:Int))) (fz_int ?_)
    · simp only [rgt,kLo,kHi]; repeat (first|rfl|omega|split)
   · exact (c107 c106).elim
  refine W_r (R_fk t1 h1 (R_lk rfl h1 rfl rfl (R_eql rfl rfl (R_mv rfl ?_))))
  refine Ops_seg 9 (fun T H=>T 53=(V.bool (decide (((f.op)=(2:Int))∧(((f.arg) < (0:Int))∨((64:Int)≤(f.arg))))))∧T 79=(V.bool (decide (((f.op)=(3:Int))∧(((f.arg) < (0:Int))∨((1048576:Int) < (f.arg))))))∧H 1=(bk 1 24 3 [[(iV (f.op)),(iV (f.arg)),(V.sl (List.map cF (f.kids)))]])∧True) ?_ ?_
  ·
   by_cases g108:(f.op)=(3:Int)
   ·
    refine G_yes (edT g108 rfl) (R_fk t1 h1 (G_yes (edT g108 rfl) (R_lk rfl h1 rfl rfl (G_yes (edT g108 rfl) (R_lss rfl rfl (G_yes (edT g108 rfl) (R_mv rfl ?_)))))))
    refine Ops_seg 4 (fun T H=>T 53=(V.bool (decide (((f.op)=(2:Int))∧(((f.arg) < (0:Int))∨((64:Int)≤(f.arg))))))∧T 70=(V.bool true)∧T 78=(V.bool (decide (((f.arg) < (0:Int))∨((1048576:Int) < (f.arg)))))∧H 1=(bk 1 24 3 [[(iV (f.op)),(iV (f.arg)),(V.sl (List.map cF (f.kids)))]])∧True) ?_ ?_
    ·
     by_cases g109:(f.arg) < (0:Int)
     ·
      refine G_n (edT g109 rfl) (G_n (edT g109 rfl) (G_n (edT g109 rfl) (G_yes (edT g108 rfl) (R_pickT (edT g109 rfl) rfl ?_))))
      exact ⟨rfl,(edT g108 rfl),(dec_orT g109),h1,trivial⟩
     ·
      refine G_yes (edF g109 rfl) (R_fk t1 h1 (G_yes (edF g109 rfl) (R_lk rfl h1 rfl rfl (G_yes (edF g109 rfl) (R_gtr rfl rfl (G_yes (edT g108 rfl) (R_pickF (edF g109 rfl) rfl ?_)))))))
      exact ⟨rfl,(edT g108 rfl),(dec_orF g109),h1,trivial⟩
    intro T H ⟨t53,t70,t78,h1,_⟩
    refine R_pickT t70 t78 ?_
    exact ⟨t53,(dec_andT g108),h1,trivial⟩
   ·
    refine G_n (edF g108 rfl) (G_n (edF g108 rfl) (G_n (edF g108 rfl) (G_n (edF g108 rfl) (G_raw (@rfl V (V.raw undef)) (G_raw (@rfl V (V.raw undef)) (G_raw (@rfl V (V.raw undef)) (G_n (edF g108 rfl) ?_)))))))
    refine R_pickF (edF g108 rfl) rfl ?_
    exact ⟨rfl,(dec_andF g108),h1,trivial⟩
  intro T H ⟨t53,t79,h1,_⟩
  refine R_mv t79 (R_e ?_)
  refine W_if rfl (fun c110=>?_) fun c110=>?_
  ·
   refine W_r (R_mv rfl (R_e (W_ret (y100 _ _ ?_))))
   refine Ret_1 (@rfl V (iV (2:Int))) (fz_int ?_)
   · simp only [rgt,kLo,kHi]; repeat (first|rfl|omega|split)
  refine W_skip (n100 _ _ (.done (W_r (R_mv rfl (R_e (W_ret ?_))))))
  refine Ret_1 (@rfl V (iV (0:Int))) (fz_int ?_)
  · simp only [rgt,kLo,kHi]; repeat (first|rfl|omega|split)
 refine W_seq_seq (W_r (R_eql rfl rfl (R_mv rfl (R_e ?_))))
 refine W_seq_if rfl (fun c111=>?_) fun c111=>?_
 ·
  refine W_seq_skip ?_
  refine W_if rfl (fun c112=>?_) fun c112=>?_
  ·
   refine W_t (R_mv rfl (R_eql rfl rfl (R_mv rfl (R_e (n1 _ _ (.done (W_r ?_)))))))
   refine R_fk rfl rfl (R_lk rfl rfl rfl rfl (R_eql rfl rfl (R_mv rfl ?_)))
   refine Ops_seg 4 (fun T H=>T 1=(V.mp 1 1 0 0)∧T 4=(V.bool (decide (((f.kids.length:Nat):Int)=(2:Int))))∧T 40=(V.bool (decide (((f.op)=(2:Int))∨((f.op)=(3:Int)))))∧H 1=(bk 1 24 3 [[(iV (f.op)),(iV (f.arg)),(V.sl (List.map cF (f.kids)))]])∧True) ?_ ?_
   ·
    by_cases g113:(f.op)=(2:Int)
    ·
     refine G_n (edT g113 rfl) (G_n (edT g113 rfl) (G_n (edT g113 rfl) (R_pickT (edT g113 rfl) rfl ?_)))
     exact ⟨rfl,rfl,(dec_orT g113),rfl,trivial⟩
    ·
     refine G_yes (edF g113 rfl) (R_fk rfl rfl (G_yes (edF g113 rfl) (R_lk rfl rfl rfl rfl (G_yes (edF g113 rfl) (R_eql rfl rfl (R_pickF (edF g113 rfl) rfl ?_))))))
     exact ⟨rfl,rfl,(dec_orF g113),rfl,trivial⟩
   intro T H ⟨t1,t4,t40,h1,_⟩
   refine R_mv t40 (R_e (W_seq_blockg fun Q114 n114 x114 y114 z114=>(W_r (R_mv t4 (R_not rfl (R_mv rfl ?_))))))
   refine Ops_seg 8 (fun T H=>T 1=(V.mp 1 1 0 0)∧T 52=(V.bool (decide ((¬(((f.kids.length:Nat):Int)=(2:Int)))∨((¬(((f.op)=(2:Int))∨((f.op)=(3:Int))))∧((f.arg)≠(0:Int))))))∧H 1=(bk 1 24 3 [[(iV (f.op)),(iV (f.arg)),(V.sl (List.map cF (f.kids)))]])∧True) ?_ ?_
   ·
    by_cases g115: ¬(((f.kids.length:Nat):Int)=(2:Int))
    ·
     refine G_n (edT g115 rfl) (G_n (edT g115 rfl) (G_n (edT g115 rfl) (G_raw (@rfl V (V.raw undef)) (G_raw (@rfl V (V.raw undef)) (G_raw (@rfl V (V.raw undef)) (G_n (edT g115 rfl) (R_pickT (edT g115 rfl) rfl ?_)))))))
     exact ⟨t1,(dec_orT g115),h1,trivial⟩
    ·
     refine G_yes (edF g115 rfl) (R_mv rfl (G_yes (edF g115 rfl) (R_not rfl (G_yes (edF g115 rfl) (R_mv rfl ?_)))))
     refine Ops_seg 4 (fun T H=>T 1=(V.mp 1 1 0 0)∧T 44=(V.bool false)∧T 51=(V.bool (decide ((¬(((f.op)=(2:Int))∨((f.op)=(3:Int))))∧((f.arg)≠(0:Int)))))∧H 1=(bk 1 24 3 [[(iV (f.op)),(iV (f.arg)),(V.sl (List.map cF (f.kids)))]])∧True) ?_ ?_
     ·
      by_cases g116: ¬(((f.op)=(2:Int))∨((f.op)=(3:Int)))
      ·
       refine G_yes (edT g116 rfl) (R_fk t1 h1 (G_yes (edT g116 rfl) (R_lk rfl h1 rfl rfl (G_yes (edT g116 rfl) (R_neq rfl rfl (G_yes (edF g115 rfl) (R_pickT (edT g116 rfl) rfl ?_)))))))
       exact ⟨t1,(edF g115 rfl),(dec_andT g116),h1,trivial⟩
      ·
       refine G_n (edF g116 rfl) (G_n (edF g116 rfl) (G_n (edF g116 rfl) (G_yes (edF g115 rfl) (R_pickF (edF g116 rfl) rfl ?_))))
       exact ⟨t1,(edF g115 rfl),(dec_andF g116),h1,trivial⟩
     intro T H ⟨t1,t44,t51,h1,_⟩
     refine R_pickF t44 t51 ?_
     exact ⟨t1,(dec_orF g115),h1,trivial⟩
   intro T H ⟨t1,t52,h1,_⟩
   refine R_mv t52 (R_e ?_)
   refine W_if rfl (fun c117=>?_) fun c117=>?_
   ·
    refine W_r (R_mv rfl (R_e (W_ret (y114 _ _ ?_))))
    refine Ret_1 (@rfl V (iV (1:Int))) (fz_int ?_)
    · simp only [rgt,kLo,kHi]; repeat (first|rfl|omega|split)
   refine W_seq_seq (W_r (R_fk t1 h1 (R_lk rfl h1 rfl rfl (R_eql rfl rfl (R_mv rfl ?_)))))
   refine Ops_seg 9 (fun T H=>T 1=(V.mp 1 1 0 0)∧T 66=(V.bool (decide (((f.op)=(2:Int))∧(((f.arg) < (0:Int))∨((64:Int)≤(f.arg))))))∧H 1=(bk 1 24 3 [[(iV (f.op)),(iV (f.arg)),(V.sl (List.map cF (f.kids)))]])∧True) ?_ ?_
   ·
    by_cases g118:(f.op)=(2:Int)
    ·
     refine G_yes (edT g118 rfl) (R_fk t1 h1 (G_yes (edT g118 rfl) (R_lk rfl h1 rfl rfl (G_yes (edT g118 rfl) (R_lss rfl rfl (G_yes (edT g118 rfl) (R_mv rfl ?_)))))))
     refine Ops_seg 4 (fun T H=>T 1=(V.mp 1 1 0 0)∧T 57=(V.bool true)∧T 65=(V.bool (decide (((f.arg) < (0:Int))∨((64:Int)≤(f.arg)))))∧H 1=(bk 1 24 3 [[(iV (f.op)),(iV (f.arg)),(V.sl (List.map cF (f.kids)))]])∧True) ?_ ?_
     ·
      by_cases g119:(f.arg) < (0:Int)
      ·
       refine G_n (edT g119 rfl) (G_n (edT g119 rfl) (G_n (edT g119 rfl) (G_yes (edT g118 rfl) (R_pickT (edT g119 rfl) rfl ?_))))
       exact ⟨t1,(edT g118 rfl),(dec_orT g119),h1,trivial⟩
      ·
       refine G_yes (edF g119 rfl) (R_fk t1 h1 (G_yes (edF g119 rfl) (R_lk rfl h1 rfl rfl (G_yes (edF g119 rfl) (R_geq rfl rfl (G_yes (edT g118 rfl) (R_pickF (edF g119 rfl) rfl ?_)))))))
       exact ⟨t1,(edT g118 rfl),(dec_orF g119),h1,trivial⟩
     intro T H ⟨t1,t57,t65,h1,_⟩
     refine R_pickT t57 t65 ?_
     exact ⟨t1,(dec_andT g118),h1,trivial⟩
    ·
     refine G_n (edF g118 rfl) (G_n (edF g118 rfl) (G_n (edF g118 rfl) (G_n (edF g118 rfl) (G_raw (@rfl V (V.raw undef)) (G_raw (@rfl V (V.raw undef)) (G_raw (@rfl V (V.raw undef)) (G_n (edF g118 rfl) ?_)))))))
     refine R_pickF (edF g118 rfl) rfl ?_
     exact ⟨t1,(dec_andF g118),h1,trivial⟩
   intro T H ⟨t1,t66,h1,_⟩
   refine R_mv t66 (R_e ?_)
   refine W_seq_if rfl (fun c120=>?_) fun c120=>?_
   ·
    refine W_seq_skip ?_
    refine W_if rfl (fun c121=>?_) fun c121=>?_
    ·
     refine W_r (R_mv rfl (R_e (W_ret (y114 _ _ ?_))))
     refine Ret_1 (@rfl V (iV (2:Int))) (fz_int ?_)
     · simp only [rgt,kLo,kHi]; repeat (first|rfl|omega|split)
    · exact (c121 c120).elim
   refine W_r (R_fk t1 h1 (R_lk rfl h1 rfl rfl (R_eql rfl rfl (R_mv rfl ?_))))
   refine Ops_seg 9 (fun T H=>T 53=(V.bool (decide (((f.op)=(2:Int))∧(((f.arg) < (0:Int))∨((64:Int)≤(f.arg))))))∧T 79=(V.bool (decide (((f.op)=(3:Int))∧(((f.arg) < (0:Int))∨((1048576:Int) < (f.arg))))))∧H 1=(bk 1 24 3 [[(iV (f.op)),(iV (f.arg)),(V.sl (List.map cF (f.kids)))]])∧True) ?_ ?_
   ·
    by_cases g122:(f.op)=(3:Int)
    ·
     refine G_yes (edT g122 rfl) (R_fk t1 h1 (G_yes (edT g122 rfl) (R_lk rfl h1 rfl rfl (G_yes (edT g122 rfl) (R_lss rfl rfl (G_yes (edT g122 rfl) (R_mv rfl ?_)))))))
     refine Ops_seg 4 (fun T H=>T 53=(V.bool (decide (((f.op)=(2:Int))∧(((f.arg) < (0:Int))∨((64:Int)≤(f.arg))))))∧T 70=(V.bool true)∧T 78=(V.bool (decide (((f.arg) < (0:Int))∨((1048576:Int) < (f.arg)))))∧H 1=(bk 1 24 3 [[(iV (f.op)),(iV (f.arg)),(V.sl (List.map cF (f.kids)))]])∧True) ?_ ?_
     ·
      by_cases g123:(f.arg) < (0:Int)
      ·
       refine G_n (edT g123 rfl) (G_n (edT g123 rfl) (G_n (edT g123 rfl) (G_yes (edT g122 rfl) (R_pickT (edT g123 rfl) rfl ?_))))
       exact ⟨rfl,(edT g122 rfl),(dec_orT g123),h1,trivial⟩
      ·
       refine G_yes (edF g123 rfl) (R_fk t1 h1 (G_yes (edF g123 rfl) (R_lk rfl h1 rfl rfl (G_yes (edF g123 rfl) (R_gtr rfl rfl (G_yes (edT g122 rfl) (R_pickF (edF g123 rfl) rfl ?_)))))))
       exact ⟨rfl,(edT g122 rfl),(dec_orF g123),h1,trivial⟩
     intro T H ⟨t53,t70,t78,h1,_⟩
     refine R_pickT t70 t78 ?_
     exact ⟨t53,(dec_andT g122),h1,trivial⟩
    ·
     refine G_n (edF g122 rfl) (G_n (edF g122 rfl) (G_n (edF g122 rfl) (G_n (edF g122 rfl) (G_raw (@rfl V (V.raw undef)) (G_raw (@rfl V (V.raw undef)) (G_raw (@rfl V (V.raw undef)) (G_n (edF g122 rfl) ?_)))))))
     refine R_pickF (edF g122 rfl) rfl ?_
     exact ⟨rfl,(dec_andF g122),h1,trivial⟩
   intro T H ⟨t53,t79,h1,_⟩
   refine R_mv t79 (R_e ?_)
   refine W_if rfl (fun c124=>?_) fun c124=>?_
   ·
    refine W_r (R_mv rfl (R_e (W_ret (y114 _ _ ?_))))
    refine Ret_1 (@rfl V (iV (2:Int))) (fz_int ?_)
    · simp only [rgt,kLo,kHi]; repeat (first|rfl|omega|split)
   refine W_skip (n114 _ _ (.done (W_r (R_mv rfl (R_e (W_ret ?_))))))
   refine Ret_1 (@rfl V (iV (0:Int))) (fz_int ?_)
   · simp only [rgt,kLo,kHi]; repeat (first|rfl|omega|split)
  · exact (c112 c111).elim
 refine W_r (R_eql rfl rfl (R_mv rfl (R_e ?_)))
 refine W_if rfl (fun c125=>?_) fun c125=>?_
 ·
  refine W_t (R_mv rfl (R_eql rfl rfl (R_mv rfl (R_e (n1 _ _ (.done ?_))))))
  refine W_seq_regc (fun T H=>T 1=(V.mp 1 1 0 0)∧T 4=(V.bool (decide (((f.kids.length:Nat):Int)=(2:Int))))∧T 5=(V.bool (decide (((f.op)=(2:Int))∨((f.op)=(3:Int)))))∧H 1=(bk 1 24 3 [[(iV (f.op)),(iV (f.arg)),(V.sl (List.map cF (f.kids)))]])∧True) ?_ ?_
  ·
   refine R_fk rfl rfl (R_lk rfl rfl rfl rfl (R_eql rfl rfl (R_mv rfl ?_)))
   refine Ops_seg 4 (fun T H=>T 1=(V.mp 1 1 0 0)∧T 4=(V.bool (decide (((f.kids.length:Nat):Int)=(2:Int))))∧T 40=(V.bool (decide (((f.op)=(2:Int))∨((f.op)=(3:Int)))))∧H 1=(bk 1 24 3 [[(iV (f.op)),(iV (f.arg)),(V.sl (List.map cF (f.kids)))]])∧True) ?_ ?_
   ·
    by_cases g126:(f.op)=(2:Int)
    ·
     refine G_n (edT g126 rfl) (G_n (edT g126 rfl) (G_n (edT g126 rfl) (R_pickT (edT g126 rfl) rfl ?_)))
     exact ⟨rfl,rfl,(dec_orT g126),rfl,trivial⟩
    ·
     refine G_yes (edF g126 rfl) (R_fk rfl rfl (G_yes (edF g126 rfl) (R_lk rfl rfl rfl rfl (G_yes (edF g126 rfl) (R_eql rfl rfl (R_pickF (edF g126 rfl) rfl ?_))))))
     exact ⟨rfl,rfl,(dec_orF g126),rfl,trivial⟩
   intro T H ⟨t1,t4,t40,h1,_⟩
   refine R_mv t40 ?_
   exact R_nil ⟨t1,t4,rfl,h1,trivial⟩
  intro T H ⟨t1,t4,t5,h1,_⟩
  refine W_seq_blockg fun Q127 n127 x127 y127 z127=>(W_r (R_mv t4 (R_not rfl (R_mv rfl ?_))))
  refine Ops_seg 8 (fun T H=>T 1=(V.mp 1 1 0 0)∧T 52=(V.bool (decide ((¬(((f.kids.length:Nat):Int)=(2:Int)))∨((¬(((f.op)=(2:Int))∨((f.op)=(3:Int))))∧((f.arg)≠(0:Int))))))∧H 1=(bk 1 24 3 [[(iV (f.op)),(iV (f.arg)),(V.sl (List.map cF (f.kids)))]])∧True) ?_ ?_
  ·
   by_cases g128: ¬(((f.kids.length:Nat):Int)=(2:Int))
   ·
    refine G_n (edT g128 rfl) (G_n (edT g128 rfl) (G_n (edT g128 rfl) (G_raw (@rfl V (V.raw undef)) (G_raw (@rfl V (V.raw undef)) (G_raw (@rfl V (V.raw undef)) (G_n (edT g128 rfl) (R_pickT (edT g128 rfl) rfl ?_)))))))
    exact ⟨t1,(dec_orT g128),h1,trivial⟩
   ·
    refine G_yes (edF g128 rfl) (R_mv t5 (G_yes (edF g128 rfl) (R_not rfl (G_yes (edF g128 rfl) (R_mv rfl ?_)))))
    refine Ops_seg 4 (fun T H=>T 1=(V.mp 1 1 0 0)∧T 44=(V.bool false)∧T 51=(V.bool (decide ((¬(((f.op)=(2:Int))∨((f.op)=(3:Int))))∧((f.arg)≠(0:Int)))))∧H 1=(bk 1 24 3 [[(iV (f.op)),(iV (f.arg)),(V.sl (List.map cF (f.kids)))]])∧True) ?_ ?_
    ·
     by_cases g129: ¬(((f.op)=(2:Int))∨((f.op)=(3:Int)))
     ·
      refine G_yes (edT g129 rfl) (R_fk t1 h1 (G_yes (edT g129 rfl) (R_lk rfl h1 rfl rfl (G_yes (edT g129 rfl) (R_neq rfl rfl (G_yes (edF g128 rfl) (R_pickT (edT g129 rfl) rfl ?_)))))))
      exact ⟨t1,(edF g128 rfl),(dec_andT g129),h1,trivial⟩
     ·
      refine G_n (edF g129 rfl) (G_n (edF g129 rfl) (G_n (edF g129 rfl) (G_yes (edF g128 rfl) (R_pickF (edF g129 rfl) rfl ?_))))
      exact ⟨t1,(edF g128 rfl),(dec_andF g129),h1,trivial⟩
    intro T H ⟨t1,t44,t51,h1,_⟩
    refine R_pickF t44 t51 ?_
    exact ⟨t1,(dec_orF g128),h1,trivial⟩
  intro T H ⟨t1,t52,h1,_⟩
  refine R_mv t52 (R_e ?_)
  refine W_if rfl (fun c130=>?_) fun c130=>?_
  ·
   refine W_r (R_mv rfl (R_e (W_ret (y127 _ _ ?_))))
   refine Ret_1 (@rfl V (iV (1:Int))) (fz_int ?_)
   · simp only [rgt,kLo,kHi]; repeat (first|rfl|omega|split)
  refine W_seq_seq (W_r (R_fk t1 h1 (R_lk rfl h1 rfl rfl (R_eql rfl rfl (R_mv rfl ?_)))))
  refine Ops_seg 9 (fun T H=>T 1=(V.mp 1 1 0 0)∧T 66=(V.bool (decide (((f.op)=(2:Int))∧(((f.arg) < (0:Int))∨((64:Int)≤(f.arg))))))∧H 1=(bk 1 24 3 [[(iV (f.op)),(iV (f.arg)),(V.sl (List.map cF (f.kids)))]])∧True) ?_ ?_
  ·
   by_cases g131:(f.op)=(2:Int)
   ·
    refine G_yes (edT g131 rfl) (R_fk t1 h1 (G_yes (edT g131 rfl) (R_lk rfl h1 rfl rfl (G_yes (edT g131 rfl) (R_lss rfl rfl (G_yes (edT g131 rfl) (R_mv rfl ?_)))))))
    refine Ops_seg 4 (fun T H=>T 1=(V.mp 1 1 0 0)∧T 57=(V.bool true)∧T 65=(V.bool (decide (((f.arg) < (0:Int))∨((64:Int)≤(f.arg)))))∧H 1=(bk 1 24 3 [[(iV (f.op)),(iV (f.arg)),(V.sl (List.map cF (f.kids)))]])∧True) ?_ ?_
    ·
     by_cases g132:(f.arg) < (0:Int)
     ·
      refine G_n (edT g132 rfl) (G_n (edT g132 rfl) (G_n (edT g132 rfl) (G_yes (edT g131 rfl) (R_pickT (edT g132 rfl) rfl ?_))))
      exact ⟨t1,(edT g131 rfl),(dec_orT g132),h1,trivial⟩
     ·
      refine G_yes (edF g132 rfl) (R_fk t1 h1 (G_yes (edF g132 rfl) (R_lk rfl h1 rfl rfl (G_yes (edF g132 rfl) (R_geq rfl rfl (G_yes (edT g131 rfl) (R_pickF (edF g132 rfl) rfl ?_)))))))
      exact ⟨t1,(edT g131 rfl),(dec_orF g132),h1,trivial⟩
    intro T H ⟨t1,t57,t65,h1,_⟩
    refine R_pickT t57 t65 ?_
    exact ⟨t1,(dec_andT g131),h1,trivial⟩
   ·
    refine G_n (edF g131 rfl) (G_n (edF g131 rfl) (G_n (edF g131 rfl) (G_n (edF g131 rfl) (G_raw (@rfl V (V.raw undef)) (G_raw (@rfl V (V.raw undef)) (G_raw (@rfl V (V.raw undef)) (G_n (edF g131 rfl) ?_)))))))
    refine R_pickF (edF g131 rfl) rfl ?_
    exact ⟨t1,(dec_andF g131),h1,trivial⟩
  intro T H ⟨t1,t66,h1,_⟩
  refine R_mv t66 (R_e ?_)
  refine W_seq_if rfl (fun c133=>?_) fun c133=>?_
  ·
   refine W_seq_skip ?_
   refine W_if rfl (fun c134=>?_) fun c134=>?_
   ·
    refine W_r (R_mv rfl (R_e (W_ret (y127 _ _ ?_))))
    refine Ret_1 (@rfl V (iV (2:Int))) (fz_int ?_)
    · simp only [rgt,kLo,kHi]; repeat (first|rfl|omega|split)
   · exact (c134 c133).elim
  refine W_r (R_fk t1 h1 (R_lk rfl h1 rfl rfl (R_eql rfl rfl (R_mv rfl ?_))))
  refine Ops_seg 9 (fun T H=>T 53=(V.bool (decide (((f.op)=(2:Int))∧(((f.arg) < (0:Int))∨((64:Int)≤(f.arg))))))∧T 79=(V.bool (decide (((f.op)=(3:Int))∧(((f.arg) < (0:Int))∨((1048576:Int) < (f.arg))))))∧H 1=(bk 1 24 3 [[(iV (f.op)),(iV (f.arg)),(V.sl (List.map cF (f.kids)))]])∧True) ?_ ?_
  ·
   by_cases g135:(f.op)=(3:Int)
   ·
    refine G_yes (edT g135 rfl) (R_fk t1 h1 (G_yes (edT g135 rfl) (R_lk rfl h1 rfl rfl (G_yes (edT g135 rfl) (R_lss rfl rfl (G_yes (edT g135 rfl) (R_mv rfl ?_)))))))
    refine Ops_seg 4 (fun T H=>T 53=(V.bool (decide (((f.op)=(2:Int))∧(((f.arg) < (0:Int))∨((64:Int)≤(f.arg))))))∧T 70=(V.bool true)∧T 78=(V.bool (decide (((f.arg) < (0:Int))∨((1048576:Int) < (f.arg)))))∧H 1=(bk 1 24 3 [[(iV (f.op)),(iV (f.arg)),(V.sl (List.map cF (f.kids)))]])∧True) ?_ ?_
    ·
     by_cases g136:(f.arg) < (0:Int)
     ·
      refine G_n (edT g136 rfl) (G_n (edT g136 rfl) (G_n (edT g136 rfl) (G_yes (edT g135 rfl) (R_pickT (edT g136 rfl) rfl ?_))))
      exact ⟨rfl,(edT g135 rfl),(dec_orT g136),h1,trivial⟩
     ·
      refine G_yes (edF g136 rfl) (R_fk t1 h1 (G_yes (edF g136 rfl) (R_lk rfl h1 rfl rfl (G_yes (edF g136 rfl) (R_gtr rfl rfl (G_yes (edT g135 rfl) (R_pickF (edF g136 rfl) rfl ?_)))))))
      exact ⟨rfl,(edT g135 rfl),(dec_orF g136),h1,trivial⟩
    intro T H ⟨t53,t70,t78,h1,_⟩
    refine R_pickT t70 t78 ?_
    exact ⟨t53,(dec_andT g135),h1,trivial⟩
   ·
    refine G_n (edF g135 rfl) (G_n (edF g135 rfl) (G_n (edF g135 rfl) (G_n (edF g135 rfl) (G_raw (@rfl V (V.raw undef)) (G_raw (@rfl V (V.raw undef)) (G_raw (@rfl V (V.raw undef)) (G_n (edF g135 rfl) ?_)))))))
    refine R_pickF (edF g135 rfl) rfl ?_
    exact ⟨rfl,(dec_andF g135),h1,trivial⟩
  intro T H ⟨t53,t79,h1,_⟩
  refine R_mv t79 (R_e ?_)
  refine W_if rfl (fun c137=>?_) fun c137=>?_
  ·
   refine W_r (R_mv rfl (R_e (W_ret (y127 _ _ ?_))))
   refine Ret_1 (@rfl V (iV (2:Int))) (fz_int ?_)
   · simp only [rgt,kLo,kHi]; repeat (first|rfl|omega|split)
  refine W_skip (n127 _ _ (.done (W_r (R_mv rfl (R_e (W_ret ?_))))))
  refine Ret_1 (@rfl V (iV (0:Int))) (fz_int ?_)
  · simp only [rgt,kLo,kHi]; repeat (first|rfl|omega|split)
 refine W_skip (n1 _ _ (.done (W_r (R_fk rfl rfl (R_lk rfl rfl rfl rfl (R_eql rfl rfl (R_mv rfl ?_)))))))
 refine Ops_seg 4 (fun T H=>T 1=(V.mp 1 1 0 0)∧T 4=(V.bool false)∧T 40=(V.bool (decide (((f.op)=(2:Int))∨((f.op)=(3:Int)))))∧H 1=(bk 1 24 3 [[(iV (f.op)),(iV (f.arg)),(V.sl (List.map cF (f.kids)))]])∧True) ?_ ?_
 ·
  by_cases g138:(f.op)=(2:Int)
  ·
   refine G_n (edT g138 rfl) (G_n (edT g138 rfl) (G_n (edT g138 rfl) (R_pickT (edT g138 rfl) rfl ?_)))
   exact ⟨rfl,rfl,(dec_orT g138),rfl,trivial⟩
  ·
   refine G_yes (edF g138 rfl) (R_fk rfl rfl (G_yes (edF g138 rfl) (R_lk rfl rfl rfl rfl (G_yes (edF g138 rfl) (R_eql rfl rfl (R_pickF (edF g138 rfl) rfl ?_))))))
   exact ⟨rfl,rfl,(dec_orF g138),rfl,trivial⟩
 intro T H ⟨t1,t4,t40,h1,_⟩
 refine R_mv t40 (R_e (W_seq_blockg fun Q139 n139 x139 y139 z139=>(W_r (R_mv t4 (R_notb rfl (R_mv rfl (G_n rfl ?_)))))))
 refine G_n rfl (G_n rfl (G_raw (@rfl V (V.raw undef)) (G_raw (@rfl V (V.raw undef)) (G_raw (@rfl V (V.raw undef)) (G_n rfl (R_pickT rfl rfl (R_mv rfl ?_)))))))
 refine R_e ?_
 refine W_ifb rfl (fun c140=>?_) (fun c140=>?_)
 ·
  refine W_r (R_mv rfl (R_e (W_ret (y139 _ _ ?_))))
  refine Ret_1 (@rfl V (iV (1:Int))) (fz_int ?_)
  · simp only [rgt,kLo,kHi]; repeat (first|rfl|omega|split)
 · cases c140
theorem rexam_pure_step (f:Fm) (lv b:Int) (hb:0≤b∧b≤4096) (hl:0≤lv∧lv≤65) (ih: ∀ (g:Fm) (lv b:Int),g.sz < f.sz→0≤b∧b≤4096→0≤lv∧lv≤65→PureC Try.prog 32 [(V.agg [(iV (g.op)),(iV (g.arg)),(V.sl (List.map cF (g.kids)))]),(iV (lv)),(iV (b))] (V.tup [(iV ((exm g lv b).1)),(iV ((exm g lv b).2))])):PureC Try.prog 32 [(V.agg [(iV (f.op)),(iV (f.arg)),(V.sl (List.map cF (f.kids)))]),(iV (lv)),(iV (b))] (V.tup [(iV ((exm f lv b).1)),(iV ((exm f lv b).2))]):=by
 refine pW Try.func32 s32_ok fun hB=>?_
 unfold s32
 dsimp only
 refine W_r (R_box (i:=3) (n:=0) (m:=3) (cs:=[(iV (f.op)),(iV (f.arg)),(V.sl (List.map cF (f.kids)))]) rfl (congrArg Blk.ver rfl) rfl rfl rfl (R_mv rfl (R_mv rfl (R_e (W_r (R_mv rfl (R_add rfl rfl (by omega) (by omega) ?_)))))))
 refine R_mv rfl (R_e (W_seq_blockg fun Q1 n1 x1 y1 z1=>(W_r (R_mv rfl (R_gtr rfl rfl (R_mv rfl (R_e ?_)))))))
 refine W_if rfl (fun c2=>?_) fun c2=>?_
 ·
  refine W_r (R_mv rfl (R_mv rfl (R_mv rfl (R_e (W_ret (y1 _ _ ?_))))))
  refine Ret_2 (@rfl V (iV ((b)+(1:Int)))) (@rfl V (iV (11:Int))) (fz_int ?_) (fz_int ?_)
  · rw [exm_eq,if_pos (by omega)]
  · rw [exm_eq,if_pos (by omega)]
 refine W_r (R_mv rfl (R_gtr rfl rfl (R_mv rfl (R_e ?_))))
 refine W_if rfl (fun c3=>?_) fun c3=>?_
 ·
  refine W_r (R_mv rfl (R_mv rfl (R_mv rfl (R_e (W_ret (y1 _ _ ?_))))))
  refine Ret_2 (@rfl V (iV ((b)+(1:Int)))) (@rfl V (iV (16:Int))) (fz_int ?_) (fz_int ?_)
  · rw [exm_eq,if_neg (by omega),if_pos (by omega)]
  · rw [exm_eq,if_neg (by omega),if_pos (by omega)]
 refine W_r (R_lk rfl rfl rfl rfl (R_callk (rright_pure f) rfl (R_neq rfl rfl (R_mv rfl (R_e ?_)))))
 refine W_if rfl (fun c4=>?_) fun c4=>?_
 ·
  refine W_r (R_mv rfl (R_lk rfl rfl rfl rfl (R_callk (rright_pure f) rfl (R_mv rfl (R_mv rfl (R_e (W_ret ?_)))))))
  refine y1 _ _ ?_
  refine Ret_2 (@rfl V (iV ((b)+(1:Int)))) (@rfl V (iV (rgt f))) (fz_int ?_) (fz_int ?_)
  · rw [exm_eq,if_neg (by omega),if_neg (by omega),if_pos (by omega)]
  · rw [exm_eq,if_neg (by omega),if_neg (by omega),if_pos (by omega)]
 refine W_skip (n1 _ _ (.done (W_seq_seq (W_r (R_mv rfl (R_e (W_seq_blockg fun Q5 n5 x5 y5 z5=>?_)))))))
 refine W_loop (fun mm T H=> ∃ (k:Nat) (n:Int),mm=f.kids.length - k∧T 1=(iV (lv))∧T 3=(V.mp 3 1 0 0)∧T 8=(iV (n))∧T 9=(iV ((k:Nat):Int))∧H 3=(bk 1 24 3 [[(iV (f.op)),(iV (f.arg)),(V.sl (List.map cF (f.kids)))]])∧(k≤f.kids.length)∧(0≤n∧n≤4096)∧(exm f lv b=exmL (f.kids.drop k) (lv+1) n)) ?_ ?_
 ·
  refine ⟨_,0,b+1,rfl,rfl,rfl,(Eq.trans (@rfl V (iV ((b)+(1:Int)))) (by rfl)),(Eq.trans (@rfl V (iV (0:Int))) rfl),rfl,?_,?_,?_⟩
  · omega
  · omega
  · rw [exm_eq,if_neg (by omega),if_neg (by omega),if_neg (by omega)]; rfl
 intro mm T H ⟨k,n,hmm,t1,t3,t8,t9,h3,hk,hn,hc⟩ Q6 p16 p26 p36
 unfold b32_0
 refine W_seq_seq (W_r (R_mv t9 (R_fk t3 h3 (R_lk rfl h3 rfl rfl (R_len rfl (R_lss rfl rfl (R_e ?_)))))))
 refine W_seq_if rfl (fun c7=>?_) fun c7=>?_
 ·
  refine W_seq_skip (W_seq_blockg fun Q8 n8 x8 y8 z8=>(W_r (R_fk t3 h3 (R_lk rfl h3 rfl rfl (R_mv t9 (R_idxu (i:=k) (@rfl V (V.sl (List.map cF (f.kids)))) (@rfl V (iV ((k:Nat):Int))) (by omega) (cF_eq _) rfl (R_load_pp rfl rfl ?_)))))))
  refine R_mv t1 (R_add rfl rfl (by omega) (by omega) (R_mv t8 (R_callk (ih (((nth (f.kids) (k)))) (((lv)+(1:Int))) ((n)) (Fm.sz_kid (by omega)) (by omega) (by omega)) rfl (R_mv rfl (R_ext rfl rfl (R_ext rfl rfl (R_mv rfl ?_)))))))
  refine R_mv rfl (R_e (W_seq_seq (W_r (R_mv rfl (R_neq rfl rfl (R_e ?_))))))
  refine W_seq_if rfl (fun c9=>?_) fun c9=>?_
  ·
   have q0:=exm_rng (nth f.kids k) (lv+1) n
   refine W_seq_seq (W_r (R_mv rfl (R_mv rfl (R_mv rfl (R_mv rfl (R_e (W_seq_ret ?_)))))))
   refine y8 _ _ (p26 _ _ (y5 _ _ ?_))
   refine Ret_2 (@rfl V (iV ((exm (((nth (f.kids) (k)))) (((lv)+(1:Int))) ((n))).1))) (@rfl V (iV ((exm (((nth (f.kids) (k)))) (((lv)+(1:Int))) ((n))).2))) (fz_int ?_) (fz_int ?_)
   · rw [hc,exmL_yes (by omega) (by omega)]
   · rw [hc,exmL_yes (by omega) (by omega)]
  have q0:=exm_rng (nth f.kids k) (lv+1) n
  refine W_seq_skip (W_t (R_mv rfl (R_mv rfl (R_e (n8 _ _ (.done (W_t ?_)))))))
  refine R_mv t9 (R_addN rfl (@rfl V (iV ((1:Nat):Int))) (by omega) (R_mv rfl (R_e ?_)))
  refine p16 _ _ _ ?_ ⟨(k+1),(exm (nth f.kids k) (lv+1) n).1,rfl,t1,t3,(Eq.trans (@rfl V (iV ((exm (((nth (f.kids) (k)))) (((lv)+(1:Int))) ((n))).1))) (by rfl)),(Eq.trans (@rfl V (iV ((k+1:Nat):Int))) (by rfl)),h3,?_,?_,?_⟩
  · omega
  · omega
  · exact ⟨by omega,q0.2 (by omega)⟩
  · rw [hc,exmL_no (by omega) (by omega)]
 refine W_seq_exit (p36 _ _ _ (x5 _ _ (.done (W_r (R_mv t8 (R_mv rfl (R_mv rfl ?_)))))))
 refine R_e (W_ret ?_)
 refine Ret_2 (@rfl V (iV (n))) (@rfl V (iV (0:Int))) (fz_int ?_) (fz_int ?_)
 · rw [hc,exmL_end (by omega)]
 · rw [hc,exmL_end (by omega)]
theorem rexam_pure (f:Fm) (lv b:Int) (hb:0≤b∧b≤4096) (hl:0≤lv∧lv≤65):PureC Try.prog 32 [(V.agg [(iV (f.op)),(iV (f.arg)),(V.sl (List.map cF (f.kids)))]),(iV (lv)),(iV (b))] (V.tup [(iV ((exm f lv b).1)),(iV ((exm f lv b).2))]):=by
  have key: ∀ (mm:Nat) (f:Fm) (lv b:Int),f.sz < mm→0≤b∧b≤4096→0≤lv∧lv≤65→PureC Try.prog 32 [(V.agg [(iV (f.op)),(iV (f.arg)),(V.sl (List.map cF (f.kids)))]),(iV (lv)),(iV (b))] (V.tup [(iV ((exm f lv b).1)),(iV ((exm f lv b).2))]):=by
    intro mm
    induction mm with
    |zero=>intro f lv b hlt; exact absurd hlt (Nat.not_lt_zero _)
    | succ mm ih =>
      intro f lv b hlt hb hl
      exact rexam_pure_step f lv b hb hl fun f2 lv2 b2 hlt2=>ih f2 lv2 b2 (by omega)
  exact key (f.sz+1) f lv b (Nat.lt_succ_self _) hb hl
theorem rfvalid_pure (f:Fm):PureC Try.prog 15 [(V.agg [(iV (f.op)),(iV (f.arg)),(V.sl (List.map cF (f.kids)))])] (iV (fval f)):=by
 refine pW Try.func15 s15_ok fun hB=>?_
 unfold s15
 dsimp only
 refine W_r (R_box (i:=1) (n:=0) (m:=3) (cs:=[(iV (f.op)),(iV (f.arg)),(V.sl (List.map cF (f.kids)))]) rfl (congrArg Blk.ver rfl) rfl rfl rfl (R_mv rfl (R_e (W_r (R_lk rfl rfl rfl rfl (R_callk (rexam_pure f ((1:Int)) ((0:Int)) (by omega) (by omega)) rfl (R_mv rfl ?_)))))))
 refine R_ext rfl rfl (R_ext rfl rfl (R_mv rfl (R_mv rfl (R_e (W_r (R_mv rfl (R_mv rfl ?_)))))))
 refine R_e (W_ret ?_)
 refine Ret_1 (@rfl V (iV ((exm f ((1:Int)) ((0:Int))).2))) (fz_int ?_)
 · rfl
def r39_8:List SO:=[
 qF 21 0 1,
 ql 22 21,
 qM 23 3,
 qA 24 1 22 23,
 ql 25 24,
 sO 26 (.call false 63 [.t 25]),
 sO 27 (.un .not (.t 26))]
def r39_10:List SO:=[
 qL 29 1 1,
 qF 30 0 1,
 ql 31 30,
 qM 32 3,
 qA 33 1 31 32,
 ql 34 33,
 sO 35 (.call false 64 [.t 29,.t 34]),
 qM 28 35,
 qE 36 28 0,
 qE 37 28 1,
 qM 4 36,
 qM 5 37]
def b39_0:SC:=.seq (.seq (.reg [qM 14 3,qF 15 0 1,ql 16 15,qN 17 16,qP 18 .lss 14 17]) (.cond (.t 18) (.skip) (.exit 0))) (.seq (.block 1 (.seq (.seq (.reg r39_8) (.cond (.t 27) (.seq (.reg [qI 2 9]) (.ret)) (.skip))) (.seq (.reg r39_10) (.seq (.reg [qM 38 4,qM 39 3,qP 40 .lss 38 39]) (.cond (.t 40) (.seq (.reg [qI 2 7]) (.ret)) (.skip)))))) (.reg [qM 19 3,qC 20 .add 19 1,qM 3 20]))
def s39:SF:=⟨41,[.tmp 2],.seq (.reg [sO 1 (.box 37 1 (.t 0)),qI 2 0]) (.seq (.seq (.reg [qF 6 0 1,ql 7 6,qN 8 7,qC 9 .eql 8 0]) (.cond (.t 9) (.seq (.reg [qI 2 19]) (.ret)) (.skip))) (.seq (.seq (.reg [qF 10 0 1,ql 11 10,qN 12 11,qC 13 .gtr 12 64]) (.cond (.t 13) (.seq (.reg [qI 2 3]) (.ret)) (.skip))) (.seq (.seq (.reg [qI 3 0]) (.block 0 (.loop b39_0))) (.seq (.reg [qI 2 0]) (.ret)))))⟩
theorem s39_ok:slimF Try.prog ⟨[31,36,37,38,40,41,42,44,45,59,60,61,65,66,67,71,72,73,81,82,84,92,93,98,99,102,104],[],[],[]⟩ Try.f39=some s39:=by kernel_rfl
def r63_5:List SO:=[
 qM 14 4,
 sO 15 (.bin .lss (.t 14) (.c (.int .u8 97))),
 qM 16 15,
 ⟨some (16,false),some 17,.mv (.t 4)⟩,
 ⟨some (16,false),some 18,.bin .gtr (.t 17) (.c (.int .u8 122))⟩,
 sO 19 (.pick (.t 16) (.c (.bool true)) (.t 18)),
 qM 20 19,
 ⟨some (20,true),some 21,.mv (.t 4)⟩,
 ⟨some (20,true),some 22,.bin .lss (.t 21) (.c (.int .u8 65))⟩,
 ⟨some (20,true),some 23,.mv (.t 22)⟩,
 ⟨some (23,false),some 24,.mv (.t 4)⟩,
 ⟨some (23,false),some 25,.bin .gtr (.t 24) (.c (.int .u8 90))⟩,
 ⟨some (20,true),some 26,.pick (.t 23) (.c (.bool true)) (.t 25)⟩,
 sO 27 (.pick (.t 20) (.t 26) (.c (.bool false))),
 qM 28 27,
 ⟨some (28,true),some 29,.mv (.t 4)⟩,
 ⟨some (28,true),some 30,.bin .lss (.t 29) (.c (.int .u8 48))⟩,
 ⟨some (28,true),some 31,.mv (.t 30)⟩,
 ⟨some (31,false),some 32,.mv (.t 4)⟩,
 ⟨some (31,false),some 33,.bin .gtr (.t 32) (.c (.int .u8 57))⟩,
 ⟨some (28,true),some 34,.pick (.t 31) (.c (.bool true)) (.t 33)⟩,
 sO 35 (.pick (.t 28) (.t 34) (.c (.bool false))),
 qM 36 35,
 ⟨some (36,true),some 37,.mv (.t 4)⟩,
 ⟨some (36,true),some 38,.bin .neq (.t 37) (.c (.int .u8 95))⟩,
 sO 39 (.pick (.t 36) (.t 38) (.c (.bool false))),
 qM 40 39,
 ⟨some (40,true),some 41,.mv (.t 4)⟩,
 ⟨some (40,true),some 42,.bin .neq (.t 41) (.c (.int .u8 45))⟩,
 sO 43 (.pick (.t 40) (.t 42) (.c (.bool false))),
 qM 44 43,
 ⟨some (44,true),some 45,.mv (.t 4)⟩,
 ⟨some (44,true),some 46,.bin .neq (.t 45) (.c (.int .u8 46))⟩,
 sO 47 (.pick (.t 44) (.t 46) (.c (.bool false)))]
def b63_0:SC:=.seq (.seq (.reg [qM 5 3,qM 6 0,sO 7 (.slen (.t 6)),qP 8 .lss 5 7]) (.cond (.t 8) (.skip) (.exit 0))) (.seq (.block 1 (.seq (.reg [qM 11 0,qM 12 3,sO 13 (.sidx (.t 11) (.t 12)),qM 4 13]) (.seq (.reg r63_5) (.cond (.t 47) (.seq (.reg [sO 2 (.mv (.c (.bool false)))]) (.ret)) (.skip))))) (.reg [qM 9 3,qC 10 .add 9 1,qM 3 10]))
def r63_7:List SO:=[
 qM 48 0,
 sO 49 (.slen (.t 48)),
 qC 50 .geq 49 1,
 qM 51 50,
 ⟨some (51,true),some 52,.mv (.t 0)⟩,
 ⟨some (51,true),some 53,.slen (.t 52)⟩,
 ⟨some (51,true),some 54,.bin .leq (.t 53) (.c (.int .i64 32))⟩,
 sO 55 (.pick (.t 51) (.t 54) (.c (.bool false))),
 qM 2 55]
def s63:SF:=⟨56,[.tmp 2],.seq (.reg [sO 2 (.mv (.c (.bool false)))]) (.seq (.seq (.reg [qI 3 0]) (.block 0 (.loop b63_0))) (.seq (.reg r63_7) (.ret)))⟩
theorem s63_ok:slimF Try.prog ⟨[31,36,37,38,40,41,42,44,45,59,60,61,65,66,67,71,72,73,81,82,84,92,93,98,99,102,104],[],[],[]⟩ Try.f63=some s63:=by kernel_rfl
theorem rname_pure (s:List UInt8) (hl:s.length≤1048576):PureC Try.prog 63 [(V.str s)] (V.bool (nmB s)):=by
 refine pW Try.func63 s63_ok fun hB=>?_
 unfold s63
 dsimp only
 refine W_r (R_mv rfl (R_e (W_seq_seq (W_r (R_mv rfl (R_e (W_seq_blockg fun Q1 n1 x1 y1 z1=>?_)))))))
 refine W_loop (fun mm T H=> ∃ (k:Nat),mm=s.length - k∧T 0=(V.str s)∧T 3=(iV ((k:Nat):Int))∧(k≤s.length)∧(s.all ltr=(s.drop k).all ltr)) ?_ ?_
 ·
  refine ⟨_,0,rfl,rfl,(Eq.trans (@rfl V (iV (0:Int))) rfl),?_,?_⟩
  · omega
  · rfl
 intro mm T H ⟨k,hmm,t0,t3,hk,hc⟩ Q2 p12 p22 p32
 unfold b63_0
 refine W_seq_seq (W_r (R_mv t3 (R_mv t0 (R_slen (s:=s) rfl (R_lss rfl rfl (R_e ?_))))))
 refine W_seq_if rfl (fun c3=>?_) fun c3=>?_
 ·
  refine W_seq_skip (W_seq_blockg fun Q4 n4 x4 y4 z4=>(W_r (R_mv t0 (R_mv t3 (R_sidx (s:=s) (i:=k) rfl rfl (by omega) (R_mv rfl (R_e ?_)))))))
  refine W_seq_regc (fun T H=>T 0=(V.str s)∧T 3=(iV ((k:Nat):Int))∧T 47=(V.bool (decide ((((((((((nth s k).toNat:Nat):Int) < (97:Int))∨((122:Int) < (((nth s k).toNat:Nat):Int)))∧(((((nth s k).toNat:Nat):Int) < (65:Int))∨((90:Int) < (((nth s k).toNat:Nat):Int))))∧(((((nth s k).toNat:Nat):Int) < (48:Int))∨((57:Int) < (((nth s k).toNat:Nat):Int))))∧((((nth s k).toNat:Nat):Int)≠(95:Int)))∧((((nth s k).toNat:Nat):Int)≠(45:Int)))∧((((nth s k).toNat:Nat):Int)≠(46:Int)))))∧True) ?_ ?_
  ·
   refine R_mv rfl (R_lssk (x:=(((nth s k).toNat:Nat):Int)) (y:=(97:Int)) rfl rfl (R_mv rfl ?_))
   refine Ops_seg 3 (fun T H=>T 0=(V.str s)∧T 3=(iV ((k:Nat):Int))∧T 4=(u8V (nth s k))∧T 19=(V.bool (decide (((((nth s k).toNat:Nat):Int) < (97:Int))∨((122:Int) < (((nth s k).toNat:Nat):Int)))))∧True) ?_ ?_
   ·
    by_cases g5:(((nth s k).toNat:Nat):Int) < (97:Int)
    ·
     refine G_n (edT g5 rfl) (G_n (edT g5 rfl) (R_pickT (edT g5 rfl) rfl ?_))
     exact ⟨t0,t3,rfl,(dec_orT g5),trivial⟩
    ·
     refine G_yes (edF g5 rfl) (R_mv rfl (G_yes (edF g5 rfl) (R_gtrk (x:=(((nth s k).toNat:Nat):Int)) (y:=(122:Int)) rfl rfl (R_pickF (edF g5 rfl) rfl ?_))))
     exact ⟨t0,t3,rfl,(dec_orF g5),trivial⟩
   intro T H ⟨t0,t3,t4,t19,_⟩
   refine R_mv t19 ?_
   refine Ops_seg 7 (fun T H=>T 0=(V.str s)∧T 3=(iV ((k:Nat):Int))∧T 4=(u8V (nth s k))∧T 27=(V.bool (decide ((((((nth s k).toNat:Nat):Int) < (97:Int))∨((122:Int) < (((nth s k).toNat:Nat):Int)))∧(((((nth s k).toNat:Nat):Int) < (65:Int))∨((90:Int) < (((nth s k).toNat:Nat):Int))))))∧True) ?_ ?_
   ·
    by_cases g6:((((nth s k).toNat:Nat):Int) < (97:Int))∨((122:Int) < (((nth s k).toNat:Nat):Int))
    ·
     refine G_yes (edT g6 rfl) (R_mv t4 (G_yes (edT g6 rfl) (R_lssk (x:=(((nth s k).toNat:Nat):Int)) (y:=(65:Int)) rfl rfl (G_yes (edT g6 rfl) (R_mv rfl ?_)))))
     refine Ops_seg 3 (fun T H=>T 0=(V.str s)∧T 3=(iV ((k:Nat):Int))∧T 4=(u8V (nth s k))∧T 20=(V.bool true)∧T 21=(u8V (nth s k))∧T 22=(V.bool (decide ((((nth s k).toNat:Nat):Int) < (65:Int))))∧T 23=(V.bool (decide ((((nth s k).toNat:Nat):Int) < (65:Int))))∧T 26=(V.bool (decide (((((nth s k).toNat:Nat):Int) < (65:Int))∨((90:Int) < (((nth s k).toNat:Nat):Int)))))∧True) ?_ ?_
     ·
      by_cases g7:(((nth s k).toNat:Nat):Int) < (65:Int)
      ·
       refine G_n (edT g7 rfl) (G_n (edT g7 rfl) (G_yes (edT g6 rfl) (R_pickT (edT g7 rfl) rfl ?_)))
       exact ⟨t0,t3,t4,(edT g6 rfl),rfl,rfl,rfl,(dec_orT g7),trivial⟩
      ·
       refine G_yes (edF g7 rfl) (R_mv t4 (G_yes (edF g7 rfl) (R_gtrk (x:=(((nth s k).toNat:Nat):Int)) (y:=(90:Int)) rfl rfl (G_yes (edT g6 rfl) (R_pickF (edF g7 rfl) rfl ?_)))))
       exact ⟨t0,t3,t4,(edT g6 rfl),rfl,rfl,rfl,(dec_orF g7),trivial⟩
     intro T H ⟨t0,t3,t4,t20,t21,t22,t23,t26,_⟩
     refine R_pickT t20 t26 ?_
     exact ⟨t0,t3,t4,(dec_andT g6),trivial⟩
    ·
     refine G_n (edF g6 rfl) (G_n (edF g6 rfl) (G_n (edF g6 rfl) (G_raw (@rfl V (V.raw undef)) (G_raw (@rfl V (V.raw undef)) (G_n (edF g6 rfl) (R_pickF (edF g6 rfl) rfl ?_))))))
     exact ⟨t0,t3,t4,(dec_andF g6),trivial⟩
   intro T H ⟨t0,t3,t4,t27,_⟩
   refine R_mv t27 ?_
   refine Ops_seg 7 (fun T H=>T 0=(V.str s)∧T 3=(iV ((k:Nat):Int))∧T 4=(u8V (nth s k))∧T 35=(V.bool (decide (((((((nth s k).toNat:Nat):Int) < (97:Int))∨((122:Int) < (((nth s k).toNat:Nat):Int)))∧(((((nth s k).toNat:Nat):Int) < (65:Int))∨((90:Int) < (((nth s k).toNat:Nat):Int))))∧(((((nth s k).toNat:Nat):Int) < (48:Int))∨((57:Int) < (((nth s k).toNat:Nat):Int))))))∧True) ?_ ?_
   ·
    by_cases g8:(((((nth s k).toNat:Nat):Int) < (97:Int))∨((122:Int) < (((nth s k).toNat:Nat):Int)))∧(((((nth s k).toNat:Nat):Int) < (65:Int))∨((90:Int) < (((nth s k).toNat:Nat):Int)))
    ·
     refine G_yes (edT g8 rfl) (R_mv t4 (G_yes (edT g8 rfl) (R_lssk (x:=(((nth s k).toNat:Nat):Int)) (y:=(48:Int)) rfl rfl (G_yes (edT g8 rfl) (R_mv rfl ?_)))))
     refine Ops_seg 3 (fun T H=>T 0=(V.str s)∧T 3=(iV ((k:Nat):Int))∧T 4=(u8V (nth s k))∧T 28=(V.bool true)∧T 29=(u8V (nth s k))∧T 30=(V.bool (decide ((((nth s k).toNat:Nat):Int) < (48:Int))))∧T 31=(V.bool (decide ((((nth s k).toNat:Nat):Int) < (48:Int))))∧T 34=(V.bool (decide (((((nth s k).toNat:Nat):Int) < (48:Int))∨((57:Int) < (((nth s k).toNat:Nat):Int)))))∧True) ?_ ?_
     ·
      by_cases g9:(((nth s k).toNat:Nat):Int) < (48:Int)
      ·
       refine G_n (edT g9 rfl) (G_n (edT g9 rfl) (G_yes (edT g8 rfl) (R_pickT (edT g9 rfl) rfl ?_)))
       exact ⟨t0,t3,t4,(edT g8 rfl),rfl,rfl,rfl,(dec_orT g9),trivial⟩
      ·
       refine G_yes (edF g9 rfl) (R_mv t4 (G_yes (edF g9 rfl) (R_gtrk (x:=(((nth s k).toNat:Nat):Int)) (y:=(57:Int)) rfl rfl (G_yes (edT g8 rfl) (R_pickF (edF g9 rfl) rfl ?_)))))
       exact ⟨t0,t3,t4,(edT g8 rfl),rfl,rfl,rfl,(dec_orF g9),trivial⟩
     intro T H ⟨t0,t3,t4,t28,t29,t30,t31,t34,_⟩
     refine R_pickT t28 t34 ?_
     exact ⟨t0,t3,t4,(dec_andT g8),trivial⟩
    ·
     refine G_n (edF g8 rfl) (G_n (edF g8 rfl) (G_n (edF g8 rfl) (G_raw (@rfl V (V.raw undef)) (G_raw (@rfl V (V.raw undef)) (G_n (edF g8 rfl) (R_pickF (edF g8 rfl) rfl ?_))))))
     exact ⟨t0,t3,t4,(dec_andF g8),trivial⟩
   intro T H ⟨t0,t3,t4,t35,_⟩
   refine R_mv t35 ?_
   refine Ops_seg 3 (fun T H=>T 0=(V.str s)∧T 3=(iV ((k:Nat):Int))∧T 4=(u8V (nth s k))∧T 39=(V.bool (decide ((((((((nth s k).toNat:Nat):Int) < (97:Int))∨((122:Int) < (((nth s k).toNat:Nat):Int)))∧(((((nth s k).toNat:Nat):Int) < (65:Int))∨((90:Int) < (((nth s k).toNat:Nat):Int))))∧(((((nth s k).toNat:Nat):Int) < (48:Int))∨((57:Int) < (((nth s k).toNat:Nat):Int))))∧((((nth s k).toNat:Nat):Int)≠(95:Int)))))∧True) ?_ ?_
   ·
    by_cases g10:((((((nth s k).toNat:Nat):Int) < (97:Int))∨((122:Int) < (((nth s k).toNat:Nat):Int)))∧(((((nth s k).toNat:Nat):Int) < (65:Int))∨((90:Int) < (((nth s k).toNat:Nat):Int))))∧(((((nth s k).toNat:Nat):Int) < (48:Int))∨((57:Int) < (((nth s k).toNat:Nat):Int)))
    ·
     refine G_yes (edT g10 rfl) (R_mv t4 (G_yes (edT g10 rfl) (R_neqk (x:=(((nth s k).toNat:Nat):Int)) (y:=(95:Int)) rfl rfl (R_pickT (edT g10 rfl) rfl ?_))))
     exact ⟨t0,t3,t4,(dec_andT g10),trivial⟩
    ·
     refine G_n (edF g10 rfl) (G_n (edF g10 rfl) (R_pickF (edF g10 rfl) rfl ?_))
     exact ⟨t0,t3,t4,(dec_andF g10),trivial⟩
   intro T H ⟨t0,t3,t4,t39,_⟩
   refine R_mv t39 ?_
   refine Ops_seg 3 (fun T H=>T 0=(V.str s)∧T 3=(iV ((k:Nat):Int))∧T 4=(u8V (nth s k))∧T 43=(V.bool (decide (((((((((nth s k).toNat:Nat):Int) < (97:Int))∨((122:Int) < (((nth s k).toNat:Nat):Int)))∧(((((nth s k).toNat:Nat):Int) < (65:Int))∨((90:Int) < (((nth s k).toNat:Nat):Int))))∧(((((nth s k).toNat:Nat):Int) < (48:Int))∨((57:Int) < (((nth s k).toNat:Nat):Int))))∧((((nth s k).toNat:Nat):Int)≠(95:Int)))∧((((nth s k).toNat:Nat):Int)≠(45:Int)))))∧True) ?_ ?_
   ·
    by_cases g11:(((((((nth s k).toNat:Nat):Int) < (97:Int))∨((122:Int) < (((nth s k).toNat:Nat):Int)))∧(((((nth s k).toNat:Nat):Int) < (65:Int))∨((90:Int) < (((nth s k).toNat:Nat):Int))))∧(((((nth s k).toNat:Nat):Int) < (48:Int))∨((57:Int) < (((nth s k).toNat:Nat):Int))))∧((((nth s k).toNat:Nat):Int)≠(95:Int))
    ·
     refine G_yes (edT g11 rfl) (R_mv t4 (G_yes (edT g11 rfl) (R_neqk (x:=(((nth s k).toNat:Nat):Int)) (y:=(45:Int)) rfl rfl (R_pickT (edT g11 rfl) rfl ?_))))
     exact ⟨t0,t3,t4,(dec_andT g11),trivial⟩
    ·
     refine G_n (edF g11 rfl) (G_n (edF g11 rfl) (R_pickF (edF g11 rfl) rfl ?_))
     exact ⟨t0,t3,t4,(dec_andF g11),trivial⟩
   intro T H ⟨t0,t3,t4,t43,_⟩
   refine R_mv t43 ?_
   refine Ops_seg 3 (fun T H=>T 0=(V.str s)∧T 3=(iV ((k:Nat):Int))∧T 47=(V.bool (decide ((((((((((nth s k).toNat:Nat):Int) < (97:Int))∨((122:Int) < (((nth s k).toNat:Nat):Int)))∧(((((nth s k).toNat:Nat):Int) < (65:Int))∨((90:Int) < (((nth s k).toNat:Nat):Int))))∧(((((nth s k).toNat:Nat):Int) < (48:Int))∨((57:Int) < (((nth s k).toNat:Nat):Int))))∧((((nth s k).toNat:Nat):Int)≠(95:Int)))∧((((nth s k).toNat:Nat):Int)≠(45:Int)))∧((((nth s k).toNat:Nat):Int)≠(46:Int)))))∧True) ?_ ?_
   ·
    by_cases g12:((((((((nth s k).toNat:Nat):Int) < (97:Int))∨((122:Int) < (((nth s k).toNat:Nat):Int)))∧(((((nth s k).toNat:Nat):Int) < (65:Int))∨((90:Int) < (((nth s k).toNat:Nat):Int))))∧(((((nth s k).toNat:Nat):Int) < (48:Int))∨((57:Int) < (((nth s k).toNat:Nat):Int))))∧((((nth s k).toNat:Nat):Int)≠(95:Int)))∧((((nth s k).toNat:Nat):Int)≠(45:Int))
    ·
     refine G_yes (edT g12 rfl) (R_mv t4 (G_yes (edT g12 rfl) (R_neqk (x:=(((nth s k).toNat:Nat):Int)) (y:=(46:Int)) rfl rfl (R_pickT (edT g12 rfl) rfl ?_))))
     exact ⟨t0,t3,(dec_andT g12),trivial⟩
    ·
     refine G_n (edF g12 rfl) (G_n (edF g12 rfl) (R_pickF (edF g12 rfl) rfl ?_))
     exact ⟨t0,t3,(dec_andF g12),trivial⟩
   intro T H ⟨t0,t3,t47,_⟩
   exact R_nil ⟨t0,t3,t47,trivial⟩
  intro T H ⟨t0,t3,t47,_⟩
  refine W_if t47 (fun c13=>?_) fun c13=>?_
  ·
   have d1:ltr (nth s k)=false:=decide_eq_false (by omega)
   refine W_r (R_mv rfl (R_e (W_ret (y4 _ _ (p22 _ _ (y1 _ _ ?_))))))
   refine Ret_1 (@rfl V (V.bool false)) (fz_bool ?_)
   · unfold nmB; rw [hc,all_no (by omega) d1]; rfl
  have d1:ltr (nth s k)=true:=decide_eq_true (by omega)
  refine W_skip (n4 _ _ (.done (W_t (R_mv t3 (R_addN rfl (@rfl V (iV ((1:Nat):Int))) (by omega) (R_mv rfl (R_e ?_)))))))
  refine p12 _ _ _ ?_ ⟨(k+1),rfl,t0,(Eq.trans (@rfl V (iV ((k+1:Nat):Int))) (by rfl)),?_,?_⟩
  · omega
  · omega
  · rw [hc,all_step (by omega) d1]
 refine W_seq_exit (p32 _ _ _ (x1 _ _ (.done (W_r (R_mv t0 (R_slen (s:=s) rfl (R_geq rfl rfl ?_)))))))
 refine R_mv rfl ?_
 refine Ops_seg 4 (fun T H=>T 55=(V.bool (decide (((1:Int)≤((s.length:Nat):Int))∧(((s.length:Nat):Int)≤(32:Int)))))∧True) ?_ ?_
 ·
  by_cases g14:(1:Int)≤((s.length:Nat):Int)
  ·
   refine G_yes (edT g14 rfl) (R_mv t0 (G_yes (edT g14 rfl) (R_slen (s:=s) rfl (G_yes (edT g14 rfl) (R_leq rfl rfl (R_pickT (edT g14 rfl) rfl ?_))))))
   exact ⟨(dec_andT g14),trivial⟩
  ·
   refine G_n (edF g14 rfl) (G_n (edF g14 rfl) (G_n (edF g14 rfl) (R_pickF (edF g14 rfl) rfl ?_)))
   exact ⟨(dec_andF g14),trivial⟩
 intro T H ⟨t55,_⟩
 refine R_mv t55 (R_e (W_ret ?_))
 refine Ret_1 (@rfl V (V.bool (decide (((1:Int)≤((s.length:Nat):Int))∧(((s.length:Nat):Int)≤(32:Int)))))) (fz_bool ?_)
 · unfold nmB; rw [hc,all_end (by omega),Bool.true_and]; exact decide_eq_decide.2 (by omega)
def r64_4:List SO:=[
 qF 14 0 2,
 ql 15 14,
 qM 16 6,
 qA 17 1 15 16,
 ql 18 17,
 qM 19 1,
 sO 20 (.sbin .eql (.t 18) (.t 19))]
def b64_0:SC:=.seq (.seq (.reg [qM 7 6,qF 8 0 2,ql 9 8,qN 10 9,qP 11 .lss 7 10]) (.cond (.t 11) (.skip) (.exit 0))) (.seq (.block 1 (.seq (.reg r64_4) (.cond (.t 20) (.seq (.reg [qM 21 6,qM 4 21,sO 5 (.mv (.c (.bool true)))]) (.ret)) (.skip)))) (.reg [qM 12 6,qC 13 .add 12 1,qM 6 13]))
def s64:SF:=⟨22,[.tmp 4,.tmp 5],.seq (.reg [sO 2 (.box 37 1 (.t 0)),qI 4 0,sO 5 (.mv (.c (.bool false)))]) (.seq (.seq (.reg [qI 6 0]) (.block 0 (.loop b64_0))) (.seq (.reg [qI 4 0,sO 5 (.mv (.c (.bool false)))]) (.ret)))⟩
theorem s64_ok:slimF Try.prog ⟨[31,36,37,38,40,41,42,44,45,59,60,61,65,66,67,71,72,73,81,82,84,92,93,98,99,102,104],[],[],[]⟩ Try.f64=some s64:=by kernel_rfl
theorem rindex_pure (l:List (List UInt8)) (s:List UInt8):PureC Try.prog 64 [(V.agg [(V.sl (List.map cS (l)))]),(V.str s)] (V.tup [(iV (ixV l s)),(V.bool (ixB l s))]):=by
 refine pW Try.func64 s64_ok fun hB=>?_
 unfold s64
 dsimp only
 refine W_r (R_box (i:=2) (n:=0) (m:=1) (cs:=[(V.sl (List.map cS (l)))]) rfl (congrArg Blk.ver rfl) rfl rfl rfl (R_mv rfl (R_mv rfl (R_e (W_seq_seq (W_r (R_mv rfl ?_)))))))
 refine R_e (W_seq_blockg fun Q1 n1 x1 y1 z1=>?_)
 refine W_loop (fun mm T H=> ∃ (k:Nat),mm=l.length - k∧T 1=(V.str s)∧T 2=(V.mp 2 1 0 0)∧T 6=(iV ((k:Nat):Int))∧H 2=(bk 1 37 1 [[(V.sl (List.map cS (l)))]])∧(k≤l.length)∧(idxS l s=fi (fun j=>decide (nth l j=s)) k (l.length - k))) ?_ ?_
 ·
  refine ⟨_,0,rfl,rfl,rfl,(Eq.trans (@rfl V (iV (0:Int))) rfl),rfl,?_,?_⟩
  · omega
  · rfl
 intro mm T H ⟨k,hmm,t1,t2,t6,h2,hk,hc⟩ Q2 p12 p22 p32
 unfold b64_0
 refine W_seq_seq (W_r (R_mv t6 (R_fk t2 h2 (R_lk rfl h2 rfl rfl (R_len rfl (R_lss rfl rfl (R_e ?_)))))))
 refine W_seq_if rfl (fun c3=>?_) fun c3=>?_
 ·
  refine W_seq_skip (W_seq_blockg fun Q4 n4 x4 y4 z4=>(W_r (R_fk t2 h2 (R_lk rfl h2 rfl rfl (R_mv t6 (R_idx (i:=k) (@rfl V (V.sl (List.map cS (l)))) (@rfl V (iV ((k:Nat):Int))) (by omega) rfl (R_load_pp rfl rfl ?_)))))))
  refine R_mv t1 (R_seql (s:=((nth (l) (k)))) (t:=s) rfl rfl (R_e ?_))
  refine W_if rfl (fun c5=>?_) fun c5=>?_
  ·
   have d1:nth l k=s:=c5
   have d2:=idxS_hit hc (by omega) d1
   refine W_r (R_mv t6 (R_mv rfl (R_mv rfl (R_e (W_ret (y4 _ _ (p22 _ _ ?_)))))))
   refine y1 _ _ ?_
   refine Ret_2 (@rfl V (iV ((k:Nat):Int))) (@rfl V (V.bool true)) (fz_int ?_) (fz_bool ?_)
   · unfold ixV; rw [if_pos (by omega)]; exact d2.symm
   · unfold ixB; exact (decide_eq_true (by omega)).symm
  have d1: ¬nth l k=s:=c5
  refine W_skip (n4 _ _ (.done (W_t (R_mv t6 (R_addN rfl (@rfl V (iV ((1:Nat):Int))) (by omega) (R_mv rfl (R_e ?_)))))))
  refine p12 _ _ _ ?_ ⟨(k+1),rfl,t1,t2,(Eq.trans (@rfl V (iV ((k+1:Nat):Int))) (by rfl)),h2,?_,?_⟩
  · omega
  · omega
  · exact idxS_skip hc (by omega) d1
 have d2:=idxS_end hc (by omega)
 refine W_seq_exit (p32 _ _ _ (x1 _ _ (.done (W_r (R_mv rfl (R_mv rfl (R_e ?_)))))))
 refine W_ret ?_
 refine Ret_2 (@rfl V (iV (0:Int))) (@rfl V (V.bool false)) (fz_int ?_) (fz_bool ?_)
 · unfold ixV; rw [if_neg (by omega)]
 · unfold ixB; exact (decide_eq_false (by omega)).symm
theorem rav_pure (l:List (List UInt8)) (hn: ∀ k,k < l.length→(nth l k).length≤100):PureC Try.prog 39 [(V.agg [(V.sl (List.map cS (l)))])] (iV (aval l)):=by
 refine pW Try.func39 s39_ok fun hB=>?_
 unfold s39
 dsimp only
 refine W_r (R_box (i:=1) (n:=0) (m:=1) (cs:=[(V.sl (List.map cS (l)))]) rfl (congrArg Blk.ver rfl) rfl rfl rfl (R_mv rfl (R_e (W_seq_seq (W_r (R_fk rfl rfl (R_lk rfl rfl rfl rfl ?_)))))))
 refine R_len rfl (R_eql rfl rfl (R_e ?_))
 refine W_seq_if rfl (fun c1=>?_) fun c1=>?_
 ·
  refine W_seq_seq (W_r (R_mv rfl (R_e (W_seq_ret ?_))))
  refine Ret_1 (@rfl V (iV (19:Int))) (fz_int ?_)
  · unfold aval; rw [if_pos (by omega)]
 refine W_seq_skip (W_seq_seq (W_r (R_fk rfl rfl (R_lk rfl rfl rfl rfl (R_len rfl (R_gtr rfl rfl (R_e ?_)))))))
 refine W_seq_if rfl (fun c2=>?_) fun c2=>?_
 ·
  refine W_seq_seq (W_r (R_mv rfl (R_e (W_seq_ret ?_))))
  refine Ret_1 (@rfl V (iV (3:Int))) (fz_int ?_)
  · unfold aval; rw [if_neg (by omega),if_pos (by omega)]
 refine W_seq_skip (W_seq_seq (W_r (R_mv rfl (R_e (W_seq_blockg fun Q3 n3 x3 y3 z3=>?_)))))
 refine W_loop (fun mm T H=> ∃ (k:Nat),mm=l.length - k∧T 1=(V.mp 1 1 0 0)∧T 3=(iV ((k:Nat):Int))∧H 1=(bk 1 37 1 [[(V.sl (List.map cS (l)))]])∧(k≤l.length)∧(aval l=fe (avE l) k (l.length - k))) ?_ ?_
 ·
  refine ⟨_,0,rfl,rfl,(Eq.trans (@rfl V (iV (0:Int))) rfl),rfl,?_,?_⟩
  · omega
  · unfold aval; rw [if_neg (by omega),if_neg (by omega)]; rfl
 intro mm T H ⟨k,hmm,t1,t3,h1,hk,hc⟩ Q4 p14 p24 p34
 unfold b39_0
 refine W_seq_seq (W_r (R_mv t3 (R_fk t1 h1 (R_lk rfl h1 rfl rfl (R_len rfl (R_lss rfl rfl (R_e ?_)))))))
 refine W_seq_if rfl (fun c5=>?_) fun c5=>?_
 ·
  refine W_seq_skip (W_seq_blockg fun Q6 n6 x6 y6 z6=>(W_seq_seq (W_r (R_fk t1 h1 (R_lk rfl h1 rfl rfl (R_mv t3 (R_idx (i:=k) (@rfl V (V.sl (List.map cS (l)))) (@rfl V (iV ((k:Nat):Int))) (by omega) rfl ?_)))))))
  refine R_load_pp rfl rfl (R_callk (rname_pure ((nth (l) (k))) (Nat.le_trans (hn k (by omega)) (by decide))) rfl (R_notb rfl (R_e ?_)))
  refine W_seq_ifb rfl (fun c7=>?_) (fun c7=>?_)
  ·
   have d1:nmB (nth l k)=false:=by simpa using c7
   refine W_seq_seq (W_r (R_mv rfl (R_e (W_seq_ret (y6 _ _ (p24 _ _ (y3 _ _ ?_)))))))
   refine Ret_1 (@rfl V (iV (9:Int))) (fz_int ?_)
   · rw [hc,fe_hit (by unfold avE; rw [if_pos d1]; decide) (by omega)]; unfold avE; rw [if_pos d1]
  have d1:nmB (nth l k)=true:=by simpa using c7
  refine W_seq_skip (W_r (R_lk t1 h1 rfl rfl (R_fk t1 h1 (R_lk rfl h1 rfl rfl (R_mv t3 (R_idx (i:=k) (@rfl V (V.sl (List.map cS (l)))) (@rfl V (iV ((k:Nat):Int))) (by omega) rfl (R_load_pp rfl rfl ?_)))))))
  refine R_callk (rindex_pure l ((nth (l) (k)))) rfl (R_mv rfl (R_ext rfl rfl (R_ext rfl rfl (R_mv rfl (R_mv rfl (R_e (W_r ?_)))))))
  refine R_mv rfl (R_mv t3 (R_lss rfl rfl (R_e ?_)))
  refine W_if rfl (fun c8=>?_) fun c8=>?_
  ·
   have d2:dupB l k=true:=by unfold dupB; rw [← dup_ix (by omega)]; exact decide_eq_true c8
   refine W_r (R_mv rfl (R_e (W_ret (y6 _ _ (p24 _ _ (y3 _ _ ?_))))))
   refine Ret_1 (@rfl V (iV (7:Int))) (fz_int ?_)
   · rw [hc,fe_hit (by unfold avE; rw [if_neg (by simp [d1]),if_pos d2]; decide) (by omega)]; unfold avE; rw [if_neg (by simp [d1]),if_pos d2]
  have d2:dupB l k=false:=by unfold dupB; rw [← dup_ix (by omega)]; exact decide_eq_false c8
  refine W_skip (n6 _ _ (.done (W_t (R_mv t3 (R_addN rfl (@rfl V (iV ((1:Nat):Int))) (by omega) (R_mv rfl (R_e ?_)))))))
  refine p14 _ _ _ ?_ ⟨(k+1),rfl,t1,(Eq.trans (@rfl V (iV ((k+1:Nat):Int))) (by rfl)),h1,?_,?_⟩
  · omega
  · omega
  · rw [hc,fe_skip (by unfold avE; rw [if_neg (by simp [d1]),if_neg (by simp [d2])]) (by omega)]
 refine W_seq_exit (p34 _ _ _ (x3 _ _ (.done (W_r (R_mv rfl (R_e (W_ret ?_)))))))
 refine Ret_1 (@rfl V (iV (0:Int))) (fz_int ?_)
 · rw [hc,fe_end (by omega)]
def r40_6:List SO:=[
 qM 15 0,
 sO 16 (.nilck (.t 15)),
 qF 17 4 16,
 ql 18 17,
 qC 19 .sub 18 1,
 sO 20 (.nilck (.t 15)),
 qF 21 4 20,
 sN (.store 1 (.t 21) (.t 19))]
def r40_7:List SO:=[
 qL 22 3 3,
 sO 23 (.bslice 24 3 false [.int .i64 0,.int .i64 0,.nilsl] 1 [(0,.t 22)]),
 sO 24 (.call false 52 [.c (.int .i64 4),.t 23]),
 qL 25 3 4,
 sO 26 (.bslice 24 3 false [.int .i64 0,.int .i64 0,.nilsl] 2 [(0,.t 24),(1,.t 25)]),
 sO 27 (.call false 52 [.c (.int .i64 6),.t 26]),
 sN (.store 3 (.t 2) (.t 27))]
def s40:SF:=⟨28,[.cell 2 true 3],.seq (.reg [sO 2 (.alloc 24 [.int .i64 0,.int .i64 0,.nilsl])]) (.seq (.seq (.reg [qM 5 0]) (.seq (.pop (some 6) (.call 65 [.t 5])) (.reg [sO 3 (.alloc 24 [.int .i64 0,.int .i64 0,.nilsl]),sN (.store 3 (.t 3) (.t 6))]))) (.seq (.seq (.seq (.reg [qM 7 0]) (.seq (.pop (some 8) (.call 66 [.t 7,.c (.str [45,62])])) (.reg [sO 9 (.un .not (.t 8))]))) (.cond (.t 9) (.seq (.reg [qL 10 3 3,sN (.store 3 (.t 2) (.t 10))]) (.ret)) (.skip))) (.seq (.seq (.reg [qM 11 0]) (.seq (.pop (some 12) (.call 67 [.t 11])) (.reg []))) (.seq (.seq (.reg [qM 13 0]) (.seq (.pop (some 14) (.call 40 [.t 13])) (.reg [sO 4 (.alloc 24 [.int .i64 0,.int .i64 0,.nilsl]),sN (.store 3 (.t 4) (.t 14))]))) (.seq (.reg r40_6) (.seq (.reg r40_7) (.ret)))))))⟩
theorem s40_ok:slimF Try.prog ⟨[31,36,37,38,40,41,42,44,45,59,60,61,65,66,67,71,72,73,81,82,84,92,93,98,99,102,104],[],[36,37,38,40,41,42,59,60,61,65,66,67,81,82,92,93,98,99,102,104],[]⟩ Try.f40=some s40:=by kernel_rfl
def s52:SF:=⟨8,[.cell 4 true 3],.seq (.reg [sO 4 (.alloc 24 [.int .i64 0,.int .i64 0,.nilsl])]) (.seq (.reg [qM 5 0,qM 6 1,sO 7 (.build [.int .i64 0,.int .i64 0,.nilsl] [(0,1,.t 5),(2,1,.t 6)]),sN (.store 3 (.t 4) (.t 7))]) (.ret))⟩
theorem s52_ok:slimF Try.prog ⟨[31,36,37,38,40,41,42,44,45,59,60,61,65,66,67,71,72,73,81,82,84,92,93,98,99,102,104],[],[],[]⟩ Try.f52=some s52:=by kernel_rfl
theorem rnode_pure (o:Int) (l:List Fm):PureC Try.prog 52 [(iV (o)),(V.sl (List.map cF (l)))] (V.agg [(iV (o)),(iV (0:Int)),(V.sl (List.map cF (l)))]):=by
 refine pW Try.func52 s52_ok fun hB=>?_
 unfold s52
 dsimp only
 refine W_r (R_alloc (i:=4) (n:=0) (m:=3) rfl (congrArg Blk.ver rfl) rfl (R_e (W_r (R_mv rfl (R_mv rfl (R_build rfl rfl (R_sk rfl rfl rfl rfl rfl rfl rfl rfl rfl ?_)))))))
 refine R_e (W_ret ?_)
 refine RetC_1 (resV_c (u:=(V.agg [(iV (o)),(iV (0:Int)),(V.sl (List.map cF (l)))])) rfl (@rfl Blk (bk 1 24 3 [[(iV (o)),(iV (0:Int)),(V.sl (List.map cF (l)))]])) (lB oB rfl rfl)) (fz_canon (by simp) rfl)
def r66_2001:List SO:=[
 qM 7 1,
 sO 8 (.sbin .neq (.t 6) (.t 7)),
 qM 9 8,
 ⟨some (9,false),some 10,.mv (.t 0)⟩,
 ⟨some (9,false),some 11,.nilck (.t 10)⟩,
 ⟨some (9,false),some 12,.fld 5 (.t 11)⟩,
 ⟨some (9,false),some 13,.load false 1 (.t 12)⟩,
 ⟨some (9,false),some 14,.bin .neq (.t 13) (.c (.int .i64 0))⟩,
 sO 15 (.pick (.t 9) (.c (.bool true)) (.t 14))]
def r66_3:List SO:=[
 qM 16 0,
 qM 17 0,
 sO 18 (.nilck (.t 17)),
 qF 19 3 18,
 ql 20 19,
 qM 21 1,
 sO 22 (.slen (.t 21)),
 qP 23 .add 20 22,
 sO 24 (.nilck (.t 16)),
 qF 25 3 24,
 sN (.store 1 (.t 25) (.t 23))]
def s66:SF:=⟨26,[.tmp 4],.seq (.reg [sO 4 (.mv (.c (.bool false)))]) (.seq (.seq (.seq (.reg [qM 5 0]) (.seq (.pop (some 6) (.call 41 [.t 5])) (.reg r66_2001))) (.cond (.t 15) (.seq (.reg [sO 4 (.mv (.c (.bool false)))]) (.ret)) (.skip))) (.seq (.reg r66_3) (.seq (.reg [sO 4 (.mv (.c (.bool true)))]) (.ret))))⟩
theorem s66_ok:slimF Try.prog ⟨[31,36,37,38,40,41,42,44,45,59,60,61,65,66,67,71,72,73,81,82,84,92,93,98,99,102,104],[],[36,37,38,40,41,42,59,60,61,65,66,67,81,82,92,93,98,99,102,104],[]⟩ Try.f66=some s66:=by kernel_rfl
def r41_1:List SO:=[
 qM 5 0,
 sO 6 (.nilck (.t 5)),
 qF 7 3 6,
 ql 8 7,
 qM 9 0,
 sO 10 (.nilck (.t 9)),
 qF 11 2 10,
 ql 12 11,
 sO 13 (.slen (.t 12)),
 qP 14 .lss 8 13,
 qM 15 14,
 ⟨some (15,true),some 16,.mv (.t 0)⟩,
 ⟨some (15,true),some 17,.nilck (.t 16)⟩,
 ⟨some (15,true),some 18,.fld 2 (.t 17)⟩,
 ⟨some (15,true),some 19,.load false 1 (.t 18)⟩,
 ⟨some (15,true),some 20,.mv (.t 0)⟩,
 ⟨some (15,true),some 21,.nilck (.t 20)⟩,
 ⟨some (15,true),some 22,.fld 3 (.t 21)⟩,
 ⟨some (15,true),some 23,.load false 1 (.t 22)⟩,
 ⟨some (15,true),some 24,.sidx (.t 19) (.t 23)⟩,
 ⟨some (15,true),some 25,.bin .eql (.t 24) (.c (.int .u8 32))⟩,
 sO 26 (.pick (.t 15) (.t 25) (.c (.bool false)))]
def r41_2:List SO:=[
 qM 27 0,
 sO 28 (.nilck (.t 27)),
 qF 29 3 28,
 ql 30 29,
 qC 31 .add 30 1,
 sO 32 (.nilck (.t 27)),
 qF 33 3 32,
 sN (.store 1 (.t 33) (.t 31))]
def b41_0:SC:=.seq (.seq (.reg r41_1) (.cond (.t 26) (.skip) (.exit 0))) (.block 1 (.reg r41_2))
def r41_3:List SO:=[
 qM 34 0,
 sO 35 (.nilck (.t 34)),
 qF 36 5 35,
 ql 37 36,
 qC 38 .neq 37 0,
 qM 39 38,
 ⟨some (39,false),some 40,.mv (.t 0)⟩,
 ⟨some (39,false),some 41,.nilck (.t 40)⟩,
 ⟨some (39,false),some 42,.fld 3 (.t 41)⟩,
 ⟨some (39,false),some 43,.load false 1 (.t 42)⟩,
 ⟨some (39,false),some 44,.mv (.t 0)⟩,
 ⟨some (39,false),some 45,.nilck (.t 44)⟩,
 ⟨some (39,false),some 46,.fld 2 (.t 45)⟩,
 ⟨some (39,false),some 47,.load false 1 (.t 46)⟩,
 ⟨some (39,false),some 48,.slen (.t 47)⟩,
 ⟨some (39,false),some 49,.bin .eql (.t 43) (.t 48)⟩,
 sO 50 (.pick (.t 39) (.c (.bool true)) (.t 49))]
def r41_6:List SO:=[
 qM 55 3,
 qM 56 0,
 sO 57 (.nilck (.t 56)),
 qF 58 2 57,
 ql 59 58,
 sO 60 (.slen (.t 59)),
 qP 61 .lss 55 60,
 qM 62 61,
 ⟨some (62,true),some 63,.mv (.t 0)⟩,
 ⟨some (62,true),some 64,.nilck (.t 63)⟩,
 ⟨some (62,true),some 65,.fld 2 (.t 64)⟩,
 ⟨some (62,true),some 66,.load false 1 (.t 65)⟩,
 ⟨some (62,true),some 67,.mv (.t 3)⟩,
 ⟨some (62,true),some 68,.sidx (.t 66) (.t 67)⟩,
 ⟨some (62,true),some 69,.call false 68 [.t 68]⟩,
 sO 70 (.pick (.t 62) (.t 69) (.c (.bool false)))]
def b41_1:SC:=.seq (.seq (.reg r41_6) (.cond (.t 70) (.skip) (.exit 2))) (.block 3 (.reg [qM 71 3,qC 72 .add 71 1,qM 3 72]))
def r41_8:List SO:=[
 qM 73 0,
 sO 74 (.nilck (.t 73)),
 qF 75 2 74,
 ql 76 75,
 qM 77 0,
 sO 78 (.nilck (.t 77)),
 qF 79 3 78,
 ql 80 79,
 sO 81 (.sidx (.t 76) (.t 80)),
 qM 4 81]
def r41_9:List SO:=[
 qM 83 3,
 qC 84 .add 83 1,
 qM 85 0,
 sO 86 (.nilck (.t 85)),
 qF 87 3 86,
 ql 88 87,
 qC 89 .add 88 2,
 qP 90 .eql 84 89,
 qM 91 90,
 ⟨some (91,true),some 92,.mv (.t 4)⟩,
 ⟨some (91,true),some 93,.bin .eql (.t 92) (.c (.int .u8 45))⟩,
 sO 94 (.pick (.t 91) (.t 93) (.c (.bool false))),
 qM 95 94,
 ⟨some (95,true),some 96,.mv (.t 3)⟩,
 ⟨some (95,true),some 97,.mv (.t 0)⟩,
 ⟨some (95,true),some 98,.nilck (.t 97)⟩,
 ⟨some (95,true),some 99,.fld 2 (.t 98)⟩,
 ⟨some (95,true),some 100,.load false 1 (.t 99)⟩,
 ⟨some (95,true),some 101,.slen (.t 100)⟩,
 ⟨some (95,true),some 102,.bin .lss (.t 96) (.t 101)⟩,
 sO 103 (.pick (.t 95) (.t 102) (.c (.bool false))),
 qM 104 103,
 ⟨some (104,true),some 105,.mv (.t 0)⟩,
 ⟨some (104,true),some 106,.nilck (.t 105)⟩,
 ⟨some (104,true),some 107,.fld 2 (.t 106)⟩,
 ⟨some (104,true),some 108,.load false 1 (.t 107)⟩,
 ⟨some (104,true),some 109,.mv (.t 3)⟩,
 ⟨some (104,true),some 110,.sidx (.t 108) (.t 109)⟩,
 ⟨some (104,true),some 111,.bin .eql (.t 110) (.c (.int .u8 62))⟩,
 sO 112 (.pick (.t 104) (.t 111) (.c (.bool false))),
 qM 82 112]
def r41_11:List SO:=[
 qM 114 3,
 qM 115 0,
 sO 116 (.nilck (.t 115)),
 qF 117 3 116,
 ql 118 117,
 qP 119 .gtr 114 118,
 qM 113 119]
def r41_12:List SO:=[
 qM 120 0,
 sO 121 (.nilck (.t 120)),
 qF 122 2 121,
 ql 123 122,
 qM 124 0,
 sO 125 (.nilck (.t 124)),
 qF 126 3 125,
 ql 127 126,
 qM 128 3,
 sO 129 (.sslice (.t 123) (some (.t 127)) (some (.t 128))),
 qM 2 129]
def r41_13:List SO:=[
 qM 131 4,
 sO 132 (.bin .eql (.t 131) (.c (.int .u8 33))),
 qM 133 132,
 ⟨some (133,false),some 134,.mv (.t 4)⟩,
 ⟨some (133,false),some 135,.bin .eql (.t 134) (.c (.int .u8 38))⟩,
 sO 136 (.pick (.t 133) (.c (.bool true)) (.t 135)),
 qM 137 136,
 ⟨some (137,false),some 138,.mv (.t 4)⟩,
 ⟨some (137,false),some 139,.bin .eql (.t 138) (.c (.int .u8 124))⟩,
 sO 140 (.pick (.t 137) (.c (.bool true)) (.t 139)),
 qM 141 140,
 ⟨some (141,false),some 142,.mv (.t 4)⟩,
 ⟨some (141,false),some 143,.bin .eql (.t 142) (.c (.int .u8 40))⟩,
 sO 144 (.pick (.t 141) (.c (.bool true)) (.t 143)),
 qM 145 144,
 ⟨some (145,false),some 146,.mv (.t 4)⟩,
 ⟨some (145,false),some 147,.bin .eql (.t 146) (.c (.int .u8 41))⟩,
 sO 148 (.pick (.t 145) (.c (.bool true)) (.t 147)),
 qM 130 148]
def s41:SF:=⟨154,[.tmp 2],.seq (.reg [sO 2 (.mv (.c (.str [])))]) (.seq (.block 0 (.loop b41_0)) (.seq (.seq (.reg r41_3) (.cond (.t 50) (.seq (.reg [sO 2 (.mv (.c (.str [])))]) (.ret)) (.skip))) (.seq (.reg [qM 51 0,sO 52 (.nilck (.t 51)),qF 53 3 52,ql 54 53,qM 3 54]) (.seq (.block 2 (.loop b41_1)) (.seq (.reg r41_8) (.seq (.block 4 (.seq (.reg r41_9) (.cond (.t 82) (.seq (.reg [sO 2 (.mv (.c (.str [45,62])))]) (.ret)) (.seq (.reg r41_11) (.cond (.t 113) (.seq (.reg r41_12) (.ret)) (.seq (.reg r41_13) (.cond (.t 130) (.seq (.reg [qM 149 4,sO 150 (.bslice 5 1 false [.int .u8 0] 1 [(0,.t 149)]),sO 151 (.bstr (.t 150)),qM 2 151]) (.ret)) (.skip)))))))) (.seq (.seq (.reg [qM 152 0]) (.seq (.pop (some 153) (.call 42 [.t 152,.c (.int .i64 5)])) (.reg []))) (.seq (.reg [sO 2 (.mv (.c (.str [])))]) (.ret)))))))))⟩
theorem s41_ok:slimF Try.prog ⟨[31,36,37,38,40,41,42,44,45,59,60,61,65,66,67,71,72,73,81,82,84,92,93,98,99,102,104],[],[36,37,38,40,41,42,59,60,61,65,66,67,81,82,92,93,98,99,102,104],[]⟩ Try.f41=some s41:=by kernel_rfl
def r42_2:List SO:=[
 qM 13 0,
 qM 14 0,
 sO 15 (.nilck (.t 14)),
 qF 16 3 15,
 ql 17 16,
 sO 18 (.nilck (.t 13)),
 qF 19 6 18,
 sN (.store 1 (.t 19) (.t 17))]
def s42:SF:=⟨20,[],.seq (.reg [qM 4 0,sO 5 (.nilck (.t 4)),qF 6 5 5,ql 7 6,qC 8 .eql 7 0]) (.cond (.t 8) (.seq (.reg [qM 9 0,qM 10 1,sO 11 (.nilck (.t 9)),qF 12 5 11,sN (.store 1 (.t 12) (.t 10))]) (.reg r42_2)) (.skip))⟩
theorem s42_ok:slimF Try.prog ⟨[31,36,37,38,40,41,42,44,45,59,60,61,65,66,67,71,72,73,81,82,84,92,93,98,99,102,104],[],[],[]⟩ Try.f42=some s42:=by kernel_rfl
theorem rfail_loc (v:Nat) (e:PE) (s:RS) (x:Int):LocC Try.prog 42 1 [(V.mp 0 v 0 0),(iV (x))] (hpB (bk v 85 7 [[(V.sl (List.map cS (e.ia))),(V.sl (List.map cS (e.oa))),(V.str e.src),(iV ((s.pos:Nat):Int)),(iV (s.dep)),(iV (s.er)),(iV ((s.wh:Nat):Int))]])) (.ok (.tup []) (hpB (bk v 85 7 [rCells e (rFail s x)]))):=by
 refine lW (k0:=0) Try.func42 s42_ok fun hB=>?_
 unfold s42
 dsimp only

 refine W_r (R_mv rfl (R_nilck_mp rfl rfl oB (R_fk rfl rfl (R_lk rfl rfl rfl rfl (R_eql rfl rfl (R_e ?_))))))
 refine W_if rfl (fun c1=>?_) fun c1=>?_
 ·
  have d1:s.er=0:=c1
  refine W_r (R_mv rfl (R_mv rfl (R_nilck_mp rfl rfl oB (R_fk rfl rfl (R_sk rfl rfl rfl rfl rfl rfl rfl rfl rfl (R_e (W_t ?_)))))))
  refine R_mv rfl (R_mv rfl (R_nilck_mp rfl rfl oB (R_fk rfl rfl (R_lk rfl rfl rfl rfl (R_nilck_mp rfl rfl oB (R_fk rfl rfl (R_sk rfl rfl rfl rfl rfl rfl rfl rfl rfl ?_)))))))
  refine R_e ?_
  refine RetL_okn (v:=(V.tup [])) (b:=(bk v 85 7 [[(V.sl (List.map cS (e.ia))),(V.sl (List.map cS (e.oa))),(V.str e.src),(iV ((s.pos:Nat):Int)),(iV (s.dep)),(iV (x)),(iV ((s.pos:Nat):Int))]])) rfl ?_ (by simp) (.same (cut_fin 1 _) _) (@rfl Blk (bk v 85 7 [[(V.sl (List.map cS (e.ia))),(V.sl (List.map cS (e.oa))),(V.str e.src),(iV ((s.pos:Nat):Int)),(iV (s.dep)),(iV (x)),(iV ((s.pos:Nat):Int))]])) (by simp [locB,loc0])
  simp only [rFail,if_pos d1]; rfl
 have d1: ¬s.er=0:=c1
 refine W_skip ?_
 refine RetL_okn (v:=(V.tup [])) (b:=(bk v 85 7 [[(V.sl (List.map cS (e.ia))),(V.sl (List.map cS (e.oa))),(V.str e.src),(iV ((s.pos:Nat):Int)),(iV (s.dep)),(iV (s.er)),(iV ((s.wh:Nat):Int))]])) rfl ?_ (by simp) (.same (cut_fin 1 _) _) (@rfl Blk (bk v 85 7 [[(V.sl (List.map cS (e.ia))),(V.sl (List.map cS (e.oa))),(V.str e.src),(iV ((s.pos:Nat):Int)),(iV (s.dep)),(iV (s.er)),(iV ((s.wh:Nat):Int))]])) (by simp [locB,loc0])
 simp only [rFail,if_neg d1]; rfl
def r68_1:List SO:=[
 qM 3 0,
 sO 4 (.bslice 5 1 false [.int .u8 0] 1 [(0,.t 3)]),
 sO 5 (.bstr (.t 4)),
 sO 6 (.call false 63 [.t 5]),
 qM 7 6,
 ⟨some (7,false),some 8,.mv (.t 0)⟩,
 ⟨some (7,false),some 9,.bin .eql (.t 8) (.c (.int .u8 58))⟩,
 sO 10 (.pick (.t 7) (.c (.bool true)) (.t 9)),
 qM 2 10]
def s68:SF:=⟨11,[.tmp 2],.seq (.reg [sO 2 (.mv (.c (.bool false)))]) (.seq (.reg r68_1) (.ret))⟩
theorem s68_ok:slimF Try.prog ⟨[31,36,37,38,40,41,42,44,45,59,60,61,65,66,67,71,72,73,81,82,84,92,93,98,99,102,104],[],[],[]⟩ Try.f68=some s68:=by kernel_rfl
theorem wordbyte_pure (c:UInt8):PureC Try.prog 68 [(u8V c)] (V.bool (wby c)):=by
 refine pW Try.func68 s68_ok fun hB=>?_
 unfold s68
 dsimp only
 refine W_r (R_mv rfl (R_e (W_r (R_mv rfl (R_bslice rfl rfl (R_bstr1 (@rfl V (V.sl [[(u8V c)]])) (R_callk (rname_pure ([c]) (by simp)) rfl ?_)))))))
 refine R_mv rfl ?_
 refine Ops_seg 3 (fun T H=>T 10=(V.bool (((nmB ([c]))||decide ((((c).toNat:Nat):Int)=(58:Int)))))∧True) ?_ ?_
 ·
  by_cases g1:(nmB ([c]))=true
  ·
   refine G_n (ebT g1 rfl) (G_n (ebT g1 rfl) (R_pickT (ebT g1 rfl) rfl ?_))
   exact ⟨(borT g1),trivial⟩
  ·
   refine G_yes (ebF g1 rfl) (R_mv rfl (G_yes (ebF g1 rfl) (R_eqlk (x:=(((c).toNat:Nat):Int)) (y:=(58:Int)) rfl rfl (R_pickF (ebF g1 rfl) rfl ?_))))
   exact ⟨(borF g1),trivial⟩
 intro T H ⟨t10,_⟩
 refine R_mv t10 (R_e (W_ret ?_))
 refine Ret_1 (@rfl V (V.bool (((nmB ([c]))||decide ((((c).toNat:Nat):Int)=(58:Int)))))) (fz_bool ?_)
 · unfold wby nmB; simp [Int.natCast_inj]; try (congr 1; exact decide_eq_decide.2 (by omega))
theorem rnext_loc (v:Nat) (e:PE) (s:RS) (hs:OkR e s):LocC Try.prog 41 1 [(V.mp 0 v 0 0)] (hpB (bk v 85 7 [[(V.sl (List.map cS (e.ia))),(V.sl (List.map cS (e.oa))),(V.str e.src),(iV ((s.pos:Nat):Int)),(iV (s.dep)),(iV (s.er)),(iV ((s.wh:Nat):Int))]])) (.ok (.str (rNext e s).1) (hpB (bk v 85 7 [rCells e (rNext e s).2]))):=by
 refine lW (k0:=0) Try.func41 s41_ok fun hB=>?_
 unfold s41
 dsimp only
 have hlen:=hs.len
 have hpos:=hs.pos
 have hd0:=hs.d0
 have hd1:=hs.d1
 have hd2:=hs.d2
 refine W_r (R_mv rfl (R_e (W_seq_blockgP fun Q1 n1 x1 y1 z1 w1=>?_)))
 refine W_loopP (fun mm T H=> ∃ (p:Nat),mm=e.src.length - p∧T 0=(V.mp 0 v 0 0)∧H 0=(bk v 85 7 [[(V.sl (List.map cS (e.ia))),(V.sl (List.map cS (e.oa))),(V.str e.src),(iV ((p:Nat):Int)),(iV (s.dep)),(iV (s.er)),(iV ((s.wh:Nat):Int))]])∧(p≤e.src.length)∧(skp (e.src.drop s.pos) s.pos=skp (e.src.drop p) p)) ?_ ?_
 ·
  refine ⟨_,s.pos,rfl,rfl,rfl,?_,?_⟩
  · omega
  · rfl
 intro mm T H ⟨p,hmm,t0,h0,hp,hc⟩ Q2 p12 p22 p32 p42
 unfold b41_0
 refine W_seq_seq (W_r (R_mv t0 (R_nilck_mp rfl h0 oB (R_fk rfl h0 (R_lk rfl h0 rfl rfl (R_mv t0 (R_nilck_mp rfl h0 oB ?_)))))))
 refine R_fk rfl h0 (R_lk rfl h0 rfl rfl (R_slen (s:=e.src) rfl (R_lss rfl rfl (R_mv rfl ?_))))
 refine Ops_seg 11 (fun T H=>T 0=(V.mp 0 v 0 0)∧T 26=(V.bool (decide ((((p:Nat):Int) < ((e.src.length:Nat):Int))∧((((nth e.src p).toNat:Nat):Int)=(32:Int)))))∧H 0=(bk v 85 7 [[(V.sl (List.map cS (e.ia))),(V.sl (List.map cS (e.oa))),(V.str e.src),(iV ((p:Nat):Int)),(iV (s.dep)),(iV (s.er)),(iV ((s.wh:Nat):Int))]])∧True) ?_ ?_
 ·
  by_cases g3:((p:Nat):Int) < ((e.src.length:Nat):Int)
  ·
   refine G_yes (edT g3 rfl) (R_mv t0 (G_yes (edT g3 rfl) (R_nilck_mp rfl h0 oB (G_yes (edT g3 rfl) (R_fk rfl h0 (G_yes (edT g3 rfl) (R_lk rfl h0 rfl rfl ?_)))))))
   refine G_yes (edT g3 rfl) (R_mv t0 (G_yes (edT g3 rfl) (R_nilck_mp rfl h0 oB (G_yes (edT g3 rfl) (R_fk rfl h0 (G_yes (edT g3 rfl) (R_lk rfl h0 rfl rfl ?_)))))))
   refine G_yes (edT g3 rfl) (R_sidx (s:=e.src) (i:=p) rfl rfl (by omega) (G_yes (edT g3 rfl) (R_eqlk (x:=(((nth e.src p).toNat:Nat):Int)) (y:=(32:Int)) rfl rfl (R_pickT (edT g3 rfl) rfl ?_))))
   exact ⟨t0,(dec_andT g3),h0,trivial⟩
  ·
   refine G_n (edF g3 rfl) (G_n (edF g3 rfl) (G_n (edF g3 rfl) (G_n (edF g3 rfl) (G_n (edF g3 rfl) (G_n (edF g3 rfl) (G_n (edF g3 rfl) (G_n (edF g3 rfl) ?_)))))))
   refine G_n (edF g3 rfl) (G_n (edF g3 rfl) (R_pickF (edF g3 rfl) rfl ?_))
   exact ⟨t0,(dec_andF g3),h0,trivial⟩
 intro T H ⟨t0,t26,h0,_⟩
 refine R_e ?_
 refine W_seq_if t26 (fun c4=>?_) fun c4=>?_
 ·
  have d1:=c4
  refine W_seq_skip (W_blockP fun Q5 n5 x5 y5 z5 w5=>(W_t (R_mv t0 (R_nilck_mp rfl h0 oB (R_fk rfl h0 (R_lk rfl h0 rfl rfl (R_addN rfl (@rfl V (iV ((1:Nat):Int))) (by omega) ?_)))))))
  refine R_nilck_mp rfl h0 oB (R_fk rfl h0 (R_sk rfl rfl rfl h0 rfl rfl rfl rfl rfl (R_e (n5 _ _ ?_))))
  refine p12 _ _ _ ?_ ⟨(p+1),rfl,t0,(Eq.trans (@rfl Blk (bk v 85 7 [[(V.sl (List.map cS (e.ia))),(V.sl (List.map cS (e.oa))),(V.str e.src),(iV ((p+1:Nat):Int)),(iV (s.dep)),(iV (s.er)),(iV ((s.wh:Nat):Int))]])) (by rfl)),?_,?_⟩
  · omega
  · omega
  · rw [hc,skp_step (by omega) d1.2]
 have hs1:rSkp e s=p:=by unfold rSkp; rw [hc]; exact skp_stop c4
 refine W_seq_exit (p32 _ _ _ (x1 _ _ (.done (W_seq_seq (W_r (R_mv t0 (R_nilck_mp rfl h0 oB ?_)))))))
 refine R_fk rfl h0 (R_lk rfl h0 rfl rfl (R_neq rfl rfl (R_mv rfl ?_)))
 refine Ops_seg 11 (fun T H=>T 0=(V.mp 0 v 0 0)∧T 50=(V.bool (decide (((s.er)≠(0:Int))∨(((p:Nat):Int)=((e.src.length:Nat):Int)))))∧H 0=(bk v 85 7 [[(V.sl (List.map cS (e.ia))),(V.sl (List.map cS (e.oa))),(V.str e.src),(iV ((p:Nat):Int)),(iV (s.dep)),(iV (s.er)),(iV ((s.wh:Nat):Int))]])∧True) ?_ ?_
 ·
  by_cases g6:(s.er)≠(0:Int)
  ·
   refine G_n (edT g6 rfl) (G_n (edT g6 rfl) (G_n (edT g6 rfl) (G_n (edT g6 rfl) (G_n (edT g6 rfl) (G_n (edT g6 rfl) (G_n (edT g6 rfl) (G_n (edT g6 rfl) ?_)))))))
   refine G_n (edT g6 rfl) (G_n (edT g6 rfl) (R_pickT (edT g6 rfl) rfl ?_))
   exact ⟨t0,(dec_orT g6),h0,trivial⟩
  ·
   refine G_yes (edF g6 rfl) (R_mv t0 (G_yes (edF g6 rfl) (R_nilck_mp rfl h0 oB (G_yes (edF g6 rfl) (R_fk rfl h0 (G_yes (edF g6 rfl) (R_lk rfl h0 rfl rfl ?_)))))))
   refine G_yes (edF g6 rfl) (R_mv t0 (G_yes (edF g6 rfl) (R_nilck_mp rfl h0 oB (G_yes (edF g6 rfl) (R_fk rfl h0 (G_yes (edF g6 rfl) (R_lk rfl h0 rfl rfl ?_)))))))
   refine G_yes (edF g6 rfl) (R_slen (s:=e.src) rfl (G_yes (edF g6 rfl) (R_eql rfl rfl (R_pickF (edF g6 rfl) rfl ?_))))
   exact ⟨t0,(dec_orF g6),h0,trivial⟩
 intro T H ⟨t0,t50,h0,_⟩
 refine R_e ?_
 refine W_seq_if t50 (fun c7=>?_) fun c7=>?_
 ·
  have d2:s.er≠0∨p=e.src.length:=by have q:=c7; omega
  refine W_seq_seq (W_r (R_mv rfl (R_e (W_seq_ret ?_))))
  refine RetL_ok (v:=(V.str ([]))) (b:=(bk v 85 7 [[(V.sl (List.map cS (e.ia))),(V.sl (List.map cS (e.oa))),(V.str e.src),(iV ((p:Nat):Int)),(iV (s.dep)),(iV (s.er)),(iV ((s.wh:Nat):Int))]])) (resT1 (resV_t (@rfl V (V.str ([]))))) ?_ (by simp) (.same (cut_fin 1 _) _) h0 (by simp [locB,loc0])
  rw [rNext_eof hs1 d2]; rfl
 have d2: ¬(s.er≠0∨p=e.src.length):=by have q:=c7; omega
 have d2b:s.er=0∧p < e.src.length:=by omega
 refine W_seq_skip (W_r (R_mv t0 (R_nilck_mp rfl h0 oB (R_fk rfl h0 (R_lk rfl h0 rfl rfl (R_mv rfl (R_e ?_)))))))
 refine W_seq_blockgP fun Q8 n8 x8 y8 z8 w8=>?_
 refine W_loopP (fun mm T H=> ∃ (n:Nat),mm=e.src.length - (p+n)∧T 0=(V.mp 0 v 0 0)∧T 3=(iV (((p+n):Nat):Int))∧H 0=(bk v 85 7 [[(V.sl (List.map cS (e.ia))),(V.sl (List.map cS (e.oa))),(V.str e.src),(iV ((p:Nat):Int)),(iV (s.dep)),(iV (s.er)),(iV ((s.wh:Nat):Int))]])∧(p+n≤e.src.length)∧(wlen (e.src.drop p)=n+wlen (e.src.drop (p+n)))) ?_ ?_
 ·
  refine ⟨_,0,rfl,t0,(Eq.trans (@rfl V (iV ((p:Nat):Int))) (by rfl)),h0,?_,?_⟩
  · omega
  · simp
 intro mm T H ⟨n,hmm,t0,t3,h0,hn,hw⟩ Q9 p19 p29 p39 p49
 unfold b41_1
 refine W_seq_seq (W_r (R_mv t3 (R_mv t0 (R_nilck_mp rfl h0 oB (R_fk rfl h0 (R_lk rfl h0 rfl rfl (R_slen (s:=e.src) rfl ?_)))))))
 refine R_lss rfl rfl (R_mv rfl ?_)
 refine Ops_seg 8 (fun T H=>T 0=(V.mp 0 v 0 0)∧T 3=(iV (((p+n):Nat):Int))∧T 70=(V.bool ((decide ((((p+n):Nat):Int) < ((e.src.length:Nat):Int))&&(wby (nth e.src ((p+n)))))))∧H 0=(bk v 85 7 [[(V.sl (List.map cS (e.ia))),(V.sl (List.map cS (e.oa))),(V.str e.src),(iV ((p:Nat):Int)),(iV (s.dep)),(iV (s.er)),(iV ((s.wh:Nat):Int))]])∧True) ?_ ?_
 ·
  by_cases g10:(((p+n):Nat):Int) < ((e.src.length:Nat):Int)
  ·
   refine G_yes (edT g10 rfl) (R_mv t0 (G_yes (edT g10 rfl) (R_nilck_mp rfl h0 oB (G_yes (edT g10 rfl) (R_fk rfl h0 (G_yes (edT g10 rfl) (R_lk rfl h0 rfl rfl ?_)))))))
   refine G_yes (edT g10 rfl) (R_mv t3 (G_yes (edT g10 rfl) (R_sidx (s:=e.src) (i:=((p+n))) rfl rfl (by omega) (G_yes (edT g10 rfl) (R_callk (wordbyte_pure (nth e.src ((p+n)))) rfl (R_pickT (edT g10 rfl) rfl ?_))))))
   exact ⟨t0,t3,(dbandT g10),h0,trivial⟩
  ·
   refine G_n (edF g10 rfl) (G_n (edF g10 rfl) (G_n (edF g10 rfl) (G_n (edF g10 rfl) (G_n (edF g10 rfl) (G_n (edF g10 rfl) (G_n (edF g10 rfl) (R_pickF (edF g10 rfl) rfl ?_)))))))
   exact ⟨t0,t3,(dbandF g10),h0,trivial⟩
 intro T H ⟨t0,t3,t70,h0,_⟩
 refine R_e ?_
 refine W_seq_ifb t70 (fun c11=>?_) (fun c11=>?_)
 ·
  have d5:=c11
  rw [Bool.and_eq_true,decide_eq_true_eq] at d5
  refine W_seq_skip (W_blockP fun Q12 n12 x12 y12 z12 w12=>(W_t (R_mv t3 (R_addN rfl (@rfl V (iV ((1:Nat):Int))) (by omega) (R_mv rfl (R_e (n12 _ _ ?_)))))))
  refine p19 _ _ _ ?_ ⟨(n+1),rfl,t0,(Eq.trans (@rfl V (iV ((((p+n))+1:Nat):Int))) (by rfl)),h0,?_,?_⟩
  · omega
  · omega
  · rw [hw,wlen_step (by omega) d5.2,← Nat.add_assoc p n 1]; omega
 have hn1:wlen (e.src.drop p)=n:=by rw [hw,wlen_stop (by rw [c11]; exact Bool.false_ne_true)]; rfl
 refine W_seq_exit (p39 _ _ _ (x8 _ _ (.done (W_r (R_mv t0 (R_nilck_mp rfl h0 oB (R_fk rfl h0 ?_)))))))
 refine R_lk rfl h0 rfl rfl (R_mv t0 (R_nilck_mp rfl h0 oB (R_fk rfl h0 (R_lk rfl h0 rfl rfl (R_sidx (s:=e.src) (i:=p) rfl rfl (by omega) (R_mv rfl (R_e ?_)))))))
 refine W_seq_blockgP fun Q13 n13 x13 y13 z13 w13=>?_
 refine W_seq_regc (fun T H=>T 0=(V.mp 0 v 0 0)∧T 3=(iV (((p+n):Nat):Int))∧T 4=(u8V (nth e.src p))∧T 82=(V.bool (decide ((((((((p+n))+1:Nat):Int)=((p+2:Nat):Int))∧((((nth e.src p).toNat:Nat):Int)=(45:Int)))∧((((p+n):Nat):Int) < ((e.src.length:Nat):Int)))∧((((nth e.src ((p+n))).toNat:Nat):Int)=(62:Int)))))∧H 0=(bk v 85 7 [[(V.sl (List.map cS (e.ia))),(V.sl (List.map cS (e.oa))),(V.str e.src),(iV ((p:Nat):Int)),(iV (s.dep)),(iV (s.er)),(iV ((s.wh:Nat):Int))]])∧True) ?_ ?_
 ·
  refine R_mv t3 (R_addN rfl (@rfl V (iV ((1:Nat):Int))) (by omega) (R_mv t0 (R_nilck_mp rfl h0 oB (R_fk rfl h0 (R_lk rfl h0 rfl rfl (R_addN rfl (@rfl V (iV ((2:Nat):Int))) (by omega) (R_eql rfl rfl ?_)))))))
  refine R_mv rfl ?_
  refine Ops_seg 3 (fun T H=>T 0=(V.mp 0 v 0 0)∧T 3=(iV (((p+n):Nat):Int))∧T 4=(u8V (nth e.src p))∧T 94=(V.bool (decide ((((((p+n))+1:Nat):Int)=((p+2:Nat):Int))∧((((nth e.src p).toNat:Nat):Int)=(45:Int)))))∧H 0=(bk v 85 7 [[(V.sl (List.map cS (e.ia))),(V.sl (List.map cS (e.oa))),(V.str e.src),(iV ((p:Nat):Int)),(iV (s.dep)),(iV (s.er)),(iV ((s.wh:Nat):Int))]])∧True) ?_ ?_
  ·
   by_cases g14:((((p+n))+1:Nat):Int)=((p+2:Nat):Int)
   ·
    refine G_yes (edT g14 rfl) (R_mv rfl (G_yes (edT g14 rfl) (R_eqlk (x:=(((nth e.src p).toNat:Nat):Int)) (y:=(45:Int)) rfl rfl (R_pickT (edT g14 rfl) rfl ?_))))
    exact ⟨t0,t3,rfl,(dec_andT g14),h0,trivial⟩
   ·
    refine G_n (edF g14 rfl) (G_n (edF g14 rfl) (R_pickF (edF g14 rfl) rfl ?_))
    exact ⟨t0,t3,rfl,(dec_andF g14),h0,trivial⟩
  intro T H ⟨t0,t3,t4,t94,h0,_⟩
  refine R_mv t94 ?_
  refine Ops_seg 8 (fun T H=>T 0=(V.mp 0 v 0 0)∧T 3=(iV (((p+n):Nat):Int))∧T 4=(u8V (nth e.src p))∧T 103=(V.bool (decide (((((((p+n))+1:Nat):Int)=((p+2:Nat):Int))∧((((nth e.src p).toNat:Nat):Int)=(45:Int)))∧((((p+n):Nat):Int) < ((e.src.length:Nat):Int)))))∧H 0=(bk v 85 7 [[(V.sl (List.map cS (e.ia))),(V.sl (List.map cS (e.oa))),(V.str e.src),(iV ((p:Nat):Int)),(iV (s.dep)),(iV (s.er)),(iV ((s.wh:Nat):Int))]])∧True) ?_ ?_
  ·
   by_cases g15:(((((p+n))+1:Nat):Int)=((p+2:Nat):Int))∧((((nth e.src p).toNat:Nat):Int)=(45:Int))
   ·
    refine G_yes (edT g15 rfl) (R_mv t3 (G_yes (edT g15 rfl) (R_mv t0 (G_yes (edT g15 rfl) (R_nilck_mp rfl h0 oB (G_yes (edT g15 rfl) (R_fk rfl h0 ?_)))))))
    refine G_yes (edT g15 rfl) (R_lk rfl h0 rfl rfl (G_yes (edT g15 rfl) (R_slen (s:=e.src) rfl (G_yes (edT g15 rfl) (R_lss rfl rfl (R_pickT (edT g15 rfl) rfl ?_))))))
    exact ⟨t0,t3,t4,(dec_andT g15),h0,trivial⟩
   ·
    refine G_n (edF g15 rfl) (G_n (edF g15 rfl) (G_n (edF g15 rfl) (G_n (edF g15 rfl) (G_n (edF g15 rfl) (G_n (edF g15 rfl) (G_n (edF g15 rfl) (R_pickF (edF g15 rfl) rfl ?_)))))))
    exact ⟨t0,t3,t4,(dec_andF g15),h0,trivial⟩
  intro T H ⟨t0,t3,t4,t103,h0,_⟩
  refine R_mv t103 ?_
  refine Ops_seg 8 (fun T H=>T 0=(V.mp 0 v 0 0)∧T 3=(iV (((p+n):Nat):Int))∧T 4=(u8V (nth e.src p))∧T 112=(V.bool (decide ((((((((p+n))+1:Nat):Int)=((p+2:Nat):Int))∧((((nth e.src p).toNat:Nat):Int)=(45:Int)))∧((((p+n):Nat):Int) < ((e.src.length:Nat):Int)))∧((((nth e.src ((p+n))).toNat:Nat):Int)=(62:Int)))))∧H 0=(bk v 85 7 [[(V.sl (List.map cS (e.ia))),(V.sl (List.map cS (e.oa))),(V.str e.src),(iV ((p:Nat):Int)),(iV (s.dep)),(iV (s.er)),(iV ((s.wh:Nat):Int))]])∧True) ?_ ?_
  ·
   by_cases g16:((((((p+n))+1:Nat):Int)=((p+2:Nat):Int))∧((((nth e.src p).toNat:Nat):Int)=(45:Int)))∧((((p+n):Nat):Int) < ((e.src.length:Nat):Int))
   ·
    refine G_yes (edT g16 rfl) (R_mv t0 (G_yes (edT g16 rfl) (R_nilck_mp rfl h0 oB (G_yes (edT g16 rfl) (R_fk rfl h0 (G_yes (edT g16 rfl) (R_lk rfl h0 rfl rfl ?_)))))))
    refine G_yes (edT g16 rfl) (R_mv t3 (G_yes (edT g16 rfl) (R_sidx (s:=e.src) (i:=((p+n))) rfl rfl (by omega) (G_yes (edT g16 rfl) (R_eqlk (x:=(((nth e.src ((p+n))).toNat:Nat):Int)) (y:=(62:Int)) rfl rfl (R_pickT (edT g16 rfl) rfl ?_))))))
    exact ⟨t0,t3,t4,(dec_andT g16),h0,trivial⟩
   ·
    refine G_n (edF g16 rfl) (G_n (edF g16 rfl) (G_n (edF g16 rfl) (G_n (edF g16 rfl) (G_n (edF g16 rfl) (G_n (edF g16 rfl) (G_n (edF g16 rfl) (R_pickF (edF g16 rfl) rfl ?_)))))))
    exact ⟨t0,t3,t4,(dec_andF g16),h0,trivial⟩
  intro T H ⟨t0,t3,t4,t112,h0,_⟩
  refine R_mv t112 ?_
  exact R_nil ⟨t0,t3,t4,rfl,h0,trivial⟩
 intro T H ⟨t0,t3,t4,t82,h0,_⟩
 refine W_if t82 (fun c17=>?_) fun c17=>?_
 ·
  have d3:=c17
  refine W_r (R_mv rfl (R_e (W_ret (y13 _ _ ?_))))
  refine RetL_ok (v:=(V.str ([45,62]))) (b:=(bk v 85 7 [[(V.sl (List.map cS (e.ia))),(V.sl (List.map cS (e.oa))),(V.str e.src),(iV ((p:Nat):Int)),(iV (s.dep)),(iV (s.er)),(iV ((s.wh:Nat):Int))]])) (resT1 (resV_t (@rfl V (V.str ([45,62]))))) ?_ (by simp) (.same (cut_fin 1 _) _) h0 (by simp [locB,loc0])
  rw [rNext_arrow hs1 d2b d3]; rfl
 have d3:=c17
 refine W_r (R_mv t3 (R_mv t0 (R_nilck_mp rfl h0 oB (R_fk rfl h0 (R_lk rfl h0 rfl rfl (R_gtr rfl rfl (R_mv rfl ?_)))))))
 refine R_e ?_
 refine W_if rfl (fun c18=>?_) fun c18=>?_
 ·
  have d4:=c18
  refine W_r (R_mv t0 (R_nilck_mp rfl h0 oB (R_fk rfl h0 (R_lk rfl h0 rfl rfl (R_mv t0 (R_nilck_mp rfl h0 oB (R_fk rfl h0 ?_)))))))
  refine R_lk rfl h0 rfl rfl (R_mv t3 (R_sslh (s:=e.src) (m:=p) (n:=((p+n))) (@rfl V (V.str e.src)) (@rfl V (iV ((p:Nat):Int))) (@rfl V (iV (((p+n):Nat):Int))) (by omega) (by omega) (R_mv rfl (R_e (W_ret (y13 _ _ ?_))))))
  refine RetL_ok (v:=(V.str ((List.take ((p+n)) e.src).drop p))) (b:=(bk v 85 7 [[(V.sl (List.map cS (e.ia))),(V.sl (List.map cS (e.oa))),(V.str e.src),(iV ((p:Nat):Int)),(iV (s.dep)),(iV (s.er)),(iV ((s.wh:Nat):Int))]])) (resT1 (resV_t (@rfl V (V.str ((List.take ((p+n)) e.src).drop p))))) ?_ (by simp) (.same (cut_fin 1 _) _) h0 (by simp [locB,loc0])
  rw [rNext_word hs1 d2b d3 hn1 d4]; rfl
 have d4:=c18
 refine W_r (R_mv t4 (R_eqlk (x:=(((nth e.src p).toNat:Nat):Int)) (y:=(33:Int)) rfl rfl (R_mv rfl ?_)))
 refine Ops_seg 3 (fun T H=>T 0=(V.mp 0 v 0 0)∧T 4=(u8V (nth e.src p))∧T 136=(V.bool (decide (((((nth e.src p).toNat:Nat):Int)=(33:Int))∨((((nth e.src p).toNat:Nat):Int)=(38:Int)))))∧H 0=(bk v 85 7 [[(V.sl (List.map cS (e.ia))),(V.sl (List.map cS (e.oa))),(V.str e.src),(iV ((p:Nat):Int)),(iV (s.dep)),(iV (s.er)),(iV ((s.wh:Nat):Int))]])∧True) ?_ ?_
 ·
  by_cases g19:(((nth e.src p).toNat:Nat):Int)=(33:Int)
  ·
   refine G_n (edT g19 rfl) (G_n (edT g19 rfl) (R_pickT (edT g19 rfl) rfl ?_))
   exact ⟨t0,t4,(dec_orT g19),h0,trivial⟩
  ·
   refine G_yes (edF g19 rfl) (R_mv t4 (G_yes (edF g19 rfl) (R_eqlk (x:=(((nth e.src p).toNat:Nat):Int)) (y:=(38:Int)) rfl rfl (R_pickF (edF g19 rfl) rfl ?_))))
   exact ⟨t0,t4,(dec_orF g19),h0,trivial⟩
 intro T H ⟨t0,t4,t136,h0,_⟩
 refine R_mv t136 ?_
 refine Ops_seg 3 (fun T H=>T 0=(V.mp 0 v 0 0)∧T 4=(u8V (nth e.src p))∧T 140=(V.bool (decide ((((((nth e.src p).toNat:Nat):Int)=(33:Int))∨((((nth e.src p).toNat:Nat):Int)=(38:Int)))∨((((nth e.src p).toNat:Nat):Int)=(124:Int)))))∧H 0=(bk v 85 7 [[(V.sl (List.map cS (e.ia))),(V.sl (List.map cS (e.oa))),(V.str e.src),(iV ((p:Nat):Int)),(iV (s.dep)),(iV (s.er)),(iV ((s.wh:Nat):Int))]])∧True) ?_ ?_
 ·
  by_cases g20:((((nth e.src p).toNat:Nat):Int)=(33:Int))∨((((nth e.src p).toNat:Nat):Int)=(38:Int))
  ·
   refine G_n (edT g20 rfl) (G_n (edT g20 rfl) (R_pickT (edT g20 rfl) rfl ?_))
   exact ⟨t0,t4,(dec_orT g20),h0,trivial⟩
  ·
   refine G_yes (edF g20 rfl) (R_mv t4 (G_yes (edF g20 rfl) (R_eqlk (x:=(((nth e.src p).toNat:Nat):Int)) (y:=(124:Int)) rfl rfl (R_pickF (edF g20 rfl) rfl ?_))))
   exact ⟨t0,t4,(dec_orF g20),h0,trivial⟩
 intro T H ⟨t0,t4,t140,h0,_⟩
 refine R_mv t140 ?_
 refine Ops_seg 3 (fun T H=>T 0=(V.mp 0 v 0 0)∧T 4=(u8V (nth e.src p))∧T 144=(V.bool (decide (((((((nth e.src p).toNat:Nat):Int)=(33:Int))∨((((nth e.src p).toNat:Nat):Int)=(38:Int)))∨((((nth e.src p).toNat:Nat):Int)=(124:Int)))∨((((nth e.src p).toNat:Nat):Int)=(40:Int)))))∧H 0=(bk v 85 7 [[(V.sl (List.map cS (e.ia))),(V.sl (List.map cS (e.oa))),(V.str e.src),(iV ((p:Nat):Int)),(iV (s.dep)),(iV (s.er)),(iV ((s.wh:Nat):Int))]])∧True) ?_ ?_
 ·
  by_cases g21:(((((nth e.src p).toNat:Nat):Int)=(33:Int))∨((((nth e.src p).toNat:Nat):Int)=(38:Int)))∨((((nth e.src p).toNat:Nat):Int)=(124:Int))
  ·
   refine G_n (edT g21 rfl) (G_n (edT g21 rfl) (R_pickT (edT g21 rfl) rfl ?_))
   exact ⟨t0,t4,(dec_orT g21),h0,trivial⟩
  ·
   refine G_yes (edF g21 rfl) (R_mv t4 (G_yes (edF g21 rfl) (R_eqlk (x:=(((nth e.src p).toNat:Nat):Int)) (y:=(40:Int)) rfl rfl (R_pickF (edF g21 rfl) rfl ?_))))
   exact ⟨t0,t4,(dec_orF g21),h0,trivial⟩
 intro T H ⟨t0,t4,t144,h0,_⟩
 refine R_mv t144 ?_
 refine Ops_seg 3 (fun T H=>T 0=(V.mp 0 v 0 0)∧T 4=(u8V (nth e.src p))∧T 148=(V.bool (decide ((((((((nth e.src p).toNat:Nat):Int)=(33:Int))∨((((nth e.src p).toNat:Nat):Int)=(38:Int)))∨((((nth e.src p).toNat:Nat):Int)=(124:Int)))∨((((nth e.src p).toNat:Nat):Int)=(40:Int)))∨((((nth e.src p).toNat:Nat):Int)=(41:Int)))))∧H 0=(bk v 85 7 [[(V.sl (List.map cS (e.ia))),(V.sl (List.map cS (e.oa))),(V.str e.src),(iV ((p:Nat):Int)),(iV (s.dep)),(iV (s.er)),(iV ((s.wh:Nat):Int))]])∧True) ?_ ?_
 ·
  by_cases g22:((((((nth e.src p).toNat:Nat):Int)=(33:Int))∨((((nth e.src p).toNat:Nat):Int)=(38:Int)))∨((((nth e.src p).toNat:Nat):Int)=(124:Int)))∨((((nth e.src p).toNat:Nat):Int)=(40:Int))
  ·
   refine G_n (edT g22 rfl) (G_n (edT g22 rfl) (R_pickT (edT g22 rfl) rfl ?_))
   exact ⟨t0,t4,(dec_orT g22),h0,trivial⟩
  ·
   refine G_yes (edF g22 rfl) (R_mv t4 (G_yes (edF g22 rfl) (R_eqlk (x:=(((nth e.src p).toNat:Nat):Int)) (y:=(41:Int)) rfl rfl (R_pickF (edF g22 rfl) rfl ?_))))
   exact ⟨t0,t4,(dec_orF g22),h0,trivial⟩
 intro T H ⟨t0,t4,t148,h0,_⟩
 refine R_mv t148 (R_e ?_)
 refine W_if rfl (fun c23=>?_) fun c23=>?_
 ·
  have d6:=c23
  refine W_r (R_mv t4 (R_bslice rfl rfl (R_bstr1 (@rfl V (V.sl [[(u8V (nth e.src p))]])) (R_mv rfl (R_e (W_ret (y13 _ _ ?_)))))))
  refine RetL_ok (v:=(V.str ([nth e.src p]))) (b:=(bk v 85 7 [[(V.sl (List.map cS (e.ia))),(V.sl (List.map cS (e.oa))),(V.str e.src),(iV ((p:Nat):Int)),(iV (s.dep)),(iV (s.er)),(iV ((s.wh:Nat):Int))]])) (resT1 (resV_t (@rfl V (V.str ([nth e.src p]))))) ?_ (by simp) (.same (cut_fin 1 _) _) h0 (by simp [locB,loc0])
  rw [rNext_one hs1 d2b d3 hn1 d4 d6]; rfl
 have d6:=c23
 refine W_skip (n13 _ _ (.done (W_seq_seq (W_r (R_mv t0 (R_e (W_seq_seq ?_)))))))
 obtain ⟨s2,hs2⟩: ∃ q,rFail (⟨p,s.dep,s.er,s.wh⟩:RS) 5=q:=⟨_,rfl⟩
 refine pop_ok (i:=0) (by have q:=rfail_loc v e (⟨p,s.dep,s.er,s.wh⟩:RS) (5:Int); rw [hs2] at q; exact q) (evcons (@rfl V (V.mp 0 v 0 0)) (evcons (@rfl V (iV (5:Int))) evnil)) rfl h0 rfl rfl (fork_ (R:=fun T H=>T 152=(V.mp 0 v 0 0)∧T 153=(V.tup [])∧H 0=(bk v 85 7 [[(V.sl (List.map cS (e.ia))),(V.sl (List.map cS (e.oa))),(V.str e.src),(iV ((s2.pos:Nat):Int)),(iV (s2.dep)),(iV (s2.er)),(iV ((s2.wh:Nat):Int))]])∧True) ⟨(@rfl V (V.mp 0 v 0 0)),(@rfl V (V.tup [])),rfl,trivial⟩ ?_)
 intro T H ⟨t152,t153,h0,_⟩
 refine W_reg0 (W_r (R_mv rfl (R_e (W_ret ?_))))
 refine RetL_ok (v:=(V.str ([]))) (b:=(bk v 85 7 [[(V.sl (List.map cS (e.ia))),(V.sl (List.map cS (e.oa))),(V.str e.src),(iV ((s2.pos:Nat):Int)),(iV (s2.dep)),(iV (s2.er)),(iV ((s2.wh:Nat):Int))]])) (resT1 (resV_t (@rfl V (V.str ([]))))) ?_ (by simp) (.same (cut_fin 1 _) _) h0 (by simp [locB,loc0])
 rw [rNext_bad hs1 d2b d3 hn1 d4 d6,hs2]; rfl
theorem rtake_loc (v:Nat) (e:PE) (s:RS) (hs:OkR e s) (w:List UInt8) (hw:w.length≤1048576):LocC Try.prog 66 1 [(V.mp 0 v 0 0),(V.str w)] (hpB (bk v 85 7 [[(V.sl (List.map cS (e.ia))),(V.sl (List.map cS (e.oa))),(V.str e.src),(iV ((s.pos:Nat):Int)),(iV (s.dep)),(iV (s.er)),(iV ((s.wh:Nat):Int))]])) (.ok (.bool (rTake e w s).1) (hpB (bk v 85 7 [rCells e (rTake e w s).2]))):=by
 refine lW (k0:=0) Try.func66 s66_ok fun hB=>?_
 unfold s66
 dsimp only
 have hlen:=hs.len
 have hpos:=hs.pos
 have hd0:=hs.d0
 have hd1:=hs.d1
 have hd2:=hs.d2
 refine W_r (R_mv rfl (R_e (W_seq_seq (W_seq_seq (W_r (R_mv rfl (R_e ?_)))))))
 refine W_seq_seq ?_
 rcases hs1:rNext e s with ⟨t,s1⟩
 obtain ⟨ks1,ks1d,ks1p,ks1e⟩:=rNext_inv hs hs1
 refine pop_ok (i:=0) (by have q:=rnext_loc v e s hs; rw [hs1] at q; exact q) (evcons (@rfl V (V.mp 0 v 0 0)) evnil) rfl (@rfl Blk (bk v 85 7 [[(V.sl (List.map cS (e.ia))),(V.sl (List.map cS (e.oa))),(V.str e.src),(iV ((s.pos:Nat):Int)),(iV (s.dep)),(iV (s.er)),(iV ((s.wh:Nat):Int))]])) rfl rfl (fork_ (R:=fun T H=>T 0=(V.mp 0 v 0 0)∧T 1=(V.str w)∧T 5=(V.mp 0 v 0 0)∧T 6=(V.str t)∧H 0=(bk v 85 7 [[(V.sl (List.map cS (e.ia))),(V.sl (List.map cS (e.oa))),(V.str e.src),(iV ((s1.pos:Nat):Int)),(iV (s1.dep)),(iV (s1.er)),(iV ((s1.wh:Nat):Int))]])∧True) ⟨(@rfl V (V.mp 0 v 0 0)),(@rfl V (V.str w)),(@rfl V (V.mp 0 v 0 0)),(@rfl V (V.str t)),rfl,trivial⟩ ?_)
 intro T H ⟨t0,t1,t5,t6,h0,_⟩
 refine W_r (R_mv t1 (R_sneq (s:=t) (t:=w) t6 rfl (R_mv rfl ?_)))
 refine Ops_seg 6 (fun T H=>T 0=(V.mp 0 v 0 0)∧T 1=(V.str w)∧T 15=(V.bool (decide ((¬(t=w))∨((s1.er)≠(0:Int)))))∧H 0=(bk v 85 7 [[(V.sl (List.map cS (e.ia))),(V.sl (List.map cS (e.oa))),(V.str e.src),(iV ((s1.pos:Nat):Int)),(iV (s1.dep)),(iV (s1.er)),(iV ((s1.wh:Nat):Int))]])∧True) ?_ ?_
 ·
  by_cases g1: ¬(t=w)
  ·
   refine G_n (edT g1 rfl) (G_n (edT g1 rfl) (G_n (edT g1 rfl) (G_n (edT g1 rfl) (G_n (edT g1 rfl) (R_pickT (edT g1 rfl) rfl ?_)))))
   exact ⟨t0,t1,(dec_orT g1),h0,trivial⟩
  ·
   refine G_yes (edF g1 rfl) (R_mv t0 (G_yes (edF g1 rfl) (R_nilck_mp rfl h0 oB (G_yes (edF g1 rfl) (R_fk rfl h0 (G_yes (edF g1 rfl) (R_lk rfl h0 rfl rfl ?_)))))))
   refine G_yes (edF g1 rfl) (R_neq rfl rfl (R_pickF (edF g1 rfl) rfl ?_))
   exact ⟨t0,t1,(dec_orF g1),h0,trivial⟩
 intro T H ⟨t0,t1,t15,h0,_⟩
 refine R_e ?_
 refine W_seq_if t15 (fun c2=>?_) fun c2=>?_
 ·
  have d1:(t≠w∨s1.er≠0):=c2
  refine W_seq_seq (W_r (R_mv rfl (R_e (W_seq_ret ?_))))
  refine RetL_ok (v:=(V.bool false)) (b:=(bk v 85 7 [[(V.sl (List.map cS (e.ia))),(V.sl (List.map cS (e.oa))),(V.str e.src),(iV ((s1.pos:Nat):Int)),(iV (s1.dep)),(iV (s1.er)),(iV ((s1.wh:Nat):Int))]])) (resT1 (resV_t (@rfl V (V.bool false)))) ?_ (by simp) (.same (cut_fin 1 _) _) h0 (by simp [locB,loc0])
  simp only [rTake,hs1,if_pos d1]; rfl
 have d1: ¬(t≠w∨s1.er≠0):=c2
 refine W_seq_skip (W_r (R_mv t0 (R_mv t0 (R_nilck_mp rfl h0 oB (R_fk rfl h0 (R_lk rfl h0 rfl rfl (R_mv t1 ?_)))))))
 refine R_slen (s:=w) rfl (R_addN rfl rfl (by omega) (R_nilck_mp rfl h0 oB (R_fk rfl h0 (R_sk rfl rfl rfl h0 rfl rfl rfl rfl rfl (R_e (W_r (R_mv rfl ?_)))))))
 refine R_e (W_ret ?_)
 refine RetL_ok (v:=(V.bool true)) (b:=(bk v 85 7 [[(V.sl (List.map cS (e.ia))),(V.sl (List.map cS (e.oa))),(V.str e.src),(iV ((s1.pos+w.length:Nat):Int)),(iV (s1.dep)),(iV (s1.er)),(iV ((s1.wh:Nat):Int))]])) (resT1 (resV_t (@rfl V (V.bool true)))) ?_ (by simp) (.same (cut_fin 1 _) _) (@rfl Blk (bk v 85 7 [[(V.sl (List.map cS (e.ia))),(V.sl (List.map cS (e.oa))),(V.str e.src),(iV ((s1.pos+w.length:Nat):Int)),(iV (s1.dep)),(iV (s1.er)),(iV ((s1.wh:Nat):Int))]])) (by simp [locB,loc0])
 simp only [rTake,hs1,if_neg d1]; rfl
def r67_1:List SO:=[
 qM 4 0,
 sO 5 (.nilck (.t 4)),
 qF 6 4 5,
 ql 7 6,
 qC 8 .add 7 1,
 sO 9 (.nilck (.t 4)),
 qF 10 4 9,
 sN (.store 1 (.t 10) (.t 8))]
def s67:SF:=⟨18,[],.seq (.seq (.reg [qM 2 0]) (.seq (.pop (some 3) (.call 41 [.t 2])) (.reg []))) (.seq (.reg r67_1) (.seq (.reg [qM 11 0,sO 12 (.nilck (.t 11)),qF 13 4 12,ql 14 13,qC 15 .gtr 14 128]) (.cond (.t 15) (.seq (.reg [qM 16 0]) (.seq (.pop (some 17) (.call 42 [.t 16,.c (.int .i64 16)])) (.reg []))) (.skip))))⟩
theorem s67_ok:slimF Try.prog ⟨[31,36,37,38,40,41,42,44,45,59,60,61,65,66,67,71,72,73,81,82,84,92,93,98,99,102,104],[],[36,37,38,40,41,42,59,60,61,65,66,67,81,82,92,93,98,99,102,104],[]⟩ Try.f67=some s67:=by kernel_rfl
theorem ropen_loc (v:Nat) (e:PE) (s:RS) (hs:OkR e s) (h0:s.er=0):LocC Try.prog 67 1 [(V.mp 0 v 0 0)] (hpB (bk v 85 7 [[(V.sl (List.map cS (e.ia))),(V.sl (List.map cS (e.oa))),(V.str e.src),(iV ((s.pos:Nat):Int)),(iV (s.dep)),(iV (s.er)),(iV ((s.wh:Nat):Int))]])) (.ok (.tup []) (hpB (bk v 85 7 [rCells e (rOpen e s)]))):=by
 refine lW (k0:=0) Try.func67 s67_ok fun hB=>?_
 unfold s67
 dsimp only
 have hlen:=hs.len
 have hpos:=hs.pos
 have hd0:=hs.d0
 have hd1:=hs.d1
 have hd2:=hs.d2
 refine W_seq_seq (W_r (R_mv rfl (R_e (W_seq_seq ?_))))
 rcases hs1:rNext e s with ⟨t,s1⟩
 obtain ⟨ks1,ks1d,ks1p,ks1e⟩:=rNext_inv hs hs1
 have hd3:=hs.d2 h0
 refine pop_ok (i:=0) (by have q:=rnext_loc v e s hs; rw [hs1] at q; exact q) (evcons (@rfl V (V.mp 0 v 0 0)) evnil) rfl (@rfl Blk (bk v 85 7 [[(V.sl (List.map cS (e.ia))),(V.sl (List.map cS (e.oa))),(V.str e.src),(iV ((s.pos:Nat):Int)),(iV (s.dep)),(iV (s.er)),(iV ((s.wh:Nat):Int))]])) rfl rfl (fork_ (R:=fun T H=>T 0=(V.mp 0 v 0 0)∧T 2=(V.mp 0 v 0 0)∧T 3=(V.str t)∧H 0=(bk v 85 7 [[(V.sl (List.map cS (e.ia))),(V.sl (List.map cS (e.oa))),(V.str e.src),(iV ((s1.pos:Nat):Int)),(iV (s1.dep)),(iV (s1.er)),(iV ((s1.wh:Nat):Int))]])∧True) ⟨(@rfl V (V.mp 0 v 0 0)),(@rfl V (V.mp 0 v 0 0)),(@rfl V (V.str t)),rfl,trivial⟩ ?_)
 intro T H ⟨t0,t2,t3,h0,_⟩
 refine W_reg0 (W_r (R_mv t0 (R_nilck_mp rfl h0 oB (R_fk rfl h0 (R_lk rfl h0 rfl rfl (R_add rfl rfl (by omega) (by omega) (R_nilck_mp rfl h0 oB ?_)))))))
 refine R_fk rfl h0 (R_sk rfl rfl rfl h0 rfl rfl rfl rfl rfl (R_e (W_r (R_mv t0 (R_nilck_mp rfl rfl oB (R_fk rfl rfl (R_lk rfl rfl rfl rfl ?_)))))))
 refine R_gtr rfl rfl (R_e ?_)
 refine W_if rfl (fun c1=>?_) fun c1=>?_
 ·
  have d1:128 < s1.dep+1:=c1
  refine W_r (R_mv t0 (R_e ?_))
  obtain ⟨s2,hs2⟩: ∃ q,rFail {s1 with dep:=s1.dep+1} 16=q:=⟨_,rfl⟩
  refine pop_ok (i:=0) (by have q:=rfail_loc v e {s1 with dep:=s1.dep+1} (16:Int); rw [hs2] at q; exact q) (evcons (@rfl V (V.mp 0 v 0 0)) (evcons (@rfl V (iV (16:Int))) evnil)) rfl (@rfl Blk (bk v 85 7 [[(V.sl (List.map cS (e.ia))),(V.sl (List.map cS (e.oa))),(V.str e.src),(iV ((s1.pos:Nat):Int)),(iV ((s1.dep)+(1:Int))),(iV (s1.er)),(iV ((s1.wh:Nat):Int))]])) rfl rfl (fork_ (R:=fun T H=>T 16=(V.mp 0 v 0 0)∧T 17=(V.tup [])∧H 0=(bk v 85 7 [[(V.sl (List.map cS (e.ia))),(V.sl (List.map cS (e.oa))),(V.str e.src),(iV ((s2.pos:Nat):Int)),(iV (s2.dep)),(iV (s2.er)),(iV ((s2.wh:Nat):Int))]])∧True) ⟨(@rfl V (V.mp 0 v 0 0)),(@rfl V (V.tup [])),rfl,trivial⟩ ?_)
  intro T H ⟨t16,t17,h0,_⟩
  refine W_reg0t ?_
  refine RetL_okn (v:=(V.tup [])) (b:=(bk v 85 7 [[(V.sl (List.map cS (e.ia))),(V.sl (List.map cS (e.oa))),(V.str e.src),(iV ((s2.pos:Nat):Int)),(iV (s2.dep)),(iV (s2.er)),(iV ((s2.wh:Nat):Int))]])) rfl ?_ (by simp) (.same (cut_fin 1 _) _) h0 (by simp [locB,loc0])
  rw [← hs2]; simp only [rOpen,rUp,hs1,if_pos d1]; rfl
 have d1: ¬128 < s1.dep+1:=c1
 refine W_skip ?_
 refine RetL_okn (v:=(V.tup [])) (b:=(bk v 85 7 [[(V.sl (List.map cS (e.ia))),(V.sl (List.map cS (e.oa))),(V.str e.src),(iV ((s1.pos:Nat):Int)),(iV ((s1.dep)+(1:Int))),(iV (s1.er)),(iV ((s1.wh:Nat):Int))]])) rfl ?_ (by simp) (.same (cut_fin 1 _) _) (@rfl Blk (bk v 85 7 [[(V.sl (List.map cS (e.ia))),(V.sl (List.map cS (e.oa))),(V.str e.src),(iV ((s1.pos:Nat):Int)),(iV ((s1.dep)+(1:Int))),(iV (s1.er)),(iV ((s1.wh:Nat):Int))]])) (by simp [locB,loc0])
 simp only [rOpen,rUp,hs1,if_neg d1]; rfl
theorem rform_step (v:Nat) (e:PE) (s:RS) (hs:OkR e s) (k:Nat) (hkb:k≤4294967296) (rihD: ∀ (s:RS) (f:Fm) (s1:RS),OkR e s→rF e k .disj s=some (f,s1)→LocC Try.prog 65 1 [.mp 0 v 0 0] (hpB (bk v 85 7 [rCells e s])) (.ok (fmV f) (hpB (bk v 85 7 [rCells e s1])))) (rihF: ∀ (s:RS) (f:Fm) (s1:RS),OkR e s→rF e k .form s=some (f,s1)→LocC Try.prog 40 1 [.mp 0 v 0 0] (hpB (bk v 85 7 [rCells e s])) (.ok (fmV f) (hpB (bk v 85 7 [rCells e s1])))) (fr:Fm) (sr:RS) (h:rF e (k+1) .form s=some (fr,sr)):LocC Try.prog 40 1 [(V.mp 0 v 0 0)] (hpB (bk v 85 7 [[(V.sl (List.map cS (e.ia))),(V.sl (List.map cS (e.oa))),(V.str e.src),(iV ((s.pos:Nat):Int)),(iV (s.dep)),(iV (s.er)),(iV ((s.wh:Nat):Int))]])) (.ok (fmV fr) (hpB (bk v 85 7 [rCells e sr]))):=by
 refine lW (k0:=0) Try.func40 s40_ok fun hB=>?_
 unfold s40
 dsimp only
 have hlen:=hs.len
 have hpos:=hs.pos
 have hd0:=hs.d0
 have hd1:=hs.d1
 have hd2:=hs.d2
 refine W_r (R_alloc (i:=2) (n:=0) (m:=3) rfl (congrArg Blk.ver rfl) rfl (R_e (W_seq_seq (W_r (R_mv rfl (R_e (W_seq_seq ?_)))))))
 rcases hx:rF e k .disj s with _|⟨f1,s1⟩
 ·
  exfalso; rw [rF,hx] at h; cases h
 ·
  obtain ⟨ks1,ks1d⟩:=rF_keeps e k .disj _ _ _ hs (fun q=>by cases q) hx
  refine pop_ok (i:=0) (rihD _ _ _ hs hx) (evcons (@rfl V (V.mp 0 v 0 0)) evnil) rfl (@rfl Blk (bk v 85 7 [[(V.sl (List.map cS (e.ia))),(V.sl (List.map cS (e.oa))),(V.str e.src),(iV ((s.pos:Nat):Int)),(iV (s.dep)),(iV (s.er)),(iV ((s.wh:Nat):Int))]])) rfl rfl (fork_ (R:=fun T H=>T 0=(V.mp 0 v 0 0)∧T 2=(V.mp 2 1 0 0)∧T 5=(V.mp 0 v 0 0)∧T 6=(V.agg [(iV (f1.op)),(iV (f1.arg)),(V.sl (List.map cF (f1.kids)))])∧H 0=(bk v 85 7 [[(V.sl (List.map cS (e.ia))),(V.sl (List.map cS (e.oa))),(V.str e.src),(iV ((s1.pos:Nat):Int)),(iV (s1.dep)),(iV (s1.er)),(iV ((s1.wh:Nat):Int))]])∧H 2=(bk 1 24 3 [[(iV (0:Int)),(iV (0:Int)),V.nilsl]])∧H 3=(⟨0,false,false,0,0,[]⟩:Blk)∧H 4=(⟨0,false,false,0,0,[]⟩:Blk)∧True) ⟨(@rfl V (V.mp 0 v 0 0)),(@rfl V (V.mp 2 1 0 0)),(@rfl V (V.mp 0 v 0 0)),(@rfl V (V.agg [(iV (f1.op)),(iV (f1.arg)),(V.sl (List.map cF (f1.kids)))])),rfl,rfl,rfl,rfl,trivial⟩ ?_)
  intro T H ⟨t0,t2,t5,t6,h0,h2,h3,h4,_⟩
  refine W_r (R_alloc (i:=3) (n:=0) (m:=3) rfl (congrArg Blk.ver h3) rfl (R_sk rfl t6 rfl rfl rfl rfl rfl rfl rfl (R_e (W_seq_seq (W_seq_seq (W_r (R_mv t0 ?_)))))))
  refine R_e (W_seq_seq ?_)
  rcases hs2:rTake e [45,62] s1 with ⟨b,s2⟩
  obtain ⟨ks2,ks2d,ks2b,ks2e⟩:=rTake_inv ks1 hs2
  refine pop_ok (i:=0) (by have q:=rtake_loc v e s1 ks1 [45,62] (by simp); rw [hs2] at q; exact q) (evcons (@rfl V (V.mp 0 v 0 0)) (evcons (@rfl V (V.str ([45,62]))) evnil)) rfl h0 rfl rfl (fork_ (R:=fun T H=>T 0=(V.mp 0 v 0 0)∧T 2=(V.mp 2 1 0 0)∧T 3=(V.mp 3 1 0 0)∧T 7=(V.mp 0 v 0 0)∧T 8=(V.bool b)∧H 0=(bk v 85 7 [[(V.sl (List.map cS (e.ia))),(V.sl (List.map cS (e.oa))),(V.str e.src),(iV ((s2.pos:Nat):Int)),(iV (s2.dep)),(iV (s2.er)),(iV ((s2.wh:Nat):Int))]])∧H 2=(bk 1 24 3 [[(iV (0:Int)),(iV (0:Int)),V.nilsl]])∧H 3=(bk 1 24 3 [[(iV (f1.op)),(iV (f1.arg)),(V.sl (List.map cF (f1.kids)))]])∧H 4=(⟨0,false,false,0,0,[]⟩:Blk)∧True) ⟨t0,t2,(@rfl V (V.mp 3 1 0 0)),(@rfl V (V.mp 0 v 0 0)),(@rfl V (V.bool b)),rfl,h2,rfl,h4,trivial⟩ ?_)
  intro T H ⟨t0,t2,t3,t7,t8,h0,h2,h3,h4,_⟩
  refine W_r (R_notb t8 (R_e ?_))
  refine W_seq_ifb rfl (fun c1=>?_) (fun c1=>?_)
  ·
   have hb:b=false:=by have q:=c1; rwa [Bool.not_eq_true'] at q
   refine W_seq_seq (W_r (R_lk t3 h3 rfl rfl (R_sk t2 rfl rfl h2 rfl rfl rfl rfl rfl (R_e (W_seq_ret ?_)))))
   refine RetL_ok (v:=(V.agg [(iV (f1.op)),(iV (f1.arg)),(V.sl (List.map cF (f1.kids)))])) (b:=(bk v 85 7 [[(V.sl (List.map cS (e.ia))),(V.sl (List.map cS (e.oa))),(V.str e.src),(iV ((s2.pos:Nat):Int)),(iV (s2.dep)),(iV (s2.er)),(iV ((s2.wh:Nat):Int))]])) (resT1 (resV_c (u:=(V.agg [(iV (f1.op)),(iV (f1.arg)),(V.sl (List.map cF (f1.kids)))])) t2 (@rfl Blk (bk 1 24 3 [[(iV (f1.op)),(iV (f1.arg)),(V.sl (List.map cF (f1.kids)))]])) (lB oB rfl rfl))) ?_ (by simp) (.same (cut_fin 1 _) _) h0 (by simp [locB,loc0])
   subst hb; rw [rF,hx] at h; simp only [hs2] at h; cases h; rfl
  have hb:b=true:=by have q:=c1; rwa [Bool.not_eq_false'] at q
  refine W_seq_skip (W_seq_seq (W_r (R_mv t0 (R_e (W_seq_seq ?_)))))
  obtain ⟨s3,hs3⟩: ∃ q,rOpen e s2=q:=⟨_,rfl⟩
  obtain ⟨ks3,ks3d⟩:=rOpen_inv ks2 (ks2b hb)
  rw [hs3] at ks3 ks3d
  refine pop_ok (i:=0) (by have q:=ropen_loc v e s2 ks2 (ks2b hb); rw [hs3] at q; exact q) (evcons (@rfl V (V.mp 0 v 0 0)) evnil) rfl h0 rfl rfl (fork_ (R:=fun T H=>T 0=(V.mp 0 v 0 0)∧T 2=(V.mp 2 1 0 0)∧T 3=(V.mp 3 1 0 0)∧T 11=(V.mp 0 v 0 0)∧T 12=(V.tup [])∧H 0=(bk v 85 7 [[(V.sl (List.map cS (e.ia))),(V.sl (List.map cS (e.oa))),(V.str e.src),(iV ((s3.pos:Nat):Int)),(iV (s3.dep)),(iV (s3.er)),(iV ((s3.wh:Nat):Int))]])∧H 2=(bk 1 24 3 [[(iV (0:Int)),(iV (0:Int)),V.nilsl]])∧H 3=(bk 1 24 3 [[(iV (f1.op)),(iV (f1.arg)),(V.sl (List.map cF (f1.kids)))]])∧H 4=(⟨0,false,false,0,0,[]⟩:Blk)∧True) ⟨t0,t2,t3,(@rfl V (V.mp 0 v 0 0)),(@rfl V (V.tup [])),rfl,h2,h3,h4,trivial⟩ ?_)
  intro T H ⟨t0,t2,t3,t11,t12,h0,h2,h3,h4,_⟩
  refine W_reg0 (W_seq_seq (W_r (R_mv t0 (R_e (W_seq_seq ?_)))))
  rcases hy:rF e k .form s3 with _|⟨f4,s4⟩
  ·
   exfalso; subst hb; rw [rF,hx] at h; simp only [hs2,hs3,hy,rMapD] at h; cases h
  ·
   obtain ⟨ks4,ks4d⟩:=rF_keeps e k .form _ _ _ ks3 (fun q=>by cases q) hy
   refine pop_ok (i:=0) (rihF _ _ _ ks3 hy) (evcons (@rfl V (V.mp 0 v 0 0)) evnil) rfl h0 rfl rfl (fork_ (R:=fun T H=>T 0=(V.mp 0 v 0 0)∧T 2=(V.mp 2 1 0 0)∧T 3=(V.mp 3 1 0 0)∧T 13=(V.mp 0 v 0 0)∧T 14=(V.agg [(iV (f4.op)),(iV (f4.arg)),(V.sl (List.map cF (f4.kids)))])∧H 0=(bk v 85 7 [[(V.sl (List.map cS (e.ia))),(V.sl (List.map cS (e.oa))),(V.str e.src),(iV ((s4.pos:Nat):Int)),(iV (s4.dep)),(iV (s4.er)),(iV ((s4.wh:Nat):Int))]])∧H 2=(bk 1 24 3 [[(iV (0:Int)),(iV (0:Int)),V.nilsl]])∧H 3=(bk 1 24 3 [[(iV (f1.op)),(iV (f1.arg)),(V.sl (List.map cF (f1.kids)))]])∧H 4=(⟨0,false,false,0,0,[]⟩:Blk)∧True) ⟨t0,t2,t3,(@rfl V (V.mp 0 v 0 0)),(@rfl V (V.agg [(iV (f4.op)),(iV (f4.arg)),(V.sl (List.map cF (f4.kids)))])),rfl,h2,h3,h4,trivial⟩ ?_)
   intro T H ⟨t0,t2,t3,t13,t14,h0,h2,h3,h4,_⟩
   refine W_r (R_alloc (i:=4) (n:=0) (m:=3) rfl (congrArg Blk.ver h4) rfl (R_sk rfl t14 rfl rfl rfl rfl rfl rfl rfl (R_e (W_r (R_mv t0 (R_nilck_mp rfl h0 oB (R_fk rfl h0 ?_)))))))
   refine R_lk rfl h0 rfl rfl (R_sub rfl rfl (by omega) (by omega) (R_nilck_mp rfl h0 oB (R_fk rfl h0 (R_sk rfl rfl rfl h0 rfl rfl rfl rfl rfl (R_e (W_r (R_lk t3 h3 rfl rfl ?_)))))))
   refine R_bslice rfl rfl (R_callk (rnode_pure ((4:Int)) ([f1])) (evcons rfl (evcons (sl_F1 (x:=f1) rfl) evnil)) (R_lk rfl rfl rfl rfl (R_bslice rfl rfl (R_callk (rnode_pure ((6:Int)) ([(Fm.nd (4:Int) (0:Int) [f1]),f4])) (evcons rfl (evcons (sl_F2 (x:=((Fm.nd (4:Int) (0:Int) [f1]))) (y:=f4) rfl) evnil)) (R_sk t2 rfl rfl h2 rfl rfl rfl rfl rfl (R_e (W_ret ?_)))))))
   refine RetL_ok (v:=(V.agg [(iV (((6:Int)))),(iV (0:Int)),(V.sl (List.map cF (([(Fm.nd (4:Int) (0:Int) [f1]),f4]))))])) (b:=(bk v 85 7 [[(V.sl (List.map cS (e.ia))),(V.sl (List.map cS (e.oa))),(V.str e.src),(iV ((s4.pos:Nat):Int)),(iV ((s4.dep) - (1:Int))),(iV (s4.er)),(iV ((s4.wh:Nat):Int))]])) (resT1 (resV_c (u:=(V.agg [(iV (((6:Int)))),(iV (0:Int)),(V.sl (List.map cF (([(Fm.nd (4:Int) (0:Int) [f1]),f4]))))])) t2 (@rfl Blk (bk 1 24 3 [[(iV (((6:Int)))),(iV (0:Int)),(V.sl (List.map cF (([(Fm.nd (4:Int) (0:Int) [f1]),f4]))))]])) (lB oB rfl rfl))) ?_ (by simp) (.same (cut_fin 1 _) _) (@rfl Blk (bk v 85 7 [[(V.sl (List.map cS (e.ia))),(V.sl (List.map cS (e.oa))),(V.str e.src),(iV ((s4.pos:Nat):Int)),(iV ((s4.dep) - (1:Int))),(iV (s4.er)),(iV ((s4.wh:Nat):Int))]])) (by simp [locB,loc0])
   subst hb; rw [rF,hx] at h; simp only [hs2,hs3,hy,rMapD] at h; cases h; rfl
def b65_0:SC:=.seq (.seq (.seq (.reg [qM 7 0]) (.seq (.pop (some 8) (.call 66 [.t 7,.c (.str [124])])) (.reg []))) (.cond (.t 8) (.skip) (.exit 0))) (.block 1 (.seq (.reg [qM 9 3,qM 10 0]) (.seq (.pop (some 11) (.call 82 [.t 10])) (.reg [sO 12 (.bslice 24 3 false [.int .i64 0,.int .i64 0,.nilsl] 1 [(0,.t 11)]),sO 13 (.append 24 3 40 (.t 9) (.t 12)),qM 3 13]))))
def s65:SF:=⟨22,[.cell 2 true 3],.seq (.reg [sO 2 (.alloc 24 [.int .i64 0,.int .i64 0,.nilsl])]) (.seq (.seq (.reg [qM 4 0]) (.seq (.pop (some 5) (.call 82 [.t 4])) (.reg [sO 6 (.bslice 24 3 true [.int .i64 0,.int .i64 0,.nilsl] 1 [(0,.t 5)]),qM 3 6]))) (.seq (.block 0 (.loop b65_0)) (.seq (.seq (.reg [qM 14 3,qN 15 14,qC 16 .eql 15 1]) (.cond (.t 16) (.seq (.reg [qM 17 3,sO 18 (.idx 3 (.t 17) (.c (.int .i64 0))),qL 19 3 18,sN (.store 3 (.t 2) (.t 19))]) (.ret)) (.skip))) (.seq (.reg [qM 20 3,sO 21 (.build [.int .i64 0,.int .i64 0,.nilsl] [(0,1,.c (.int .i64 6)),(2,1,.t 20)]),sN (.store 3 (.t 2) (.t 21))]) (.ret)))))⟩
theorem s65_ok:slimF Try.prog ⟨[31,36,37,38,40,41,42,44,45,59,60,61,65,66,67,71,72,73,81,82,84,92,93,98,99,102,104],[6],[36,37,38,40,41,42,59,60,61,65,66,67,81,82,92,93,98,99,102,104],[]⟩ Try.f65=some s65:=by kernel_rfl
end Go.Proofs.Ytdmcmkccifmofaa
