/- Contracts of the functions that the law TA reaches, and the law itself, for every input; no condition. -/
import Derived.KernelRfl
import Derived.Test.YtmnjchcoigbngabGreatProg
import Derived.Test.YtmnjchcoigbngabGreatRows
import Derived.Test.YtmnjchcoigbngabGreatTA4
set_option linter.unusedSimpArgs false
set_option linter.unusedVariables false
namespace Go.Proofs.YtmnjchcoigbngabGreat
open Go Go.Proofs
def r84_4:List SO:=[
 qM 17 1,
 qC 18 .lss 17 0,
 qM 19 18,
 ⟨some (19,false),some 20,.mv (.t 1)⟩,
 ⟨some (19,false),some 21,.fld 2 (.t 3)⟩,
 ⟨some (19,false),some 22,.load false 1 (.t 21)⟩,
 ⟨some (19,false),some 23,.len (.t 22)⟩,
 ⟨some (19,false),some 24,.bin .geq (.t 20) (.t 23)⟩,
 sO 25 (.pick (.t 19) (.c (.bool true)) (.t 24)),
 qM 26 25,
 ⟨some (26,false),some 27,.mv (.t 2)⟩,
 ⟨some (26,false),some 28,.bin .lss (.t 27) (.c (.int .i64 0))⟩,
 sO 29 (.pick (.t 26) (.c (.bool true)) (.t 28)),
 qM 30 29,
 ⟨some (30,false),some 31,.mv (.t 2)⟩,
 ⟨some (30,false),some 32,.fld 2 (.t 3)⟩,
 ⟨some (30,false),some 33,.load false 1 (.t 32)⟩,
 ⟨some (30,false),some 34,.len (.t 33)⟩,
 ⟨some (30,false),some 35,.bin .geq (.t 31) (.t 34)⟩,
 sO 36 (.pick (.t 30) (.c (.bool true)) (.t 35))]
def r84_6:List SO:=[
 qL 38 4 3,
 qL 39 4 3,
 qM 40 1,
 qM 41 2,
 sO 42 (.call false 134 [.t 38,.t 39,.t 40,.t 41]),
 qM 37 42,
 qE 43 37 0,
 qE 44 37 1,
 qM 10 43,
 qM 11 44]
def s84:SF:=⟨47,[.tmp 6,.tmp 7,.tmp 8],.seq (.reg [sO 3 (.box 46 4 (.t 0)),sO 6 (.mv (.c (.nilsl))),sO 7 (.mv (.c (.bool false))),qI 8 0]) (.seq (.seq (.reg [qL 12 4 3,sO 13 (.call false 26 [.t 12]),qM 9 13]) (.seq (.reg [qM 14 9,qC 15 .neq 14 0]) (.cond (.t 15) (.seq (.reg [qM 16 9,sO 6 (.mv (.c (.nilsl))),sO 7 (.mv (.c (.bool false))),qM 8 16]) (.ret)) (.skip)))) (.seq (.seq (.reg r84_4) (.cond (.t 36) (.seq (.reg [sO 6 (.mv (.c (.nilsl))),sO 7 (.mv (.c (.bool false))),qI 8 2]) (.ret)) (.skip))) (.seq (.reg r84_6) (.seq (.reg [qM 45 10,qM 46 11,qM 6 45,qM 7 46,qI 8 0]) (.ret)))))⟩
theorem s84_ok:slimF Tryz.prog ⟨[107,108,109,116,120,126,127,167,169,170,171,172,194,196,198,209,222,226],[]⟩ Tryz.f84=some s84:=by kernel_rfl
def r134_8:List SO:=[
 qM 34 10,
 qM 35 11,
 qA 36 3 34 35,
 qF 37 2 36,
 ql 38 37,
 qM 39 12,
 sO 40 (.call false 176 [.t 38,.t 39]),
 qM 13 40]
def r134_9:List SO:=[
 qF 41 3 4,
 ql 42 41,
 qM 43 10,
 qM 44 11,
 qA 45 3 43 44,
 qF 46 0 45,
 ql 47 46,
 qA 48 1 42 47,
 ql 49 48,
 qM 50 12,
 qA 51 1 49 50,
 ql 52 51,
 qF 53 3 5,
 ql 54 53,
 qM 55 10,
 qM 56 11,
 qA 57 3 55 56,
 qF 58 1 57,
 ql 59 58,
 qA 60 1 54 59,
 ql 61 60,
 qM 62 12,
 qA 63 1 61 62,
 ql 64 63,
 qP 65 .neq 52 64]
def r134_11:List SO:=[
 qF 67 2 4,
 ql 68 67,
 qM 69 10,
 qM 70 11,
 qA 71 3 69 70,
 qF 72 0 71,
 ql 73 72,
 qA 74 1 68 73,
 ql 75 74,
 qM 76 12,
 qA 77 1 75 76,
 ql 78 77,
 qF 79 2 5,
 ql 80 79,
 qM 81 10,
 qM 82 11,
 qA 83 3 81 82,
 qF 84 1 83,
 ql 85 84,
 qA 86 1 80 85,
 ql 87 86,
 qM 88 12,
 qA 89 1 87 88,
 ql 90 89,
 qM 14 78,
 qM 15 90]
def r134_16:List SO:=[
 qM 97 16,
 qM 98 97,
 ⟨some (98,false),some 99,.mv (.t 10)⟩,
 ⟨some (98,false),some 100,.mv (.t 17)⟩,
 ⟨some (98,false),some 101,.idx 3 (.t 99) (.t 100)⟩,
 ⟨some (98,false),some 102,.fld 0 (.t 101)⟩,
 ⟨some (98,false),some 103,.load false 1 (.t 102)⟩,
 ⟨some (98,false),some 104,.mv (.t 14)⟩,
 ⟨some (98,false),some 105,.bin .eql (.t 103) (.t 104)⟩,
 ⟨some (98,false),some 106,.mv (.t 105)⟩,
 ⟨some (106,true),some 107,.mv (.t 10)⟩,
 ⟨some (106,true),some 108,.mv (.t 17)⟩,
 ⟨some (106,true),some 109,.idx 3 (.t 107) (.t 108)⟩,
 ⟨some (106,true),some 110,.fld 1 (.t 109)⟩,
 ⟨some (106,true),some 111,.load false 1 (.t 110)⟩,
 ⟨some (106,true),some 112,.mv (.t 15)⟩,
 ⟨some (106,true),some 113,.bin .eql (.t 111) (.t 112)⟩,
 ⟨some (98,false),some 114,.pick (.t 106) (.t 113) (.c (.bool false))⟩,
 sO 115 (.pick (.t 98) (.c (.bool true)) (.t 114)),
 qM 16 115]
def b134_2:SC:=.seq (.seq (.reg [qM 91 17,qM 92 10,qN 93 92,qP 94 .lss 91 93]) (.cond (.t 94) (.skip) (.exit 4))) (.seq (.block 5 (.reg r134_16)) (.reg [qM 95 17,qC 96 .add 95 1,qM 17 96]))
def r134_18:List SO:=[
 qM 118 10,
 qM 119 14,
 qM 120 15,
 qM 121 13,
 sO 122 (.build [.int .i64 0,.int .i64 0,.nilsl] [(0,1,.t 119),(1,1,.t 120),(2,1,.t 121)]),
 sO 123 (.bslice 217 3 false [.int .i64 0,.int .i64 0,.nilsl] 1 [(0,.t 122)]),
 sO 124 (.append 217 3 40 (.t 118) (.t 123)),
 qM 10 124]
def b134_1:SC:=.seq (.seq (.reg [qM 28 12,qF 29 0 4,ql 30 29,qP 31 .lss 28 30]) (.cond (.t 31) (.skip) (.exit 2))) (.seq (.block 3 (.seq (.reg r134_8) (.seq (.seq (.reg r134_9) (.cond (.t 65) (.seq (.reg [qM 66 13,qM 8 66,sO 9 (.mv (.c (.bool true)))]) (.ret)) (.skip))) (.seq (.reg r134_11) (.seq (.reg [sO 16 (.mv (.c (.bool false)))]) (.seq (.seq (.reg [qI 17 0]) (.block 4 (.loop b134_2))) (.seq (.reg [qM 116 16,sO 117 (.un .not (.t 116))]) (.cond (.t 117) (.reg r134_18) (.skip))))))))) (.reg [qM 32 12,qC 33 .add 32 1,qM 12 33]))
def b134_0:SC:=.seq (.seq (.reg [qM 22 11,qM 23 10,qN 24 23,qP 25 .lss 22 24]) (.cond (.t 25) (.skip) (.exit 0))) (.seq (.block 1 (.seq (.reg [qI 12 0]) (.block 2 (.loop b134_1)))) (.reg [qM 26 11,qC 27 .add 26 1,qM 11 27]))
def s134:SF:=⟨125,[.tmp 8,.tmp 9],.seq (.reg [sO 4 (.box 46 4 (.t 0)),sO 5 (.box 46 4 (.t 1)),sO 8 (.mv (.c (.nilsl))),sO 9 (.mv (.c (.bool false)))]) (.seq (.reg [qM 18 2,qM 19 3,sO 20 (.build [.int .i64 0,.int .i64 0,.nilsl] [(0,1,.t 18),(1,1,.t 19)]),sO 21 (.bslice 217 3 true [.int .i64 0,.int .i64 0,.nilsl] 1 [(0,.t 20)]),qM 10 21]) (.seq (.seq (.reg [qI 11 0]) (.block 0 (.loop b134_0))) (.seq (.reg [sO 8 (.mv (.c (.nilsl))),sO 9 (.mv (.c (.bool false)))]) (.ret))))⟩
theorem s134_ok:slimF Tryz.prog ⟨[107,108,109,116,120,126,127,167,169,170,171,172,194,196,198,209,222,226],[21]⟩ Tryz.f134=some s134:=by kernel_rfl
def s176:SF:=⟨14,[.tmp 4],.seq (.reg [sO 4 (.mv (.c (.nilsl)))]) (.seq (.reg [sO 5 (.lazy 3 1)]) (.seq (.reg [qM 6 5,qM 7 0,sO 8 (.append 3 1 8 (.t 6) (.t 7)),qM 5 8]) (.seq (.reg [qM 9 5,qM 10 1,sO 11 (.bslice 3 1 false [.int .i64 0] 1 [(0,.t 10)]),sO 12 (.append 3 1 8 (.t 9) (.t 11)),qM 5 12]) (.seq (.reg [qM 13 5,qM 4 13]) (.ret)))))⟩
theorem s176_ok:slimF Tryz.prog ⟨[107,108,109,116,120,126,127,167,169,170,171,172,194,196,198,209,222,226],[5]⟩ Tryz.f176=some s176:=by kernel_rfl
theorem ext9_pure (w:List Int) (a:Int) (hl:w.length≤1048576):PureC Tryz.prog 176 [(ints w),(iV (a))] (ints (snW w a)):=by
 refine pW Tryz.func176 s176_ok fun hB=>?_
 unfold s176
 dsimp only
 refine W_r (R_mv rfl (R_e (W_r (R_lazy (i:=5) (n:=0) rfl (congrArg Blk.ver rfl) (R_e (W_r (R_mv rfl ?_)))))))
 refine R_mv rfl (R_appendS (l:=([])) (m:=w) (f:=cI) (@rfl V (V.ms 5 1 0 (0))) (show _=(bz 1 3 1 (List.map cI ([]))) from (@rfl Blk (bz 1 3 1 []))) (by rfl) (@rfl V (ints w)) (fun _=>rfl) (fun _=>rfl) (by omega) (by omega) (R_mv rfl (R_e (W_r (R_mv rfl (R_mv rfl (R_bslice rfl rfl ?_)))))))
 refine R_append1 (l:=([]++w)) (f:=cI) (x:=a) (@rfl V (V.ms 5 2 0 (0+(w).length))) (@rfl Blk (bz 2 3 1 (List.map cI ([]++w)))) (by simp) (@rfl V (V.sl [[(iV (a))]])) rfl rfl (by omega) (by omega) (R_mv rfl (R_e (W_r (R_mv rfl (R_mv rfl (R_e (W_ret ?_)))))))
 refine Ret_1 (@rfl V (V.ms 5 3 0 ((0+(w).length)+1))) (fz_ms (@rfl Blk (bz 3 3 1 (List.map cI ([]++w++[a])))) (by rfl) (l:=([]++w++[a])) rfl (by simp) (fun _=>by simp) ?_)
 · first|rfl|(simp; rfl)
theorem first9_pure (a b:M) (s t:Int) (hma:mval a=0) (hmb:mval b=0) (hi:a.i=b.i) (hs:0≤s∧s < a.nx.length) (ht:0≤t∧t < b.nx.length):PureC Tryz.prog 134 [(V.agg [(iV (a.i)),(iV (a.s)),(intss a.nx),(intss a.ot)]),(V.agg [(iV (b.i)),(iV (b.s)),(intss b.nx),(intss b.ot)]),(iV (s)),(iV (t))] (V.tup [(ints ((dst a b s t).getD [])),(V.bool ((dst a b s t).isSome))]):=by
 refine pW Tryz.func134 s134_ok fun hB=>?_
 unfold s134
 dsimp only
 have hqa:=mval_ok hma
 have hqb:=mval_ok hmb
 have hab:a.nx.length*b.nx.length≤128*128:=Nat.mul_le_mul hqa.2.2.2.1 hqb.2.2.2.1
 refine W_r (R_box (i:=4) (n:=0) (m:=4) (cs:=[(iV (a.i)),(iV (a.s)),(intss a.nx),(intss a.ot)]) rfl (congrArg Blk.ver rfl) rfl rfl rfl (R_box (i:=5) (n:=0) (m:=4) (cs:=[(iV (b.i)),(iV (b.s)),(intss b.nx),(intss b.ot)]) rfl (congrArg Blk.ver rfl) rfl rfl rfl (R_mv rfl (R_mv rfl (R_e ?_)))))
 refine W_seq_g (fun T H=>T 4=(V.mp 4 1 0 0)∧T 5=(V.mp 5 1 0 0)∧T 10=(V.ms 21 1 0 (1))∧H 4=(bk 1 46 4 [[(iV (a.i)),(iV (a.s)),(intss a.nx),(intss a.ot)]])∧H 5=(bk 1 46 4 [[(iV (b.i)),(iV (b.s)),(intss b.nx),(intss b.ot)]])∧H 21=(bk 1 217 3 [[(iV (s)),(iV (t)),V.nilsl]])∧True) ?_ ?_
 ·
  refine R_mv rfl (R_mv rfl (R_build rfl rfl (R_bslice_own (i:=21) (n:=0) (qs:=[(0,(V.agg [(iV (s)),(iV (t)),V.nilsl]))]) (rows:=[[(iV (s)),(iV (t)),V.nilsl]]) rfl (congrArg Blk.ver rfl) (mcons (congrArg (fun v=>(0,v)) rfl) rfl) rfl (R_mv rfl ?_))))
  exact R_nil ⟨rfl,rfl,rfl,rfl,rfl,rfl,trivial⟩
 intro T H ⟨t4,t5,t10,h4,h5,h21,_⟩
 refine nza_map (l:=([])) (m:=([(⟨s,t,[]⟩:Pr)])) (f:=cPr) h21 rfl (.done ?_)
 refine fork_ (R:=fun T H=>T 4=(V.mp 4 1 0 0)∧T 5=(V.mp 5 1 0 0)∧T 10=(V.ms 21 1 0 (1))∧H 4=(bk 1 46 4 [[(iV (a.i)),(iV (a.s)),(intss a.nx),(intss a.ot)]])∧H 5=(bk 1 46 4 [[(iV (b.i)),(iV (b.s)),(intss b.nx),(intss b.ot)]])∧H 21=(bk 1 217 3 (List.map cPr ([]++[(⟨s,t,[]⟩:Pr)])))∧True) ⟨t4,t5,t10,((upd_ne _ _ (by decide)).trans h4),((upd_ne _ _ (by decide)).trans h5),(upd_same _ _ _),trivial⟩ ?_
 intro T H ⟨t4,t5,t10,h4,h5,h21,_⟩
 refine W_seq_seq (W_r (R_mv rfl (R_e (W_seq_blockg fun Q1 n1 x1 y1 z1=>?_))))
 refine W_loop (fun mm T H=> ∃ (i:Nat) (v:Nat) (L:List Pr),mm=a.nx.length*b.nx.length+1 - i∧T 4=(V.mp 4 1 0 0)∧T 5=(V.mp 5 1 0 0)∧T 10=(V.ms 21 v 0 (L.length))∧T 11=(iV ((i:Nat):Int))∧H 4=(bk 1 46 4 [[(iV (a.i)),(iV (a.s)),(intss a.nx),(intss a.ot)]])∧H 5=(bk 1 46 4 [[(iV (b.i)),(iV (b.s)),(intss b.nx),(intss b.ot)]])∧H 21=(bk v 217 3 (List.map cPr (L)))∧(i≤L.length)∧(BI a b s t L)∧(dst a b s t=bq a b (a.nx.length*b.nx.length+1 - i) i L)) ?_ ?_
 ·
  refine ⟨_,0,1,[⟨s,t,[]⟩],rfl,t4,t5,(Eq.trans t10 (by rfl)),(Eq.trans (@rfl V (iV (0:Int))) rfl),h4,h5,(Eq.trans h21 (by rfl)),?_,?_,?_⟩
  · simp
  · exact BI.start hs.1 hs.2 ht.1 ht.2
  · rfl
 intro mm T H ⟨i,v,L,hmm,t4,t5,t10,t11,h4,h5,h21,hk,hbi,hc⟩ Q2 p12 p22 p32
 unfold b134_0
 have hln:=hbi.len
 refine W_seq_seq (W_r (R_mv t11 (R_mv t10 (R_len_ms rfl h21 (by simp) (R_lss rfl rfl (R_e ?_))))))
 refine W_seq_if rfl (fun c3=>?_) fun c3=>?_
 ·
  have hil:i < L.length:=by omega
  refine W_seq_skip (W_seq_blockg fun Q4 n4 x4 y4 z4=>(W_r (R_mv rfl (R_e (W_block fun Q5 n5 x5 y5 z5=>?_)))))
  refine W_loop (fun mm T H=> ∃ (x:Nat) (v2:Nat),mm=a.i.toNat - x∧T 4=(V.mp 4 1 0 0)∧T 5=(V.mp 5 1 0 0)∧T 10=(V.ms 21 v2 0 ((bqR a b (nth L i) L x).length))∧T 11=(iV ((i:Nat):Int))∧T 12=(iV ((x:Nat):Int))∧H 4=(bk 1 46 4 [[(iV (a.i)),(iV (a.s)),(intss a.nx),(intss a.ot)]])∧H 5=(bk 1 46 4 [[(iV (b.i)),(iV (b.s)),(intss b.nx),(intss b.ot)]])∧H 21=(bk v2 217 3 (List.map cPr (bqR a b (nth L i) L x)))∧(x≤a.i.toNat)∧(∀ j,j < x→bqD a b (nth L i) j=false)) ?_ ?_
  ·
   refine ⟨_,0,v,rfl,t4,t5,(Eq.trans t10 (by rfl)),t11,(Eq.trans (@rfl V (iV (0:Int))) rfl),h4,h5,(Eq.trans h21 (by rfl)),?_,?_⟩
   · omega
   · intro j hj; omega
  intro mm T H ⟨x,v2,hmm,t4,t5,t10,t11,t12,h4,h5,h21,hx,hdx⟩ Q6 p16 p26 p36
  unfold b134_1
  refine W_seq_seq (W_r (R_mv t12 (R_fk t4 h4 (R_lk rfl h4 rfl rfl (R_lss rfl rfl (R_e ?_))))))
  refine W_seq_if rfl (fun c7=>?_) fun c7=>?_
  ·
   have r0:=hbi.row hma hmb hi hil (x:=x) (by omega) hdx
   have r9:=r0.len
   have r1:i < (bqR a b (nth L i) L x).length:=Nat.lt_of_lt_of_le hil bqR_len
   have r2:nth (bqR a b (nth L i) L x) i=nth L i:=bqR_nth hil
   have r3:=hbi.rg _ (nth_mem hil)
   have r4:=hbi.ln i hil
   have r5:=mv_rows hma r3.1 r3.2.1
   have r6:=mv_rows hmb r3.2.2.1 r3.2.2.2
   refine W_seq_skip (W_seq_blockg fun Q8 n8 x8 y8 z8=>(W_r (R_mv t10 (R_mv t11 (R_idx_ms0 (i:=i) (@rfl V (V.ms 21 v2 0 ((bqR a b (nth L i) L x).length))) (@rfl V (iV ((i:Nat):Int))) h21 oB rfl (by omega) (R_fk rfl h21 (R_load_mp (v:=(ints (((nth (bqR a b (nth L i) L x) (i))).w))) rfl h21 (ldB_map (by omega) (by rfl)) ?_)))))))
   refine R_mv t12 (R_callk (ext9_pure (((nth (bqR a b (nth L i) L x) (i))).w) (((x:Nat):Int)) (by simp only [r2]; omega)) rfl (R_mv rfl (R_e (W_seq_seq (W_r (R_fk t4 h4 (R_lk rfl h4 rfl rfl ?_)))))))
   refine R_mv t10 (R_mv t11 (R_idx_ms0 (i:=i) (@rfl V (V.ms 21 v2 0 ((bqR a b (nth L i) L x).length))) (@rfl V (iV ((i:Nat):Int))) h21 oB rfl (by omega) (R_fk rfl h21 (R_load_mp (v:=(iV (((nth (bqR a b (nth L i) L x) (i))).s))) rfl h21 (ldB_map (by omega) (by rfl)) (R_idxI (i:=(((nth (bqR a b (nth L i) L x) (i))).s)) (@rfl V (intss a.ot)) (@rfl V (iV (((nth (bqR a b (nth L i) L x) (i))).s))) (by (simp only [r2]; omega)) (by (simp only [r2]; omega)) rfl (R_load_pp rfl rfl (R_mv t12 ?_)))))))
   refine R_idx (i:=x) (@rfl V (ints ((nth (a.ot) (((nth (bqR a b (nth L i) L x) (i))).s).toNat)))) (@rfl V (iV ((x:Nat):Int))) (by (simp only [r2]; omega)) rfl (R_load_pp rfl rfl (R_fk t5 h5 (R_lk rfl h5 rfl rfl (R_mv t10 (R_mv t11 (R_idx_ms0 (i:=i) (@rfl V (V.ms 21 v2 0 ((bqR a b (nth L i) L x).length))) (@rfl V (iV ((i:Nat):Int))) h21 oB rfl (by omega) (R_fk rfl h21 ?_)))))))
   refine R_load_mp (v:=(iV (((nth (bqR a b (nth L i) L x) (i))).t))) rfl h21 (ldB_map (by omega) (by rfl)) (R_idxI (i:=(((nth (bqR a b (nth L i) L x) (i))).t)) (@rfl V (intss b.ot)) (@rfl V (iV (((nth (bqR a b (nth L i) L x) (i))).t))) (by (simp only [r2]; omega)) (by (simp only [r2]; omega)) rfl (R_load_pp rfl rfl (R_mv t12 (R_idx (i:=x) (@rfl V (ints ((nth (b.ot) (((nth (bqR a b (nth L i) L x) (i))).t).toNat)))) (@rfl V (iV ((x:Nat):Int))) (by (simp only [r2]; omega)) rfl (R_load_pp rfl rfl (R_neq rfl rfl (R_e ?_)))))))
   refine W_seq_if rfl (fun c9=>?_) fun c9=>?_
   ·
    have d1:bqD a b (nth L i) x=true:=by unfold bqD; have q:=c9; simp only [r2] at q; exact decide_eq_true q
    have hz:dst a b s t=some ((nth L i).w++[(x:Int)]):=by rw [hc,bq_hit hil (by omega) (by omega) d1 hdx]
    refine W_seq_seq (W_r (R_mv rfl (R_mv rfl (R_mv rfl (R_e (W_seq_ret (y8 _ _ ?_)))))))
    refine p26 _ _ (y5 _ _ (y4 _ _ (p22 _ _ (y1 _ _ ?_))))
    refine Ret_2 (@rfl V (ints (snW (((nth (bqR a b (nth L i) L x) (i))).w) (((x:Nat):Int))))) (@rfl V (V.bool true)) (fz_sl ?_ (fun _=>by simp)) (fz_bool ?_)
    · rw [hz]; simp only [r2]; rfl
    · rw [hz]; rfl
   have d1:bqD a b (nth L i) x=false:=by unfold bqD; have q:=c9; simp only [r2] at q; exact decide_eq_false q
   refine W_seq_skip ?_
   refine W_seq_regc (fun T H=>T 4=(V.mp 4 1 0 0)∧T 5=(V.mp 5 1 0 0)∧T 10=(V.ms 21 v2 0 ((bqR a b (nth L i) L x).length))∧T 11=(iV ((i:Nat):Int))∧T 12=(iV ((x:Nat):Int))∧T 13=(ints (snW (((nth (bqR a b (nth L i) L x) (i))).w) (((x:Nat):Int))))∧T 14=(iV ((nth ((nth (a.nx) (((nth (bqR a b (nth L i) L x) (i))).s).toNat)) (x))))∧T 15=(iV ((nth ((nth (b.nx) (((nth (bqR a b (nth L i) L x) (i))).t).toNat)) (x))))∧H 4=(bk 1 46 4 [[(iV (a.i)),(iV (a.s)),(intss a.nx),(intss a.ot)]])∧H 5=(bk 1 46 4 [[(iV (b.i)),(iV (b.s)),(intss b.nx),(intss b.ot)]])∧H 21=(bk v2 217 3 (List.map cPr (bqR a b (nth L i) L x)))∧True) ?_ ?_
   ·
    refine R_fk t4 h4 (R_lk rfl h4 rfl rfl (R_mv t10 (R_mv t11 (R_idx_ms0 (i:=i) (@rfl V (V.ms 21 v2 0 ((bqR a b (nth L i) L x).length))) (@rfl V (iV ((i:Nat):Int))) h21 oB rfl (by omega) (R_fk rfl h21 (R_load_mp (v:=(iV (((nth (bqR a b (nth L i) L x) (i))).s))) rfl h21 (ldB_map (by omega) (by rfl)) (R_idxI (i:=(((nth (bqR a b (nth L i) L x) (i))).s)) (@rfl V (intss a.nx)) (@rfl V (iV (((nth (bqR a b (nth L i) L x) (i))).s))) (by (simp only [r2]; omega)) (by (simp only [r2]; omega)) rfl ?_)))))))
    refine R_load_pp rfl rfl (R_mv t12 (R_idx (i:=x) (@rfl V (ints ((nth (a.nx) (((nth (bqR a b (nth L i) L x) (i))).s).toNat)))) (@rfl V (iV ((x:Nat):Int))) (by (simp only [r2]; omega)) rfl (R_load_pp rfl rfl (R_fk t5 h5 (R_lk rfl h5 rfl rfl (R_mv t10 (R_mv t11 ?_)))))))
    refine R_idx_ms0 (i:=i) (@rfl V (V.ms 21 v2 0 ((bqR a b (nth L i) L x).length))) (@rfl V (iV ((i:Nat):Int))) h21 oB rfl (by omega) (R_fk rfl h21 (R_load_mp (v:=(iV (((nth (bqR a b (nth L i) L x) (i))).t))) rfl h21 (ldB_map (by omega) (by rfl)) (R_idxI (i:=(((nth (bqR a b (nth L i) L x) (i))).t)) (@rfl V (intss b.nx)) (@rfl V (iV (((nth (bqR a b (nth L i) L x) (i))).t))) (by (simp only [r2]; omega)) (by (simp only [r2]; omega)) rfl (R_load_pp rfl rfl (R_mv t12 (R_idx (i:=x) (@rfl V (ints ((nth (b.nx) (((nth (bqR a b (nth L i) L x) (i))).t).toNat)))) (@rfl V (iV ((x:Nat):Int))) (by (simp only [r2]; omega)) rfl (R_load_pp rfl rfl ?_)))))))
    refine R_mv rfl (R_mv rfl ?_)
    exact R_nil ⟨t4,t5,t10,t11,t12,rfl,rfl,rfl,h4,h5,h21,trivial⟩
   intro T H ⟨t4,t5,t10,t11,t12,t13,t14,t15,h4,h5,h21,_⟩
   refine W_r (R_mv rfl (R_e (W_seq_seq (W_r (R_mv rfl (R_e (W_seq_blockg fun Q10 n10 x10 y10 z10=>?_)))))))
   refine W_loop (fun mm T H=> ∃ (k:Nat),mm=(bqR a b (nth L i) L x).length - k∧T 4=(V.mp 4 1 0 0)∧T 5=(V.mp 5 1 0 0)∧T 10=(V.ms 21 v2 0 ((bqR a b (nth L i) L x).length))∧T 11=(iV ((i:Nat):Int))∧T 12=(iV ((x:Nat):Int))∧T 13=(ints (snW (((nth (bqR a b (nth L i) L x) (i))).w) (((x:Nat):Int))))∧T 14=(iV (nxS a (nth L i).s x))∧T 15=(iV (nxS b (nth L i).t x))∧T 16=(V.bool (knK (bqR a b (nth L i) L x) (nxS a (nth L i).s x) (nxS b (nth L i).t x) k))∧T 17=(iV ((k:Nat):Int))∧H 4=(bk 1 46 4 [[(iV (a.i)),(iV (a.s)),(intss a.nx),(intss a.ot)]])∧H 5=(bk 1 46 4 [[(iV (b.i)),(iV (b.s)),(intss b.nx),(intss b.ot)]])∧H 21=(bk v2 217 3 (List.map cPr (bqR a b (nth L i) L x)))∧(k≤(bqR a b (nth L i) L x).length)) ?_ ?_
   ·
    refine ⟨_,0,rfl,t4,t5,t10,t11,t12,t13,(Eq.trans t14 (by (simp only [r2]; rfl))),(Eq.trans t15 (by (simp only [r2]; rfl))),(Eq.trans (@rfl V (V.bool false)) (by rfl)),(Eq.trans (@rfl V (iV (0:Int))) rfl),h4,h5,h21,?_⟩
    · omega
   intro mm T H ⟨k,hmm,t4,t5,t10,t11,t12,t13,t14,t15,t16,t17,h4,h5,h21,hk3⟩ Q11 p111 p211 p311
   unfold b134_2
   refine W_seq_seq (W_r (R_mv t17 (R_mv t10 (R_len_ms rfl h21 (by simp) (R_lss rfl rfl (R_e ?_))))))
   refine W_seq_if rfl (fun c12=>?_) fun c12=>?_
   ·
    refine W_seq_skip (W_seq_blockg fun Q13 n13 x13 y13 z13=>(W_t (R_mv t16 (R_mv rfl ?_))))
    refine Ops_seg 17 (fun T H=>T 4=(V.mp 4 1 0 0)∧T 5=(V.mp 5 1 0 0)∧T 10=(V.ms 21 v2 0 ((bqR a b (nth L i) L x).length))∧T 11=(iV ((i:Nat):Int))∧T 12=(iV ((x:Nat):Int))∧T 13=(ints (snW (((nth (bqR a b (nth L i) L x) (i))).w) (((x:Nat):Int))))∧T 14=(iV (nxS a (nth L i).s x))∧T 15=(iV (nxS b (nth L i).t x))∧T 16=(V.bool (knK (bqR a b (nth L i) L x) (nxS a (nth L i).s x) (nxS b (nth L i).t x) k))∧T 17=(iV ((k:Nat):Int))∧T 115=(V.bool (((knK (bqR a b (nth L i) L x) (nxS a (nth L i).s x) (nxS b (nth L i).t x) k)||decide (((((nth (bqR a b (nth L i) L x) (k))).s)=(nxS a (nth L i).s x))∧((((nth (bqR a b (nth L i) L x) (k))).t)=(nxS b (nth L i).t x))))))∧H 4=(bk 1 46 4 [[(iV (a.i)),(iV (a.s)),(intss a.nx),(intss a.ot)]])∧H 5=(bk 1 46 4 [[(iV (b.i)),(iV (b.s)),(intss b.nx),(intss b.ot)]])∧H 21=(bk v2 217 3 (List.map cPr (bqR a b (nth L i) L x)))∧True) ?_ ?_
    ·
     by_cases g14:(knK (bqR a b (nth L i) L x) (nxS a (nth L i).s x) (nxS b (nth L i).t x) k)=true
     ·
      refine G_n (ebT g14 rfl) (G_n (ebT g14 rfl) (G_n (ebT g14 rfl) (G_n (ebT g14 rfl) (G_n (ebT g14 rfl) (G_n (ebT g14 rfl) (G_n (ebT g14 rfl) (G_n (ebT g14 rfl) ?_)))))))
      refine G_raw (@rfl V (V.raw undef)) (G_raw (@rfl V (V.raw undef)) (G_raw (@rfl V (V.raw undef)) (G_raw (@rfl V (V.raw undef)) (G_raw (@rfl V (V.raw undef)) (G_raw (@rfl V (V.raw undef)) (G_raw (@rfl V (V.raw undef)) (G_n (ebT g14 rfl) ?_)))))))
      refine R_pickT (ebT g14 rfl) rfl ?_
      exact ⟨t4,t5,t10,t11,t12,t13,t14,t15,t16,t17,(borT g14),h4,h5,h21,trivial⟩
     ·
      refine G_yes (ebF g14 rfl) (R_mv t10 (G_yes (ebF g14 rfl) (R_mv t17 (G_yes (ebF g14 rfl) (R_idx_ms0 (i:=k) (@rfl V (V.ms 21 v2 0 ((bqR a b (nth L i) L x).length))) (@rfl V (iV ((k:Nat):Int))) h21 oB rfl (by omega) (G_yes (ebF g14 rfl) (R_fk rfl h21 ?_)))))))
      refine G_yes (ebF g14 rfl) (R_load_mp (v:=(iV (((nth (bqR a b (nth L i) L x) (k))).s))) rfl h21 (ldB_map (by omega) (by rfl)) (G_yes (ebF g14 rfl) (R_mv t14 (G_yes (ebF g14 rfl) (R_eql rfl rfl (G_yes (ebF g14 rfl) (R_mv rfl ?_)))))))
      refine Ops_seg 8 (fun T H=>T 4=(V.mp 4 1 0 0)∧T 5=(V.mp 5 1 0 0)∧T 10=(V.ms 21 v2 0 ((bqR a b (nth L i) L x).length))∧T 11=(iV ((i:Nat):Int))∧T 12=(iV ((x:Nat):Int))∧T 13=(ints (snW (((nth (bqR a b (nth L i) L x) (i))).w) (((x:Nat):Int))))∧T 14=(iV (nxS a (nth L i).s x))∧T 15=(iV (nxS b (nth L i).t x))∧T 16=(V.bool (knK (bqR a b (nth L i) L x) (nxS a (nth L i).s x) (nxS b (nth L i).t x) k))∧T 17=(iV ((k:Nat):Int))∧T 98=(V.bool false)∧T 99=(V.ms 21 v2 0 ((bqR a b (nth L i) L x).length))∧T 100=(iV ((k:Nat):Int))∧T 101=(V.mp 21 v2 k 0)∧T 102=(V.mp 21 v2 k 0)∧T 103=(iV (((nth (bqR a b (nth L i) L x) (k))).s))∧T 104=(iV (nxS a (nth L i).s x))∧T 105=(V.bool (decide ((((nth (bqR a b (nth L i) L x) (k))).s)=(nxS a (nth L i).s x))))∧T 106=(V.bool (decide ((((nth (bqR a b (nth L i) L x) (k))).s)=(nxS a (nth L i).s x))))∧T 114=(V.bool (decide (((((nth (bqR a b (nth L i) L x) (k))).s)=(nxS a (nth L i).s x))∧((((nth (bqR a b (nth L i) L x) (k))).t)=(nxS b (nth L i).t x)))))∧H 4=(bk 1 46 4 [[(iV (a.i)),(iV (a.s)),(intss a.nx),(intss a.ot)]])∧H 5=(bk 1 46 4 [[(iV (b.i)),(iV (b.s)),(intss b.nx),(intss b.ot)]])∧H 21=(bk v2 217 3 (List.map cPr (bqR a b (nth L i) L x)))∧True) ?_ ?_
      ·
       by_cases g15:(((nth (bqR a b (nth L i) L x) (k))).s)=(nxS a (nth L i).s x)
       ·
        refine G_yes (edT g15 rfl) (R_mv t10 (G_yes (edT g15 rfl) (R_mv t17 (G_yes (edT g15 rfl) (R_idx_ms0 (i:=k) (@rfl V (V.ms 21 v2 0 ((bqR a b (nth L i) L x).length))) (@rfl V (iV ((k:Nat):Int))) h21 oB rfl (by omega) (G_yes (edT g15 rfl) (R_fk rfl h21 ?_)))))))
        refine G_yes (edT g15 rfl) (R_load_mp (v:=(iV (((nth (bqR a b (nth L i) L x) (k))).t))) rfl h21 (ldB_map (by omega) (by rfl)) (G_yes (edT g15 rfl) (R_mv t15 (G_yes (edT g15 rfl) (R_eql rfl rfl (G_yes (ebF g14 rfl) (R_pickT (edT g15 rfl) rfl ?_)))))))
        exact ⟨t4,t5,t10,t11,t12,t13,t14,t15,t16,t17,(ebF g14 rfl),rfl,rfl,rfl,rfl,rfl,rfl,rfl,rfl,(dec_andT g15),h4,h5,h21,trivial⟩
       ·
        refine G_n (edF g15 rfl) (G_n (edF g15 rfl) (G_n (edF g15 rfl) (G_n (edF g15 rfl) (G_n (edF g15 rfl) (G_n (edF g15 rfl) (G_n (edF g15 rfl) (G_yes (ebF g14 rfl) ?_)))))))
        refine R_pickF (edF g15 rfl) rfl ?_
        exact ⟨t4,t5,t10,t11,t12,t13,t14,t15,t16,t17,(ebF g14 rfl),rfl,rfl,rfl,rfl,rfl,rfl,rfl,rfl,(dec_andF g15),h4,h5,h21,trivial⟩
      intro T H ⟨t4,t5,t10,t11,t12,t13,t14,t15,t16,t17,t98,t99,t100,t101,t102,t103,t104,t105,t106,t114,h4,h5,h21,_⟩
      refine R_pickF t98 t114 ?_
      exact ⟨t4,t5,t10,t11,t12,t13,t14,t15,t16,t17,(borF g14),h4,h5,h21,trivial⟩
    intro T H ⟨t4,t5,t10,t11,t12,t13,t14,t15,t16,t17,t115,h4,h5,h21,_⟩
    refine R_mv t115 (R_e (n13 _ _ (.done (W_t (R_mv t17 (R_addN rfl (@rfl V (iV ((1:Nat):Int))) (by omega) (R_mv rfl ?_)))))))
    refine R_e ?_
    refine p111 _ _ _ ?_ ⟨(k+1),rfl,t4,t5,t10,t11,t12,t13,t14,t15,(Eq.trans (@rfl V (V.bool (((knK (bqR a b (nth L i) L x) (nxS a (nth L i).s x) (nxS b (nth L i).t x) k)||decide (((((nth (bqR a b (nth L i) L x) (k))).s)=(nxS a (nth L i).s x))∧((((nth (bqR a b (nth L i) L x) (k))).t)=(nxS b (nth L i).t x))))))) (by rfl)),(Eq.trans (@rfl V (iV ((k+1:Nat):Int))) (by rfl)),h4,h5,h21,?_⟩
    · omega
    · omega
   refine W_seq_exit (p311 _ _ _ (x10 _ _ (.done (W_r (R_mv t16 (R_notb rfl (R_e ?_)))))))
   refine W_ifb rfl (fun c16=>?_) (fun c16=>?_)
   ·
    have d2:knK (bqR a b (nth L i) L x) (nxS a (nth L i).s x) (nxS b (nth L i).t x) (bqR a b (nth L i) L x).length=false:=by rw [show (bqR a b (nth L i) L x).length=k by omega]; simpa using c16
    refine W_t (R_mv t10 (R_mv t14 (R_mv t15 (R_mv t13 (R_build rfl rfl (R_bslice rfl rfl (R_append1 (l:=(bqR a b (nth L i) L x)) (f:=cPr) (x:=((⟨nxS a (nth L i).s x,nxS b (nth L i).t x,snW (((nth (bqR a b (nth L i) L x) (i))).w) (((x:Nat):Int))⟩:Pr))) (@rfl V (V.ms 21 v2 0 ((bqR a b (nth L i) L x).length))) h21 (by rfl) (@rfl V (V.sl [[(iV (nxS a (nth L i).s x)),(iV (nxS b (nth L i).t x)),(ints (snW (((nth (bqR a b (nth L i) L x) (i))).w) (((x:Nat):Int))))]])) rfl rfl (by omega) (by omega) ?_)))))))
    refine R_mv rfl (R_e (n8 _ _ (.done (W_t (R_mv t12 (R_addN rfl (@rfl V (iV ((1:Nat):Int))) (by omega) (R_mv rfl ?_)))))))
    refine R_e ?_
    refine p16 _ _ _ ?_ ⟨(x+1),(v2+1),rfl,t4,t5,(Eq.trans (@rfl V (V.ms 21 (v2+1) 0 (((bqR a b (nth L i) L x).length)+1))) (by (rw [bqR_no d2,List.length_append]; rfl))),t11,(Eq.trans (@rfl V (iV ((x+1:Nat):Int))) (by rfl)),h4,h5,(Eq.trans (@rfl Blk (bk (v2+1) 217 3 (List.map cPr (bqR a b (nth L i) L x++[(⟨nxS a (nth L i).s x,nxS b (nth L i).t x,snW (((nth (bqR a b (nth L i) L x) (i))).w) (((x:Nat):Int))⟩:Pr)])))) (by (simp only [r2]; rw [bqR_no d2]; rfl))),?_,?_⟩
    · omega
    · omega
    · intro j hj
      by_cases e:j=x
      · subst e; exact d1
      · exact hdx j (by omega)
   have d2:knK (bqR a b (nth L i) L x) (nxS a (nth L i).s x) (nxS b (nth L i).t x) (bqR a b (nth L i) L x).length=true:=by rw [show (bqR a b (nth L i) L x).length=k by omega]; simpa using c16
   refine W_skip (n8 _ _ (.done (W_t (R_mv t12 (R_addN rfl (@rfl V (iV ((1:Nat):Int))) (by omega) (R_mv rfl (R_e ?_)))))))
   refine p16 _ _ _ ?_ ⟨(x+1),v2,rfl,t4,t5,(Eq.trans t10 (by (rw [bqR_yes d2]; done))),t11,(Eq.trans (@rfl V (iV ((x+1:Nat):Int))) (by rfl)),h4,h5,(Eq.trans h21 (by (rw [bqR_yes d2]; done))),?_,?_⟩
   · omega
   · omega
   · intro j hj
     by_cases e:j=x
     · subst e; exact d1
     · exact hdx j (by omega)
  refine W_seq_exit (p36 _ _ _ (x5 _ _ (n4 _ _ (.done (W_t (R_mv t11 (R_addN rfl (@rfl V (iV ((1:Nat):Int))) (by omega) ?_)))))))
  refine R_mv rfl (R_e ?_)
  refine p12 _ _ _ ?_ ⟨(i+1),v2,(bqR a b (nth L i) L a.i.toNat),rfl,t4,t5,(Eq.trans t10 (by (rw [show x=a.i.toNat by omega]; done))),(Eq.trans (@rfl V (iV ((i+1:Nat):Int))) (by rfl)),h4,h5,(Eq.trans h21 (by (rw [show x=a.i.toNat by omega]; done))),?_,?_,?_⟩
  · omega
  · have:=bqR_len (a:=a) (b:=b) (p:=nth L i) (L:=L) (x:=a.i.toNat); omega
  · exact hbi.row hma hmb hi (by omega) (Nat.le_refl _) fun j hj=>hdx j (by omega)
  · rw [hc,bq_go (by omega) (by omega) fun j hj=>hdx j (by omega)]
 have hz:dst a b s t=none:=by rw [hc,bq_end (by omega)]
 refine W_seq_exit (p32 _ _ _ (x1 _ _ (.done (W_r (R_mv rfl (R_mv rfl (R_e ?_)))))))
 refine W_ret ?_
 refine Ret_2 (@rfl V V.nilsl) (@rfl V (V.bool false)) (fz_nil ?_) (fz_bool ?_)
 · rw [hz]; rfl
 · rw [hz]; rfl
theorem states9_pure (m:M) (s t:Int) (hm:mval m=0) (hs:0≤s∧s < m.nx.length) (ht:0≤t∧t < m.nx.length):PureC Tryz.prog 84 [(V.agg [(iV (m.i)),(iV (m.s)),(intss m.nx),(intss m.ot)]),(iV (s)),(iV (t))] (V.tup [(ints ((dst m m s t).getD [])),(V.bool ((dst m m s t).isSome)),(iV (0:Int))]):=by
 refine pW Tryz.func84 s84_ok fun hB=>?_
 unfold s84
 dsimp only
 refine W_r (R_box (i:=3) (n:=0) (m:=4) (cs:=[(iV (m.i)),(iV (m.s)),(intss m.nx),(intss m.ot)]) rfl (congrArg Blk.ver rfl) rfl rfl rfl (R_mv rfl (R_mv rfl (R_mv rfl (R_e (W_seq_seq (W_r ?_)))))))
 refine R_lk rfl rfl rfl rfl (R_callk (rvalid_pure m) rfl (R_mv rfl (R_e (W_seq_seq (W_r (R_mv rfl (R_neq rfl rfl ?_)))))))
 refine R_e ?_
 refine W_seq_if rfl (fun c1=>?_) fun c1=>?_
 ·
  refine W_seq_seq (W_r (R_mv rfl (R_mv rfl (R_mv rfl (R_mv rfl (R_e (W_seq_ret ?_)))))))
  refine Ret_3 (@rfl V V.nilsl) (@rfl V (V.bool false)) (@rfl V (iV (mval m))) (fz_nil ?_) (fz_bool ?_) (fz_int ?_)
  · first|rfl|omega|simp_all
  · first|rfl|omega|simp_all
  · first|rfl|omega|simp_all
 refine W_seq_skip (W_seq_seq (W_r (R_mv rfl (R_lss rfl rfl (R_mv rfl ?_)))))
 refine Ops_seg 6 (fun T H=>T 1=(iV (s))∧T 2=(iV (t))∧T 3=(V.mp 3 1 0 0)∧T 25=(V.bool (decide (((s) < (0:Int))∨(((m.nx.length:Nat):Int)≤(s)))))∧H 3=(bk 1 46 4 [[(iV (m.i)),(iV (m.s)),(intss m.nx),(intss m.ot)]])∧True) ?_ ?_
 ·
  by_cases g2:(s) < (0:Int)
  ·
   refine G_n (edT g2 rfl) (G_n (edT g2 rfl) (G_n (edT g2 rfl) (G_n (edT g2 rfl) (G_n (edT g2 rfl) (R_pickT (edT g2 rfl) rfl ?_)))))
   exact ⟨rfl,rfl,rfl,(dec_orT g2),rfl,trivial⟩
  ·
   refine G_yes (edF g2 rfl) (R_mv rfl (G_yes (edF g2 rfl) (R_fk rfl rfl (G_yes (edF g2 rfl) (R_lk rfl rfl rfl rfl (G_yes (edF g2 rfl) (R_len rfl ?_)))))))
   refine G_yes (edF g2 rfl) (R_geq rfl rfl (R_pickF (edF g2 rfl) rfl ?_))
   exact ⟨rfl,rfl,rfl,(dec_orF g2),rfl,trivial⟩
 intro T H ⟨t1,t2,t3,t25,h3,_⟩
 refine R_mv t25 ?_
 refine Ops_seg 3 (fun T H=>T 1=(iV (s))∧T 2=(iV (t))∧T 3=(V.mp 3 1 0 0)∧T 29=(V.bool (decide ((((s) < (0:Int))∨(((m.nx.length:Nat):Int)≤(s)))∨((t) < (0:Int)))))∧H 3=(bk 1 46 4 [[(iV (m.i)),(iV (m.s)),(intss m.nx),(intss m.ot)]])∧True) ?_ ?_
 ·
  by_cases g3:((s) < (0:Int))∨(((m.nx.length:Nat):Int)≤(s))
  ·
   refine G_n (edT g3 rfl) (G_n (edT g3 rfl) (R_pickT (edT g3 rfl) rfl ?_))
   exact ⟨t1,t2,t3,(dec_orT g3),h3,trivial⟩
  ·
   refine G_yes (edF g3 rfl) (R_mv t2 (G_yes (edF g3 rfl) (R_lss rfl rfl (R_pickF (edF g3 rfl) rfl ?_))))
   exact ⟨t1,t2,t3,(dec_orF g3),h3,trivial⟩
 intro T H ⟨t1,t2,t3,t29,h3,_⟩
 refine R_mv t29 ?_
 refine Ops_seg 6 (fun T H=>T 1=(iV (s))∧T 2=(iV (t))∧T 3=(V.mp 3 1 0 0)∧T 36=(V.bool (decide (((((s) < (0:Int))∨(((m.nx.length:Nat):Int)≤(s)))∨((t) < (0:Int)))∨(((m.nx.length:Nat):Int)≤(t)))))∧H 3=(bk 1 46 4 [[(iV (m.i)),(iV (m.s)),(intss m.nx),(intss m.ot)]])∧True) ?_ ?_
 ·
  by_cases g4:(((s) < (0:Int))∨(((m.nx.length:Nat):Int)≤(s)))∨((t) < (0:Int))
  ·
   refine G_n (edT g4 rfl) (G_n (edT g4 rfl) (G_n (edT g4 rfl) (G_n (edT g4 rfl) (G_n (edT g4 rfl) (R_pickT (edT g4 rfl) rfl ?_)))))
   exact ⟨t1,t2,t3,(dec_orT g4),h3,trivial⟩
  ·
   refine G_yes (edF g4 rfl) (R_mv t2 (G_yes (edF g4 rfl) (R_fk t3 h3 (G_yes (edF g4 rfl) (R_lk rfl h3 rfl rfl (G_yes (edF g4 rfl) (R_len rfl ?_)))))))
   refine G_yes (edF g4 rfl) (R_geq rfl rfl (R_pickF (edF g4 rfl) rfl ?_))
   exact ⟨t1,t2,t3,(dec_orF g4),h3,trivial⟩
 intro T H ⟨t1,t2,t3,t36,h3,_⟩
 refine R_e ?_
 refine W_seq_if t36 (fun c5=>?_) fun c5=>?_
 · exfalso; omega
 refine W_seq_skip (W_r (R_lk t3 h3 rfl rfl (R_lk t3 h3 rfl rfl (R_mv t1 (R_mv t2 (R_callk (first9_pure m m ((s)) ((t)) hm hm rfl hs ht) rfl (R_mv rfl ?_)))))))
 refine R_ext rfl rfl (R_ext rfl rfl (R_mv rfl (R_mv rfl (R_e (W_r (R_mv rfl (R_mv rfl ?_)))))))
 refine R_mv rfl (R_mv rfl (R_mv rfl (R_e (W_ret ?_))))
 refine Ret_3 (@rfl V (ints ((dst m m ((s)) ((t))).getD []))) (@rfl V (V.bool ((dst m m ((s)) ((t))).isSome))) (@rfl V (iV (0:Int))) (fz_sl ?_ (fun _=>by simp)) (fz_bool ?_) (fz_canon (by simp) rfl)
 · first|rfl|omega|simp_all
 · first|rfl|omega|simp_all
theorem apart27_pure (t:Dt) (m:M) (hb:Bd t) (hm:mval m=0) (hw: ∀ w∈lvs t,wchk w m.i=0):PureC Tryz.prog 30 [(V.agg [(V.sl (List.map cN (t.nd)))]),(V.agg [(iV (m.i)),(iV (m.s)),(intss m.nx),(intss m.ot)])] (V.bool (aptB m (lvs t))):=by
 refine pW Tryz.func30 s30_ok fun hB=>?_
 unfold s30
 dsimp only
 have hq:=mval_ok hm
 have hfew:=lvs_few hb
 refine W_r (R_box (i:=2) (n:=0) (m:=1) (cs:=[(V.sl (List.map cN (t.nd)))]) rfl (congrArg Blk.ver rfl) rfl rfl rfl (R_box (i:=3) (n:=0) (m:=4) (cs:=[(iV (m.i)),(iV (m.s)),(intss m.nx),(intss m.ot)]) rfl (congrArg Blk.ver rfl) rfl rfl rfl (R_mv rfl (R_e (W_r (R_lk rfl rfl rfl rfl (R_callk (rleaves_pure t hb) rfl ?_)))))))
 refine R_mv rfl (R_e (W_seq_seq (W_r (R_mv rfl (R_e (W_seq_blockg fun Q1 n1 x1 y1 z1=>?_))))))
 refine W_loop (fun mm T H=> ∃ (i:Nat),mm=(lvs t).length - i∧T 3=(V.mp 3 1 0 0)∧T 5=(intss (lvs t))∧T 6=(iV ((i:Nat):Int))∧H 2=(bk 1 24 1 [[(V.sl (List.map cN (t.nd)))]])∧H 3=(bk 1 46 4 [[(iV (m.i)),(iV (m.s)),(intss m.nx),(intss m.ot)]])∧(i≤(lvs t).length)∧(fi (apI m (lvs t)) 0 (lvs t).length=fi (apI m (lvs t)) i ((lvs t).length - i))) ?_ ?_
 ·
  refine ⟨_,0,rfl,rfl,(Eq.trans (@rfl V (intss ((if dvE t=0 then sdW (acL t.nd) else [])))) (by rfl)),(Eq.trans (@rfl V (iV (0:Int))) rfl),rfl,rfl,?_,?_⟩
  · omega
  · rfl
 intro mm T H ⟨i,hmm,t3,t5,t6,h2,h3,hi,hc⟩ Q2 p12 p22 p32
 unfold b30_0
 refine W_seq_seq (W_r (R_mv t6 (R_mv t5 (R_len rfl (R_lss rfl rfl (R_e ?_))))))
 refine W_seq_if rfl (fun c3=>?_) fun c3=>?_
 ·
  have w1:=hw _ (nth_mem (show i < (lvs t).length by omega))
  have g1:=goal_in hm (nth (lvs t) i) m.s hq.2.2.2.2.1 hq.2.2.2.2.2.1 (wchk_ok w1).2
  refine W_seq_skip (W_seq_blockg fun Q4 n4 x4 y4 z4=>(W_r (R_mv rfl (R_e (W_block fun Q5 n5 x5 y5 z5=>?_)))))
  refine W_loop (fun mm T H=> ∃ (k:Nat),mm=i - k∧T 3=(V.mp 3 1 0 0)∧T 5=(intss (lvs t))∧T 6=(iV ((i:Nat):Int))∧T 7=(iV ((k:Nat):Int))∧H 2=(bk 1 24 1 [[(V.sl (List.map cN (t.nd)))]])∧H 3=(bk 1 46 4 [[(iV (m.i)),(iV (m.s)),(intss m.nx),(intss m.ot)]])∧(k≤i)∧(fi (fun k=> !(apK m (lvs t) i k)) 0 i=fi (fun k=> !(apK m (lvs t) i k)) k (i - k))) ?_ ?_
  ·
   refine ⟨_,0,rfl,t3,t5,t6,(Eq.trans (@rfl V (iV (0:Int))) rfl),h2,h3,?_,?_⟩
   · omega
   · rfl
  intro mm T H ⟨k,hmm,t3,t5,t6,t7,h2,h3,hk,hc2⟩ Q6 p16 p26 p36
  unfold b30_1
  refine W_seq_seq (W_r (R_mv t7 (R_mv t6 (R_lss rfl rfl (R_e ?_)))))
  refine W_seq_if rfl (fun c7=>?_) fun c7=>?_
  ·
   have w2:=hw _ (nth_mem (show k < (lvs t).length by omega))
   have g2:=goal_in hm (nth (lvs t) k) m.s hq.2.2.2.2.1 hq.2.2.2.2.2.1 (wchk_ok w2).2
   refine W_seq_skip (W_seq_blockg fun Q8 n8 x8 y8 z8=>(W_r (R_lk t3 h3 rfl rfl (R_fk t3 h3 (R_lk rfl h3 rfl rfl (R_mv t5 (R_mv t6 ?_)))))))
   refine R_idx (i:=i) (@rfl V (intss (lvs t))) (@rfl V (iV ((i:Nat):Int))) (by omega) rfl (R_load_pp rfl rfl (R_callk (outs_pure m ((m.s)) ((nth (lvs t) (i))) hm ⟨by omega,by omega⟩ (by exact (wchk_ok w1).1) (by exact (wchk_ok w1).2)) rfl (R_mv rfl (R_ext rfl rfl (R_ext rfl rfl (R_mv rfl (R_mv rfl ?_)))))))
   refine R_e (W_r (R_lk t3 h3 rfl rfl (R_fk t3 h3 (R_lk rfl h3 rfl rfl (R_mv t5 (R_mv t7 (R_idx (i:=k) (@rfl V (intss (lvs t))) (@rfl V (iV ((k:Nat):Int))) (by omega) rfl ?_)))))))
   refine R_load_pp rfl rfl (R_callk (outs_pure m ((m.s)) ((nth (lvs t) (k))) hm ⟨by omega,by omega⟩ (by exact (wchk_ok w2).1) (by exact (wchk_ok w2).2)) rfl (R_mv rfl (R_ext rfl rfl (R_ext rfl rfl (R_mv rfl (R_mv rfl (R_e ?_)))))))
   refine W_r (R_lk t3 h3 rfl rfl (R_mv rfl (R_mv rfl (R_callk (states9_pure m ((goal m ((m.s)) ((nth (lvs t) (i))))) ((goal m ((m.s)) ((nth (lvs t) (k))))) hm g1 g2) rfl (R_mv rfl (R_ext rfl rfl (R_ext rfl rfl ?_)))))))
   refine R_ext rfl rfl (R_mv rfl (R_mv rfl (R_mv rfl (R_e ?_))))
   refine W_seq_regc (fun T H=>T 3=(V.mp 3 1 0 0)∧T 5=(intss (lvs t))∧T 6=(iV ((i:Nat):Int))∧T 7=(iV ((k:Nat):Int))∧T 59=(V.bool ((!(dst m m ((goal m ((m.s)) ((nth (lvs t) (i))))) ((goal m ((m.s)) ((nth (lvs t) (k)))))).isSome)))∧H 2=(bk 1 24 1 [[(V.sl (List.map cN (t.nd)))]])∧H 3=(bk 1 46 4 [[(iV (m.i)),(iV (m.s)),(intss m.nx),(intss m.ot)]])∧True) ?_ ?_
   ·
    refine R_mv rfl (R_notb rfl ?_)
    exact R_nil ⟨t3,t5,t6,t7,rfl,h2,h3,trivial⟩
   intro T H ⟨t3,t5,t6,t7,t59,h2,h3,_⟩
   refine W_ifb t59 (fun c9=>?_) (fun c9=>?_)
   ·
    have d1:(fun k=> !(apK m (lvs t) i k)) k=true:=c9
    refine W_r (R_mv rfl (R_e (W_ret (y8 _ _ (p26 _ _ (y5 _ _ (y4 _ _ ?_)))))))
    refine p22 _ _ (y1 _ _ ?_)
    refine Ret_1 (@rfl V (V.bool false)) (fz_bool ?_)
    · unfold aptB; exact (decide_eq_false (by rw [hc,fi_hit (p:=apI m (lvs t)) (decide_eq_true (by rw [hc2,fi_hit (p:=(fun k=> !(apK m (lvs t) i k))) d1 (by omega)]; omega)) (by omega)]; omega)).symm
   have d1:(fun k=> !(apK m (lvs t) i k)) k=false:=c9
   refine W_skip (n8 _ _ (.done (W_t (R_mv t7 (R_addN rfl (@rfl V (iV ((1:Nat):Int))) (by omega) (R_mv rfl (R_e ?_)))))))
   refine p16 _ _ _ ?_ ⟨(k+1),rfl,t3,t5,t6,(Eq.trans (@rfl V (iV ((k+1:Nat):Int))) (by rfl)),h2,h3,?_,?_⟩
   · omega
   · omega
   · rw [hc2,fi_skip (p:=(fun k=> !(apK m (lvs t) i k))) d1 (by omega)]
  refine W_seq_exit (p36 _ _ _ (x5 _ _ (n4 _ _ (.done (W_t (R_mv t6 (R_addN rfl (@rfl V (iV ((1:Nat):Int))) (by omega) ?_)))))))
  refine R_mv rfl (R_e ?_)
  refine p12 _ _ _ ?_ ⟨(i+1),rfl,t3,t5,(Eq.trans (@rfl V (iV ((i+1:Nat):Int))) (by rfl)),h2,h3,?_,?_⟩
  · omega
  · omega
  · rw [hc,fi_skip (p:=apI m (lvs t)) (decide_eq_false (by rw [hc2,fi_end (by omega)]; omega)) (by omega)]
 refine W_seq_exit (p32 _ _ _ (x1 _ _ (.done (W_r (R_mv rfl (R_e (W_ret ?_)))))))
 refine Ret_1 (@rfl V (V.bool true)) (fz_bool ?_)
 · unfold aptB; exact (decide_eq_true (by rw [hc,fi_end (by omega)]; omega)).symm
def r31_5:List SO:=[
 qM 15 5,
 qM 16 6,
 qA 17 1 15 16,
 ql 18 17,
 qM 19 1,
 sO 20 (.call false 80 [.t 18,.t 19]),
 qC 21 .neq 20 0]
def b31_0:SC:=.seq (.seq (.reg [qM 9 6,qM 10 5,qN 11 10,qP 12 .lss 9 11]) (.cond (.t 12) (.skip) (.exit 0))) (.seq (.block 1 (.seq (.reg r31_5) (.cond (.t 21) (.seq (.reg [sO 4 (.mv (.c (.bool false)))]) (.ret)) (.skip)))) (.reg [qM 13 6,qC 14 .add 13 1,qM 6 14]))
def s31:SF:=⟨22,[.tmp 4],.seq (.reg [sO 2 (.box 24 1 (.t 0)),sO 4 (.mv (.c (.bool false)))]) (.seq (.reg [qL 7 1 2,sO 8 (.call false 23 [.t 7]),qM 5 8]) (.seq (.seq (.reg [qI 6 0]) (.block 0 (.loop b31_0))) (.seq (.reg [sO 4 (.mv (.c (.bool true)))]) (.ret))))⟩
theorem s31_ok:slimF Tryz.prog ⟨[107,108,109,116,120,126,127,167,169,170,171,172,194,196,198,209,222,226],[]⟩ Tryz.f31=some s31:=by kernel_rfl
theorem within_pure (t:Dt) (n:Int) (hb:Bd t):PureC Tryz.prog 31 [(V.agg [(V.sl (List.map cN (t.nd)))]),(iV (n))] (V.bool (wiB (lvs t) n)):=by
 refine pW Tryz.func31 s31_ok fun hB=>?_
 unfold s31
 dsimp only
 have hfew:=lvs_few hb
 refine W_r (R_box (i:=2) (n:=0) (m:=1) (cs:=[(V.sl (List.map cN (t.nd)))]) rfl (congrArg Blk.ver rfl) rfl rfl rfl (R_mv rfl (R_e (W_r (R_lk rfl rfl rfl rfl (R_callk (rleaves_pure t hb) rfl (R_mv rfl ?_)))))))
 refine R_e (W_seq_seq (W_r (R_mv rfl (R_e (W_seq_blockg fun Q1 n1 x1 y1 z1=>?_)))))
 refine W_loop (fun mm T H=> ∃ (k:Nat),mm=(lvs t).length - k∧T 1=(iV (n))∧T 5=(intss (lvs t))∧T 6=(iV ((k:Nat):Int))∧H 2=(bk 1 24 1 [[(V.sl (List.map cN (t.nd)))]])∧(k≤(lvs t).length)∧(fi (wiK (lvs t) n) 0 (lvs t).length=fi (wiK (lvs t) n) k ((lvs t).length - k))) ?_ ?_
 ·
  refine ⟨_,0,rfl,rfl,(Eq.trans (@rfl V (intss ((if dvE t=0 then sdW (acL t.nd) else [])))) (by rfl)),(Eq.trans (@rfl V (iV (0:Int))) rfl),rfl,?_,?_⟩
  · omega
  · rfl
 intro mm T H ⟨k,hmm,t1,t5,t6,h2,hk,hc⟩ Q2 p12 p22 p32
 unfold b31_0
 refine W_seq_seq (W_r (R_mv t6 (R_mv t5 (R_len rfl (R_lss rfl rfl (R_e ?_))))))
 refine W_seq_if rfl (fun c3=>?_) fun c3=>?_
 ·
  refine W_seq_skip (W_seq_blockg fun Q4 n4 x4 y4 z4=>(W_r (R_mv t5 (R_mv t6 (R_idx (i:=k) (@rfl V (intss (lvs t))) (@rfl V (iV ((k:Nat):Int))) (by omega) rfl (R_load_pp rfl rfl (R_mv t1 ?_)))))))
  refine R_callk (rcheck_pure ((nth (lvs t) (k))) ((n))) rfl (R_neq rfl rfl (R_e ?_))
  refine W_if rfl (fun c5=>?_) fun c5=>?_
  ·
   have d1:wiK (lvs t) n k=true:=decide_eq_true c5
   refine W_r (R_mv rfl (R_e (W_ret (y4 _ _ (p22 _ _ (y1 _ _ ?_))))))
   refine Ret_1 (@rfl V (V.bool false)) (fz_bool ?_)
   · unfold wiB; exact (decide_eq_false (by rw [hc,fi_hit (p:=wiK (lvs t) n) d1 (by omega)]; omega)).symm
  have d1:wiK (lvs t) n k=false:=decide_eq_false c5
  refine W_skip (n4 _ _ (.done (W_t (R_mv t6 (R_addN rfl (@rfl V (iV ((1:Nat):Int))) (by omega) (R_mv rfl (R_e ?_)))))))
  refine p12 _ _ _ ?_ ⟨(k+1),rfl,t1,t5,(Eq.trans (@rfl V (iV ((k+1:Nat):Int))) (by rfl)),h2,?_,?_⟩
  · omega
  · omega
  · rw [hc,fi_skip (p:=wiK (lvs t) n) d1 (by omega)]
 refine W_seq_exit (p32 _ _ _ (x1 _ _ (.done (W_r (R_mv rfl (R_e (W_ret ?_)))))))
 refine Ret_1 (@rfl V (V.bool true)) (fz_bool ?_)
 · unfold wiB; exact (decide_eq_true (by rw [hc,fi_end (by omega)]; omega)).symm
theorem law7_pure (c:Cse):PureC Tryz.prog 7 [(V.agg [(iV (c.m.i)),(iV (c.m.s)),(intss c.m.nx),(intss c.m.ot),(iV (c.o.i)),(V.sl (List.map cT (c.o.tr))),(iV (c.l.i)),(V.sl (List.map cN (c.l.t.nd))),(ints c.s.p),(iV (c.s.a)),(ints c.s.x)])] (V.bool true):=by
 refine pW Tryz.func7 s7_ok fun hB=>?_
 unfold s7
 dsimp only
 refine W_r (R_box (i:=1) (n:=0) (m:=11) (cs:=[(iV (c.m.i)),(iV (c.m.s)),(intss c.m.nx),(intss c.m.ot),(iV (c.o.i)),(V.sl (List.map cT (c.o.tr))),(iV (c.l.i)),(V.sl (List.map cN (c.l.t.nd))),(ints c.s.p),(iV (c.s.a)),(ints c.s.x)]) rfl (congrArg Blk.ver rfl) rfl rfl rfl (R_mv rfl (R_e (W_r (R_fk rfl rfl (R_lk rfl rfl rfl rfl (R_alloc (i:=3) (n:=0) (m:=4) rfl (congrArg Blk.ver rfl) rfl ?_)))))))
 refine R_sk rfl rfl rfl rfl rfl rfl rfl rfl rfl (R_e (W_seq_seq ?_))
 refine W_seq_regc (fun T H=>T 1=(V.mp 1 1 0 0)∧T 3=(V.mp 3 1 0 0)∧T 48=(V.bool (((((((((((grB c.l c.o)||((!smB c.m))))||decide ((mval c.m)≠(0:Int))))||((!agB c.o c.m))))||decide ((1100:Int) < ((c.s.p.length:Nat):Int))))||decide ((1100:Int) < ((c.s.x.length:Nat):Int)))))∧H 1=(bk 1 65 11 [[(iV (c.m.i)),(iV (c.m.s)),(intss c.m.nx),(intss c.m.ot),(iV (c.o.i)),(V.sl (List.map cT (c.o.tr))),(iV (c.l.i)),(V.sl (List.map cN (c.l.t.nd))),(ints c.s.p),(iV (c.s.a)),(ints c.s.x)]])∧H 3=(bk 1 46 4 [[(iV (c.m.i)),(iV (c.m.s)),(intss c.m.nx),(intss c.m.ot)]])∧H 4=(⟨0,false,false,0,0,[]⟩:Blk)∧H 8=(⟨0,false,false,0,0,[]⟩:Blk)∧True) ?_ ?_
 ·
  refine R_fk rfl rfl (R_lk rfl rfl rfl rfl (R_fk rfl rfl (R_lk rfl rfl rfl rfl (R_callk (great27_pure c.l c.o) rfl (R_mv rfl ?_)))))
  refine Ops_seg 4 (fun T H=>T 1=(V.mp 1 1 0 0)∧T 3=(V.mp 3 1 0 0)∧T 22=(V.bool (((grB c.l c.o)||((!smB c.m)))))∧H 1=(bk 1 65 11 [[(iV (c.m.i)),(iV (c.m.s)),(intss c.m.nx),(intss c.m.ot),(iV (c.o.i)),(V.sl (List.map cT (c.o.tr))),(iV (c.l.i)),(V.sl (List.map cN (c.l.t.nd))),(ints c.s.p),(iV (c.s.a)),(ints c.s.x)]])∧H 3=(bk 1 46 4 [[(iV (c.m.i)),(iV (c.m.s)),(intss c.m.nx),(intss c.m.ot)]])∧H 4=(⟨0,false,false,0,0,[]⟩:Blk)∧H 8=(⟨0,false,false,0,0,[]⟩:Blk)∧True) ?_ ?_
  ·
   by_cases g1:(grB c.l c.o)=true
   ·
    refine G_n (ebT g1 rfl) (G_n (ebT g1 rfl) (G_n (ebT g1 rfl) (R_pickT (ebT g1 rfl) rfl ?_)))
    exact ⟨rfl,rfl,(borT g1),rfl,rfl,rfl,rfl,trivial⟩
   ·
    refine G_yes (ebF g1 rfl) (R_lk rfl rfl rfl rfl (G_yes (ebF g1 rfl) (R_callk (small24_pure c.m) rfl (G_yes (ebF g1 rfl) (R_notb rfl (R_pickF (ebF g1 rfl) rfl ?_))))))
    exact ⟨rfl,rfl,(borF g1),rfl,rfl,rfl,rfl,trivial⟩
  intro T H ⟨t1,t3,t22,h1,h3,h4,h8,_⟩
  refine R_mv t22 ?_
  refine Ops_seg 4 (fun T H=>T 1=(V.mp 1 1 0 0)∧T 3=(V.mp 3 1 0 0)∧T 27=(V.bool (((((grB c.l c.o)||((!smB c.m))))||decide ((mval c.m)≠(0:Int)))))∧H 1=(bk 1 65 11 [[(iV (c.m.i)),(iV (c.m.s)),(intss c.m.nx),(intss c.m.ot),(iV (c.o.i)),(V.sl (List.map cT (c.o.tr))),(iV (c.l.i)),(V.sl (List.map cN (c.l.t.nd))),(ints c.s.p),(iV (c.s.a)),(ints c.s.x)]])∧H 3=(bk 1 46 4 [[(iV (c.m.i)),(iV (c.m.s)),(intss c.m.nx),(intss c.m.ot)]])∧H 4=(⟨0,false,false,0,0,[]⟩:Blk)∧H 8=(⟨0,false,false,0,0,[]⟩:Blk)∧True) ?_ ?_
  ·
   by_cases g2:(((grB c.l c.o)||((!smB c.m))))=true
   ·
    refine G_n (ebT g2 rfl) (G_n (ebT g2 rfl) (G_n (ebT g2 rfl) (R_pickT (ebT g2 rfl) rfl ?_)))
    exact ⟨t1,t3,(borT g2),h1,h3,h4,h8,trivial⟩
   ·
    refine G_yes (ebF g2 rfl) (R_lk t3 h3 rfl rfl (G_yes (ebF g2 rfl) (R_callk (rvalid_pure c.m) rfl (G_yes (ebF g2 rfl) (R_neq rfl rfl (R_pickF (ebF g2 rfl) rfl ?_))))))
    exact ⟨t1,t3,(borF g2),h1,h3,h4,h8,trivial⟩
  intro T H ⟨t1,t3,t27,h1,h3,h4,h8,_⟩
  refine R_mv t27 ?_
  refine Ops_seg 6 (fun T H=>T 1=(V.mp 1 1 0 0)∧T 3=(V.mp 3 1 0 0)∧T 34=(V.bool (((((((grB c.l c.o)||((!smB c.m))))||decide ((mval c.m)≠(0:Int))))||((!agB c.o c.m)))))∧H 1=(bk 1 65 11 [[(iV (c.m.i)),(iV (c.m.s)),(intss c.m.nx),(intss c.m.ot),(iV (c.o.i)),(V.sl (List.map cT (c.o.tr))),(iV (c.l.i)),(V.sl (List.map cN (c.l.t.nd))),(ints c.s.p),(iV (c.s.a)),(ints c.s.x)]])∧H 3=(bk 1 46 4 [[(iV (c.m.i)),(iV (c.m.s)),(intss c.m.nx),(intss c.m.ot)]])∧H 4=(⟨0,false,false,0,0,[]⟩:Blk)∧H 8=(⟨0,false,false,0,0,[]⟩:Blk)∧True) ?_ ?_
  ·
   by_cases g3:(((((grB c.l c.o)||((!smB c.m))))||decide ((mval c.m)≠(0:Int))))=true
   ·
    refine G_n (ebT g3 rfl) (G_n (ebT g3 rfl) (G_n (ebT g3 rfl) (G_n (ebT g3 rfl) (G_n (ebT g3 rfl) (R_pickT (ebT g3 rfl) rfl ?_)))))
    exact ⟨t1,t3,(borT g3),h1,h3,h4,h8,trivial⟩
   ·
    refine G_yes (ebF g3 rfl) (R_fk t1 h1 (G_yes (ebF g3 rfl) (R_lk rfl h1 rfl rfl (G_yes (ebF g3 rfl) (R_lk t3 h3 rfl rfl (G_yes (ebF g3 rfl) (R_callk (agree_pure c.o c.m (by simp_all) (by have q:grB c.l c.o=false:=(by simp_all); exact (gr_no q).2.2.2)) rfl ?_)))))))
    refine G_yes (ebF g3 rfl) (R_notb rfl (R_pickF (ebF g3 rfl) rfl ?_))
    exact ⟨t1,t3,(borF g3),h1,h3,h4,h8,trivial⟩
  intro T H ⟨t1,t3,t34,h1,h3,h4,h8,_⟩
  refine R_mv t34 ?_
  refine Ops_seg 6 (fun T H=>T 1=(V.mp 1 1 0 0)∧T 3=(V.mp 3 1 0 0)∧T 41=(V.bool (((((((((grB c.l c.o)||((!smB c.m))))||decide ((mval c.m)≠(0:Int))))||((!agB c.o c.m))))||decide ((1100:Int) < ((c.s.p.length:Nat):Int)))))∧H 1=(bk 1 65 11 [[(iV (c.m.i)),(iV (c.m.s)),(intss c.m.nx),(intss c.m.ot),(iV (c.o.i)),(V.sl (List.map cT (c.o.tr))),(iV (c.l.i)),(V.sl (List.map cN (c.l.t.nd))),(ints c.s.p),(iV (c.s.a)),(ints c.s.x)]])∧H 3=(bk 1 46 4 [[(iV (c.m.i)),(iV (c.m.s)),(intss c.m.nx),(intss c.m.ot)]])∧H 4=(⟨0,false,false,0,0,[]⟩:Blk)∧H 8=(⟨0,false,false,0,0,[]⟩:Blk)∧True) ?_ ?_
  ·
   by_cases g4:(((((((grB c.l c.o)||((!smB c.m))))||decide ((mval c.m)≠(0:Int))))||((!agB c.o c.m))))=true
   ·
    refine G_n (ebT g4 rfl) (G_n (ebT g4 rfl) (G_n (ebT g4 rfl) (G_n (ebT g4 rfl) (G_n (ebT g4 rfl) (R_pickT (ebT g4 rfl) rfl ?_)))))
    exact ⟨t1,t3,(borT g4),h1,h3,h4,h8,trivial⟩
   ·
    refine G_yes (ebF g4 rfl) (R_fk t1 h1 (G_yes (ebF g4 rfl) (R_fk rfl h1 (G_yes (ebF g4 rfl) (R_lk rfl h1 rfl rfl (G_yes (ebF g4 rfl) (R_len rfl ?_)))))))
    refine G_yes (ebF g4 rfl) (R_gtr rfl rfl (R_pickF (ebF g4 rfl) rfl ?_))
    exact ⟨t1,t3,(borF g4),h1,h3,h4,h8,trivial⟩
  intro T H ⟨t1,t3,t41,h1,h3,h4,h8,_⟩
  refine R_mv t41 ?_
  refine Ops_seg 6 (fun T H=>T 1=(V.mp 1 1 0 0)∧T 3=(V.mp 3 1 0 0)∧T 48=(V.bool (((((((((((grB c.l c.o)||((!smB c.m))))||decide ((mval c.m)≠(0:Int))))||((!agB c.o c.m))))||decide ((1100:Int) < ((c.s.p.length:Nat):Int))))||decide ((1100:Int) < ((c.s.x.length:Nat):Int)))))∧H 1=(bk 1 65 11 [[(iV (c.m.i)),(iV (c.m.s)),(intss c.m.nx),(intss c.m.ot),(iV (c.o.i)),(V.sl (List.map cT (c.o.tr))),(iV (c.l.i)),(V.sl (List.map cN (c.l.t.nd))),(ints c.s.p),(iV (c.s.a)),(ints c.s.x)]])∧H 3=(bk 1 46 4 [[(iV (c.m.i)),(iV (c.m.s)),(intss c.m.nx),(intss c.m.ot)]])∧H 4=(⟨0,false,false,0,0,[]⟩:Blk)∧H 8=(⟨0,false,false,0,0,[]⟩:Blk)∧True) ?_ ?_
  ·
   by_cases g5:(((((((((grB c.l c.o)||((!smB c.m))))||decide ((mval c.m)≠(0:Int))))||((!agB c.o c.m))))||decide ((1100:Int) < ((c.s.p.length:Nat):Int))))=true
   ·
    refine G_n (ebT g5 rfl) (G_n (ebT g5 rfl) (G_n (ebT g5 rfl) (G_n (ebT g5 rfl) (G_n (ebT g5 rfl) (R_pickT (ebT g5 rfl) rfl ?_)))))
    exact ⟨t1,t3,(borT g5),h1,h3,h4,h8,trivial⟩
   ·
    refine G_yes (ebF g5 rfl) (R_fk t1 h1 (G_yes (ebF g5 rfl) (R_fk rfl h1 (G_yes (ebF g5 rfl) (R_lk rfl h1 rfl rfl (G_yes (ebF g5 rfl) (R_len rfl ?_)))))))
    refine G_yes (ebF g5 rfl) (R_gtr rfl rfl (R_pickF (ebF g5 rfl) rfl ?_))
    exact ⟨t1,t3,(borF g5),h1,h3,h4,h8,trivial⟩
  intro T H ⟨t1,t3,t48,h1,h3,h4,h8,_⟩
  exact R_nil ⟨t1,t3,t48,h1,h3,h4,h8,trivial⟩
 intro T H ⟨t1,t3,t48,h1,h3,h4,h8,_⟩
 refine W_seq_ifb t48 (fun c6=>?_) (fun c6=>?_)
 ·
  refine W_seq_seq (W_r (R_callk (aw_learnerlaw27_awake_pure) rfl (R_mv rfl (R_e (W_seq_ret ?_)))))
  refine Ret_1 (@rfl V (V.bool true)) (fz_canon (by simp) rfl)
 have q1:=c6
 simp only [Bool.or_eq_false_iff,decide_eq_false_iff_not] at q1
 obtain ⟨⟨⟨⟨⟨q2,q3⟩,q4⟩,q5⟩,q6⟩,q7⟩:=q1
 obtain ⟨hi4,hgt,hol,ho⟩:=gr_no q2
 have hb:=bg_bd hgt
 have hx:=exs_40 hgt hi4
 have hm:mval c.m=0:=by omega
 have hag:agB c.o c.m=true:=by simpa using q5
 have b1:=tst_bd (l:=c.l) (o:=c.o) hgt ho
 have b2:=rfR_bd (l:=c.l) (o:=c.o) (s:=c.s) hgt ho
 refine W_seq_skip (W_seq_seq (W_r (R_fk t1 h1 (R_lk rfl h1 rfl rfl (R_callk (tvalid_pure c.l hb) rfl (R_neq rfl rfl (R_mv rfl ?_)))))))
 refine Ops_seg 7 (fun T H=>T 1=(V.mp 1 1 0 0)∧T 3=(V.mp 3 1 0 0)∧T 61=(V.bool (decide (((tvE c.l)≠(0:Int))∨((c.l.i)≠(c.m.i)))))∧H 1=(bk 1 65 11 [[(iV (c.m.i)),(iV (c.m.s)),(intss c.m.nx),(intss c.m.ot),(iV (c.o.i)),(V.sl (List.map cT (c.o.tr))),(iV (c.l.i)),(V.sl (List.map cN (c.l.t.nd))),(ints c.s.p),(iV (c.s.a)),(ints c.s.x)]])∧H 3=(bk 1 46 4 [[(iV (c.m.i)),(iV (c.m.s)),(intss c.m.nx),(intss c.m.ot)]])∧H 4=(⟨0,false,false,0,0,[]⟩:Blk)∧H 8=(⟨0,false,false,0,0,[]⟩:Blk)∧True) ?_ ?_
 ·
  by_cases g7:(tvE c.l)≠(0:Int)
  ·
   refine G_n (edT g7 rfl) (G_n (edT g7 rfl) (G_n (edT g7 rfl) (G_n (edT g7 rfl) (G_n (edT g7 rfl) (G_n (edT g7 rfl) (R_pickT (edT g7 rfl) rfl ?_))))))
   exact ⟨t1,t3,(dec_orT g7),h1,h3,h4,h8,trivial⟩
  ·
   refine G_yes (edF g7 rfl) (R_fk t1 h1 (G_yes (edF g7 rfl) (R_fk rfl h1 (G_yes (edF g7 rfl) (R_lk rfl h1 rfl rfl (G_yes (edF g7 rfl) (R_fk t3 h3 ?_)))))))
   refine G_yes (edF g7 rfl) (R_lk rfl h3 rfl rfl (G_yes (edF g7 rfl) (R_neq rfl rfl (R_pickF (edF g7 rfl) rfl ?_))))
   exact ⟨t1,t3,(dec_orF g7),h1,h3,h4,h8,trivial⟩
 intro T H ⟨t1,t3,t61,h1,h3,h4,h8,_⟩
 refine R_mv t61 ?_
 refine Ops_seg 7 (fun T H=>T 1=(V.mp 1 1 0 0)∧T 3=(V.mp 3 1 0 0)∧T 69=(V.bool ((decide (((tvE c.l)≠(0:Int))∨((c.l.i)≠(c.m.i)))||((!sdB c.l.t c.m c.l.t.nd.length 0)))))∧H 1=(bk 1 65 11 [[(iV (c.m.i)),(iV (c.m.s)),(intss c.m.nx),(intss c.m.ot),(iV (c.o.i)),(V.sl (List.map cT (c.o.tr))),(iV (c.l.i)),(V.sl (List.map cN (c.l.t.nd))),(ints c.s.p),(iV (c.s.a)),(ints c.s.x)]])∧H 3=(bk 1 46 4 [[(iV (c.m.i)),(iV (c.m.s)),(intss c.m.nx),(intss c.m.ot)]])∧H 4=(⟨0,false,false,0,0,[]⟩:Blk)∧H 8=(⟨0,false,false,0,0,[]⟩:Blk)∧True) ?_ ?_
 ·
  by_cases g8:((tvE c.l)≠(0:Int))∨((c.l.i)≠(c.m.i))
  ·
   refine G_n (edT g8 rfl) (G_n (edT g8 rfl) (G_n (edT g8 rfl) (G_n (edT g8 rfl) (G_n (edT g8 rfl) (G_n (edT g8 rfl) (R_pickT (edT g8 rfl) rfl ?_))))))
   exact ⟨t1,t3,(dborT g8),h1,h3,h4,h8,trivial⟩
  ·
   refine G_yes (edF g8 rfl) (R_fk t1 h1 (G_yes (edF g8 rfl) (R_fk rfl h1 (G_yes (edF g8 rfl) (R_lk rfl h1 rfl rfl (G_yes (edF g8 rfl) (R_lk t3 h3 rfl rfl ?_)))))))
   refine G_yes (edF g8 rfl) (R_callk (confirmed_pure c.l.t c.m hb (tv_ok (l:=c.l) (by simp_all)).2.2.1 hm (fun k hk=>by rw [← show c.l.i=c.m.i by simp_all]; exact (tv_ok (l:=c.l) (by simp_all)).2.2.2.1 k hk)) rfl (G_yes (edF g8 rfl) (R_notb rfl (R_pickF (edF g8 rfl) rfl ?_))))
   exact ⟨t1,t3,(dborF g8),h1,h3,h4,h8,trivial⟩
 intro T H ⟨t1,t3,t69,h1,h3,h4,h8,_⟩
 refine R_mv t69 ?_
 refine Ops_seg 7 (fun T H=>T 1=(V.mp 1 1 0 0)∧T 3=(V.mp 3 1 0 0)∧T 77=(V.bool ((((decide (((tvE c.l)≠(0:Int))∨((c.l.i)≠(c.m.i)))||((!sdB c.l.t c.m c.l.t.nd.length 0))))||((!aptB c.m (lvs c.l.t))))))∧H 1=(bk 1 65 11 [[(iV (c.m.i)),(iV (c.m.s)),(intss c.m.nx),(intss c.m.ot),(iV (c.o.i)),(V.sl (List.map cT (c.o.tr))),(iV (c.l.i)),(V.sl (List.map cN (c.l.t.nd))),(ints c.s.p),(iV (c.s.a)),(ints c.s.x)]])∧H 3=(bk 1 46 4 [[(iV (c.m.i)),(iV (c.m.s)),(intss c.m.nx),(intss c.m.ot)]])∧H 4=(⟨0,false,false,0,0,[]⟩:Blk)∧H 8=(⟨0,false,false,0,0,[]⟩:Blk)∧True) ?_ ?_
 ·
  by_cases g9:((decide (((tvE c.l)≠(0:Int))∨((c.l.i)≠(c.m.i)))||((!sdB c.l.t c.m c.l.t.nd.length 0))))=true
  ·
   refine G_n (ebT g9 rfl) (G_n (ebT g9 rfl) (G_n (ebT g9 rfl) (G_n (ebT g9 rfl) (G_n (ebT g9 rfl) (G_n (ebT g9 rfl) (R_pickT (ebT g9 rfl) rfl ?_))))))
   exact ⟨t1,t3,(borT g9),h1,h3,h4,h8,trivial⟩
  ·
   refine G_yes (ebF g9 rfl) (R_fk t1 h1 (G_yes (ebF g9 rfl) (R_fk rfl h1 (G_yes (ebF g9 rfl) (R_lk rfl h1 rfl rfl (G_yes (ebF g9 rfl) (R_lk t3 h3 rfl rfl ?_)))))))
   refine G_yes (ebF g9 rfl) (R_callk (apart27_pure c.l.t c.m hb hm (fun w hw=>by rw [← show c.l.i=c.m.i by simp_all]; exact (lvs_word (l:=c.l) (by simp_all) hw).2)) rfl (G_yes (ebF g9 rfl) (R_notb rfl (R_pickF (ebF g9 rfl) rfl ?_))))
   exact ⟨t1,t3,(borF g9),h1,h3,h4,h8,trivial⟩
 intro T H ⟨t1,t3,t77,h1,h3,h4,h8,_⟩
 refine R_e ?_
 refine W_seq_ifb t77 (fun c10=>?_) (fun c10=>?_)
 ·
  refine W_seq_seq (W_r (R_callk (aw_learnerlaw27_awake_pure) rfl (R_mv rfl (R_e (W_seq_ret ?_)))))
  refine Ret_1 (@rfl V (V.bool true)) (fz_canon (by simp) rfl)
 have q8:=c10
 simp only [Bool.or_eq_false_iff,decide_eq_false_iff_not,Bool.not_eq_false'] at q8
 obtain ⟨⟨q9,q11⟩,q12⟩:=q8
 have hl:tvE c.l=0:=by omega
 have hi:c.l.i=c.m.i:=by omega
 have hv:=(tv_ok hl).2.2.1
 have hag2:=hag
 unfold agB at hag2
 rw [Bool.and_eq_true,decide_eq_true_eq] at hag2
 have cs:Cas c.l c.o c.m:=⟨ho,hm,hag2.2,hl,hi,hag2.1,sd_ok hv (by decide) (rk0 hv) q11,(apt_iff hm (lvs_srt _) (fun w hw=>wchk_inW (by rw [← hi]; exact (lvs_word hl hw).2))).1 q12⟩
 refine W_seq_skip ?_
 refine W_seq_regc (fun T H=>T 1=(V.mp 1 1 0 0)∧T 3=(V.mp 3 1 0 0)∧T 4=(V.mp 4 1 0 0)∧T 7=(iV ((tst c.l c.o).2.2.2))∧H 1=(bk 1 65 11 [[(iV (c.m.i)),(iV (c.m.s)),(intss c.m.nx),(intss c.m.ot),(iV (c.o.i)),(V.sl (List.map cT (c.o.tr))),(iV (c.l.i)),(V.sl (List.map cN (c.l.t.nd))),(ints c.s.p),(iV (c.s.a)),(ints c.s.x)]])∧H 3=(bk 1 46 4 [[(iV (c.m.i)),(iV (c.m.s)),(intss c.m.nx),(intss c.m.ot)]])∧H 4=(bk 1 26 2 [[(iV ((tst c.l c.o).1.i)),(V.sl (List.map cN ((tst c.l c.o).1.t.nd)))]])∧H 8=(⟨0,false,false,0,0,[]⟩:Blk)∧True) ?_ ?_
 ·
  refine R_fk t1 h1 (R_lk rfl h1 rfl rfl (R_fk t1 h1 (R_lk rfl h1 rfl rfl (R_callk (tstep_pure c.l c.o hb ho hx) rfl (R_mv rfl (R_ext rfl rfl (R_ext rfl rfl ?_)))))))
  refine R_ext rfl rfl (R_ext rfl rfl (R_alloc (i:=4) (n:=0) (m:=2) rfl (congrArg Blk.ver h4) rfl (R_sk rfl rfl rfl rfl rfl rfl rfl rfl rfl (R_mv rfl (R_mv rfl (R_mv rfl ?_))))))
  exact R_nil ⟨t1,t3,rfl,rfl,h1,h3,rfl,h8,trivial⟩
 intro T H ⟨t1,t3,t4,t7,h1,h3,h4,h8,_⟩
 refine W_r (R_fk t1 h1 (R_lk rfl h1 rfl rfl (R_fk t1 h1 (R_lk rfl h1 rfl rfl (R_fk t1 h1 (R_lk rfl h1 rfl rfl (R_callk (trefine_pure c.l c.o c.s hb ho) rfl ?_)))))))
 refine R_mv rfl (R_ext rfl rfl (R_ext rfl rfl (R_ext rfl rfl (R_alloc (i:=8) (n:=0) (m:=2) rfl (congrArg Blk.ver h8) rfl (R_sk rfl rfl rfl rfl rfl rfl rfl rfl rfl (R_mv rfl (R_mv rfl ?_)))))))
 refine R_e (W_seq_seq (W_r (R_mv t7 (R_eql rfl rfl (R_mv rfl ?_)))))
 refine Ops_seg 14 (fun T H=>T 3=(V.mp 3 1 0 0)∧T 8=(V.mp 8 1 0 0)∧T 10=(iV ((rfR c.l c.o c.s).2.2))∧T 116=(V.bool ((decide (((tst c.l c.o).2.2.2)=(0:Int))&&((((!wiB (lvs ((tst c.l c.o).1.t)) ((c.m.i))))||((!aptB c.m (lvs ((tst c.l c.o).1.t)))))))))∧H 1=(bk 1 65 11 [[(iV (c.m.i)),(iV (c.m.s)),(intss c.m.nx),(intss c.m.ot),(iV (c.o.i)),(V.sl (List.map cT (c.o.tr))),(iV (c.l.i)),(V.sl (List.map cN (c.l.t.nd))),(ints c.s.p),(iV (c.s.a)),(ints c.s.x)]])∧H 3=(bk 1 46 4 [[(iV (c.m.i)),(iV (c.m.s)),(intss c.m.nx),(intss c.m.ot)]])∧H 4=(bk 1 26 2 [[(iV ((tst c.l c.o).1.i)),(V.sl (List.map cN ((tst c.l c.o).1.t.nd)))]])∧H 8=(bk 1 26 2 [[(iV ((rfR c.l c.o c.s).1.i)),(V.sl (List.map cN ((rfR c.l c.o c.s).1.t.nd)))]])∧True) ?_ ?_
 ·
  by_cases g11:((tst c.l c.o).2.2.2)=(0:Int)
  ·
   refine G_yes (edT g11 rfl) (R_fk t4 h4 (G_yes (edT g11 rfl) (R_lk rfl h4 rfl rfl (G_yes (edT g11 rfl) (R_fk t3 h3 (G_yes (edT g11 rfl) (R_lk rfl h3 rfl rfl ?_)))))))
   refine G_yes (edT g11 rfl) (R_callk (within_pure ((tst c.l c.o).1.t) ((c.m.i)) (by exact b1)) rfl (G_yes (edT g11 rfl) (R_notb rfl (G_yes (edT g11 rfl) (R_mv rfl ?_)))))
   refine Ops_seg 6 (fun T H=>T 3=(V.mp 3 1 0 0)∧T 8=(V.mp 8 1 0 0)∧T 10=(iV ((rfR c.l c.o c.s).2.2))∧T 102=(V.bool true)∧T 115=(V.bool ((((!wiB (lvs ((tst c.l c.o).1.t)) ((c.m.i))))||((!aptB c.m (lvs ((tst c.l c.o).1.t)))))))∧H 1=(bk 1 65 11 [[(iV (c.m.i)),(iV (c.m.s)),(intss c.m.nx),(intss c.m.ot),(iV (c.o.i)),(V.sl (List.map cT (c.o.tr))),(iV (c.l.i)),(V.sl (List.map cN (c.l.t.nd))),(ints c.s.p),(iV (c.s.a)),(ints c.s.x)]])∧H 3=(bk 1 46 4 [[(iV (c.m.i)),(iV (c.m.s)),(intss c.m.nx),(intss c.m.ot)]])∧H 4=(bk 1 26 2 [[(iV ((tst c.l c.o).1.i)),(V.sl (List.map cN ((tst c.l c.o).1.t.nd)))]])∧H 8=(bk 1 26 2 [[(iV ((rfR c.l c.o c.s).1.i)),(V.sl (List.map cN ((rfR c.l c.o c.s).1.t.nd)))]])∧True) ?_ ?_
   ·
    by_cases g12:((!wiB (lvs ((tst c.l c.o).1.t)) ((c.m.i))))=true
    ·
     refine G_n (ebT g12 rfl) (G_n (ebT g12 rfl) (G_n (ebT g12 rfl) (G_n (ebT g12 rfl) (G_n (ebT g12 rfl) (G_yes (edT g11 rfl) (R_pickT (ebT g12 rfl) rfl ?_))))))
     exact ⟨t3,rfl,rfl,(edT g11 rfl),(borT g12),h1,h3,h4,rfl,trivial⟩
    ·
     refine G_yes (ebF g12 rfl) (R_fk t4 h4 (G_yes (ebF g12 rfl) (R_lk rfl h4 rfl rfl (G_yes (ebF g12 rfl) (R_lk t3 h3 rfl rfl (G_yes (ebF g12 rfl) (R_callk (apart27_pure ((tst c.l c.o).1.t) c.m b1 hm (wi_iff.1 (by simp_all))) rfl ?_)))))))
     refine G_yes (ebF g12 rfl) (R_notb rfl (G_yes (edT g11 rfl) (R_pickF (ebF g12 rfl) rfl ?_)))
     exact ⟨t3,rfl,rfl,(edT g11 rfl),(borF g12),h1,h3,h4,rfl,trivial⟩
   intro T H ⟨t3,t8,t10,t102,t115,h1,h3,h4,h8,_⟩
   refine R_pickT t102 t115 ?_
   exact ⟨t3,t8,t10,(dbandT g11),h1,h3,h4,h8,trivial⟩
  ·
   refine G_n (edF g11 rfl) (G_n (edF g11 rfl) (G_n (edF g11 rfl) (G_n (edF g11 rfl) (G_n (edF g11 rfl) (G_n (edF g11 rfl) (G_n (edF g11 rfl) (G_raw (@rfl V (V.raw undef)) ?_)))))))
   refine G_raw (@rfl V (V.raw undef)) (G_raw (@rfl V (V.raw undef)) (G_raw (@rfl V (V.raw undef)) (G_raw (@rfl V (V.raw undef)) (G_n (edF g11 rfl) (R_pickF (edF g11 rfl) rfl ?_)))))
   exact ⟨t3,rfl,rfl,(dbandF g11),h1,h3,h4,rfl,trivial⟩
 intro T H ⟨t3,t8,t10,t116,h1,h3,h4,h8,_⟩
 refine R_e ?_
 refine W_seq_ifb t116 (fun c13=>?_) (fun c13=>?_)
 · exfalso; have z:=c13; have y:=cs.step (by simp only [Bool.and_eq_true,decide_eq_true_eq] at z; exact z.1); simp [wi_iff.2 y.1,(apt_iff cs.hm (lvs_srt _) (fun w hw=>wchk_inW (y.1 w hw))).2 y.2] at z
 refine W_seq_skip (W_seq_seq (W_r (R_mv t10 (R_eql rfl rfl (R_mv rfl ?_)))))
 refine Ops_seg 14 (fun T H=>T 133=(V.bool ((decide (((rfR c.l c.o c.s).2.2)=(0:Int))&&((((!wiB (lvs ((rfR c.l c.o c.s).1.t)) ((c.m.i))))||((!aptB c.m (lvs ((rfR c.l c.o c.s).1.t)))))))))∧H 1=(bk 1 65 11 [[(iV (c.m.i)),(iV (c.m.s)),(intss c.m.nx),(intss c.m.ot),(iV (c.o.i)),(V.sl (List.map cT (c.o.tr))),(iV (c.l.i)),(V.sl (List.map cN (c.l.t.nd))),(ints c.s.p),(iV (c.s.a)),(ints c.s.x)]])∧H 3=(bk 1 46 4 [[(iV (c.m.i)),(iV (c.m.s)),(intss c.m.nx),(intss c.m.ot)]])∧H 4=(bk 1 26 2 [[(iV ((tst c.l c.o).1.i)),(V.sl (List.map cN ((tst c.l c.o).1.t.nd)))]])∧H 8=(bk 1 26 2 [[(iV ((rfR c.l c.o c.s).1.i)),(V.sl (List.map cN ((rfR c.l c.o c.s).1.t.nd)))]])∧True) ?_ ?_
 ·
  by_cases g14:((rfR c.l c.o c.s).2.2)=(0:Int)
  ·
   refine G_yes (edT g14 rfl) (R_fk t8 h8 (G_yes (edT g14 rfl) (R_lk rfl h8 rfl rfl (G_yes (edT g14 rfl) (R_fk t3 h3 (G_yes (edT g14 rfl) (R_lk rfl h3 rfl rfl ?_)))))))
   refine G_yes (edT g14 rfl) (R_callk (within_pure ((rfR c.l c.o c.s).1.t) ((c.m.i)) (by exact b2)) rfl (G_yes (edT g14 rfl) (R_notb rfl (G_yes (edT g14 rfl) (R_mv rfl ?_)))))
   refine Ops_seg 6 (fun T H=>T 119=(V.bool true)∧T 132=(V.bool ((((!wiB (lvs ((rfR c.l c.o c.s).1.t)) ((c.m.i))))||((!aptB c.m (lvs ((rfR c.l c.o c.s).1.t)))))))∧H 1=(bk 1 65 11 [[(iV (c.m.i)),(iV (c.m.s)),(intss c.m.nx),(intss c.m.ot),(iV (c.o.i)),(V.sl (List.map cT (c.o.tr))),(iV (c.l.i)),(V.sl (List.map cN (c.l.t.nd))),(ints c.s.p),(iV (c.s.a)),(ints c.s.x)]])∧H 3=(bk 1 46 4 [[(iV (c.m.i)),(iV (c.m.s)),(intss c.m.nx),(intss c.m.ot)]])∧H 4=(bk 1 26 2 [[(iV ((tst c.l c.o).1.i)),(V.sl (List.map cN ((tst c.l c.o).1.t.nd)))]])∧H 8=(bk 1 26 2 [[(iV ((rfR c.l c.o c.s).1.i)),(V.sl (List.map cN ((rfR c.l c.o c.s).1.t.nd)))]])∧True) ?_ ?_
   ·
    by_cases g15:((!wiB (lvs ((rfR c.l c.o c.s).1.t)) ((c.m.i))))=true
    ·
     refine G_n (ebT g15 rfl) (G_n (ebT g15 rfl) (G_n (ebT g15 rfl) (G_n (ebT g15 rfl) (G_n (ebT g15 rfl) (G_yes (edT g14 rfl) (R_pickT (ebT g15 rfl) rfl ?_))))))
     exact ⟨(edT g14 rfl),(borT g15),h1,h3,h4,h8,trivial⟩
    ·
     refine G_yes (ebF g15 rfl) (R_fk t8 h8 (G_yes (ebF g15 rfl) (R_lk rfl h8 rfl rfl (G_yes (ebF g15 rfl) (R_lk t3 h3 rfl rfl (G_yes (ebF g15 rfl) (R_callk (apart27_pure ((rfR c.l c.o c.s).1.t) c.m b2 hm (wi_iff.1 (by simp_all))) rfl ?_)))))))
     refine G_yes (ebF g15 rfl) (R_notb rfl (G_yes (edT g14 rfl) (R_pickF (ebF g15 rfl) rfl ?_)))
     exact ⟨(edT g14 rfl),(borF g15),h1,h3,h4,h8,trivial⟩
   intro T H ⟨t119,t132,h1,h3,h4,h8,_⟩
   refine R_pickT t119 t132 ?_
   exact ⟨(dbandT g14),h1,h3,h4,h8,trivial⟩
  ·
   refine G_n (edF g14 rfl) (G_n (edF g14 rfl) (G_n (edF g14 rfl) (G_n (edF g14 rfl) (G_n (edF g14 rfl) (G_n (edF g14 rfl) (G_n (edF g14 rfl) (G_raw (@rfl V (V.raw undef)) ?_)))))))
   refine G_raw (@rfl V (V.raw undef)) (G_raw (@rfl V (V.raw undef)) (G_raw (@rfl V (V.raw undef)) (G_raw (@rfl V (V.raw undef)) (G_n (edF g14 rfl) (R_pickF (edF g14 rfl) rfl ?_)))))
   exact ⟨(dbandF g14),h1,h3,h4,h8,trivial⟩
 intro T H ⟨t133,h1,h3,h4,h8,_⟩
 refine R_e ?_
 refine W_seq_ifb t133 (fun c16=>?_) (fun c16=>?_)
 · exfalso; have z:=c16; have y:=cs.split (by simp only [Bool.and_eq_true,decide_eq_true_eq] at z; exact z.1); simp [wi_iff.2 y.1,(apt_iff cs.hm (lvs_srt _) (fun w hw=>wchk_inW (y.1 w hw))).2 y.2] at z
 refine W_seq_skip (W_r (R_callk (aw_learnerlaw27_awake_pure) rfl (R_mv rfl (R_e (W_ret ?_)))))
 refine Ret_1 (@rfl V (V.bool true)) (fz_canon (by simp) rfl)
end Go.Proofs.YtmnjchcoigbngabGreat
namespace Go.Proofs.YtmnjchcoigbngabGreat
open Go Go.Proofs Go.Proofs.YtmnjchcoigbngabGreat Go.ChangeShapes Go.WideShapes Go.ChangeAt Go.RowKit
structure UT (P:Program):Prop where
  u3:P.underlying 3=some (.int .i64)
  u37:P.underlying 37=some (.slice 54)
  u54:P.underlying 54=some (.slice 3)
  u46: ∃ f0 f1 f2 f3:Field,P.underlying 46=some (.struct #[f0,f1,f2,f3])∧f0.type=3∧f1.type=3∧f2.type=37∧f3.type=37
  u27:P.underlying 27=some (.slice 84)
  u84: ∃ f0 f1:Field,P.underlying 84=some (.struct #[f0,f1])∧f0.type=54∧f1.type=54
  u29: ∃ f0 f1:Field,P.underlying 29=some (.struct #[f0,f1])∧f0.type=3∧f1.type=27
  u22:P.underlying 22=some (.slice 99)
  u4:P.underlying 4=some (.bool)
  u99: ∃ f0 f1 f2 f3 f4:Field,P.underlying 99=some (.struct #[f0,f1,f2,f3,f4])∧f0.type=4∧f1.type=54∧f2.type=54∧f3.type=37∧f4.type=54
  u24: ∃ f0:Field,P.underlying 24=some (.struct #[f0])∧f0.type=22
  u26: ∃ f0 f1:Field,P.underlying 26=some (.struct #[f0,f1])∧f0.type=3∧f1.type=24
  u56: ∃ f0 f1 f2:Field,P.underlying 56=some (.struct #[f0,f1,f2])∧f0.type=54∧f1.type=3∧f2.type=54
  u65: ∃ f0 f1 f2 f3:Field,P.underlying 65=some (.struct #[f0,f1,f2,f3])∧f0.type=46∧f1.type=29∧f2.type=26∧f3.type=56
theorem sh3 {P:Program} (U:UT P) (n:Nat) (vs:List V) (h:Shp P (n+1) 3 vs): ∃ a:Int,vs=cI a:=shp_int U.u3 h
theorem sh54 {P:Program} (U:UT P) (n:Nat) (vs:List V) (h:Shp P (n+2) 54 vs): ∃ a:List Int,vs=cL a:=shp_slice (f:=cI) U.u54 (fun vs h=>sh3 U n vs h) h
theorem sh37 {P:Program} (U:UT P) (n:Nat) (vs:List V) (h:Shp P (n+3) 37 vs): ∃ a:List (List Int),vs=(fun l=>[V.sl (List.map cL l)]) a:=shp_slice (f:=cL) U.u37 (fun vs h=>sh54 U n vs h) h
theorem sh46 {P:Program} (U:UT P) (n:Nat) (vs:List V) (h:Shp P (n+4) 46 vs): ∃ a:M,vs=mC a:=by
  obtain ⟨f0,f1,f2,f3,hu,k0,k1,k2,k3⟩:=U.u46
  have h0:=shp_step hu h
  obtain ⟨x0,u0,e0,h1⟩:=shpL_cons (c:=cI) (fun vs h=>sh3 U (n+2) vs (by rw [k0] at h; exact h)) h0
  obtain ⟨x1,u1,e1,h2⟩:=shpL_cons (c:=cI) (fun vs h=>sh3 U (n+2) vs (by rw [k1] at h; exact h)) h1
  obtain ⟨x2,u2,e2,h3⟩:=shpL_cons (c:=(fun l=>[V.sl (List.map cL l)])) (fun vs h=>sh37 U (n+0) vs (by rw [k2] at h; exact h)) h2
  obtain ⟨x3,u3,e3,h4⟩:=shpL_cons (c:=(fun l=>[V.sl (List.map cL l)])) (fun vs h=>sh37 U (n+0) vs (by rw [k3] at h; exact h)) h3
  have e4:=shpL_nil h4
  exact ⟨⟨x0,x1,x2,x3⟩,by rw [e0,e1,e2,e3,e4]; rfl⟩
theorem sh84 {P:Program} (U:UT P) (n:Nat) (vs:List V) (h:Shp P (n+3) 84 vs): ∃ a:Tr,vs=cT a:=by
  obtain ⟨f0,f1,hu,k0,k1⟩:=U.u84
  have h0:=shp_step hu h
  obtain ⟨x0,u0,e0,h1⟩:=shpL_cons (c:=cL) (fun vs h=>sh54 U (n+0) vs (by rw [k0] at h; exact h)) h0
  obtain ⟨x1,u1,e1,h2⟩:=shpL_cons (c:=cL) (fun vs h=>sh54 U (n+0) vs (by rw [k1] at h; exact h)) h1
  have e2:=shpL_nil h2
  exact ⟨⟨x0,x1⟩,by rw [e0,e1,e2]; rfl⟩
theorem sh27 {P:Program} (U:UT P) (n:Nat) (vs:List V) (h:Shp P (n+4) 27 vs): ∃ a:List Tr,vs=(fun l=>[V.sl (List.map cT l)]) a:=shp_slice (f:=cT) U.u27 (fun vs h=>sh84 U n vs h) h
theorem sh29 {P:Program} (U:UT P) (n:Nat) (vs:List V) (h:Shp P (n+5) 29 vs): ∃ a:Ob,vs=oC a:=by
  obtain ⟨f0,f1,hu,k0,k1⟩:=U.u29
  have h0:=shp_step hu h
  obtain ⟨x0,u0,e0,h1⟩:=shpL_cons (c:=cI) (fun vs h=>sh3 U (n+3) vs (by rw [k0] at h; exact h)) h0
  obtain ⟨x1,u1,e1,h2⟩:=shpL_cons (c:=(fun l=>[V.sl (List.map cT l)])) (fun vs h=>sh27 U (n+0) vs (by rw [k1] at h; exact h)) h1
  have e2:=shpL_nil h2
  exact ⟨⟨x0,x1⟩,by rw [e0,e1,e2]; rfl⟩
theorem sh4 {P:Program} (U:UT P) (n:Nat) (vs:List V) (h:Shp P (n+1) 4 vs): ∃ a:Bool,vs=(fun b=>[V.bool b]) a:=shp_bool U.u4 h
theorem sh99 {P:Program} (U:UT P) (n:Nat) (vs:List V) (h:Shp P (n+4) 99 vs): ∃ a:Nd,vs=cN a:=by
  obtain ⟨f0,f1,f2,f3,f4,hu,k0,k1,k2,k3,k4⟩:=U.u99
  have h0:=shp_step hu h
  obtain ⟨x0,u0,e0,h1⟩:=shpL_cons (c:=(fun b=>[V.bool b])) (fun vs h=>sh4 U (n+2) vs (by rw [k0] at h; exact h)) h0
  obtain ⟨x1,u1,e1,h2⟩:=shpL_cons (c:=cL) (fun vs h=>sh54 U (n+1) vs (by rw [k1] at h; exact h)) h1
  obtain ⟨x2,u2,e2,h3⟩:=shpL_cons (c:=cL) (fun vs h=>sh54 U (n+1) vs (by rw [k2] at h; exact h)) h2
  obtain ⟨x3,u3,e3,h4⟩:=shpL_cons (c:=(fun l=>[V.sl (List.map cL l)])) (fun vs h=>sh37 U (n+0) vs (by rw [k3] at h; exact h)) h3
  obtain ⟨x4,u4,e4,h5⟩:=shpL_cons (c:=cL) (fun vs h=>sh54 U (n+1) vs (by rw [k4] at h; exact h)) h4
  have e5:=shpL_nil h5
  exact ⟨⟨x0,x1,x2,x3,x4⟩,by rw [e0,e1,e2,e3,e4,e5]; rfl⟩
theorem sh22 {P:Program} (U:UT P) (n:Nat) (vs:List V) (h:Shp P (n+5) 22 vs): ∃ a:List Nd,vs=(fun l=>[V.sl (List.map cN l)]) a:=shp_slice (f:=cN) U.u22 (fun vs h=>sh99 U n vs h) h
theorem sh24 {P:Program} (U:UT P) (n:Nat) (vs:List V) (h:Shp P (n+6) 24 vs): ∃ a:Dt,vs=cD a:=by
  obtain ⟨f0,hu,k0⟩:=U.u24
  have h0:=shp_step hu h
  obtain ⟨x0,u0,e0,h1⟩:=shpL_cons (c:=(fun l=>[V.sl (List.map cN l)])) (fun vs h=>sh22 U (n+0) vs (by rw [k0] at h; exact h)) h0
  have e1:=shpL_nil h1
  exact ⟨⟨x0⟩,by rw [e0,e1]; rfl⟩
theorem sh26 {P:Program} (U:UT P) (n:Nat) (vs:List V) (h:Shp P (n+7) 26 vs): ∃ a:Ts,vs=cTs a:=by
  obtain ⟨f0,f1,hu,k0,k1⟩:=U.u26
  have h0:=shp_step hu h
  obtain ⟨x0,u0,e0,h1⟩:=shpL_cons (c:=cI) (fun vs h=>sh3 U (n+5) vs (by rw [k0] at h; exact h)) h0
  obtain ⟨x1,u1,e1,h2⟩:=shpL_cons (c:=cD) (fun vs h=>sh24 U (n+0) vs (by rw [k1] at h; exact h)) h1
  have e2:=shpL_nil h2
  exact ⟨⟨x0,x1⟩,by rw [e0,e1,e2]; rfl⟩
theorem sh56 {P:Program} (U:UT P) (n:Nat) (vs:List V) (h:Shp P (n+3) 56 vs): ∃ a:Spl,vs=cSpl a:=by
  obtain ⟨f0,f1,f2,hu,k0,k1,k2⟩:=U.u56
  have h0:=shp_step hu h
  obtain ⟨x0,u0,e0,h1⟩:=shpL_cons (c:=cL) (fun vs h=>sh54 U (n+0) vs (by rw [k0] at h; exact h)) h0
  obtain ⟨x1,u1,e1,h2⟩:=shpL_cons (c:=cI) (fun vs h=>sh3 U (n+1) vs (by rw [k1] at h; exact h)) h1
  obtain ⟨x2,u2,e2,h3⟩:=shpL_cons (c:=cL) (fun vs h=>sh54 U (n+0) vs (by rw [k2] at h; exact h)) h2
  have e3:=shpL_nil h3
  exact ⟨⟨x0,x1,x2⟩,by rw [e0,e1,e2,e3]; rfl⟩
theorem sh65 {P:Program} (U:UT P) (n:Nat) (vs:List V) (h:Shp P (n+8) 65 vs): ∃ a:Cse,vs=cCse a:=by
  obtain ⟨f0,f1,f2,f3,hu,k0,k1,k2,k3⟩:=U.u65
  have h0:=shp_step hu h
  obtain ⟨x0,u0,e0,h1⟩:=shpL_cons (c:=mC) (fun vs h=>sh46 U (n+3) vs (by rw [k0] at h; exact h)) h0
  obtain ⟨x1,u1,e1,h2⟩:=shpL_cons (c:=oC) (fun vs h=>sh29 U (n+2) vs (by rw [k1] at h; exact h)) h1
  obtain ⟨x2,u2,e2,h3⟩:=shpL_cons (c:=cTs) (fun vs h=>sh26 U (n+0) vs (by rw [k2] at h; exact h)) h2
  obtain ⟨x3,u3,e3,h4⟩:=shpL_cons (c:=cSpl) (fun vs h=>sh56 U (n+4) vs (by rw [k3] at h; exact h)) h3
  have e4:=shpL_nil h4
  exact ⟨⟨x0,x1,x2,x3⟩,by rw [e0,e1,e2,e3,e4]; rfl⟩
theorem ut:UT Tryz.prog:=⟨by kernel_rfl,by kernel_rfl,by kernel_rfl,⟨_,_,_,_,Tryz.underlying46,rfl,rfl,rfl,rfl⟩,by kernel_rfl,⟨_,_,Tryz.underlying84,rfl,rfl⟩,⟨_,_,Tryz.underlying29,rfl,rfl⟩,by kernel_rfl,by kernel_rfl,⟨_,_,_,_,_,Tryz.underlying99,rfl,rfl,rfl,rfl,rfl⟩,⟨_,Tryz.underlying24,rfl⟩,⟨_,_,Tryz.underlying26,rfl,rfl⟩,⟨_,_,_,Tryz.underlying56,rfl,rfl,rfl⟩,⟨_,_,_,_,Tryz.underlying65,rfl,rfl,rfl,rfl⟩⟩
theorem args7 {P:Program} (U:UT P) {us:List V} (h:ShpA P 9 [65] us): ∃ (d0:Cse),us=[V.agg (cCse d0)]:=by
  obtain ⟨a0,b0,e0,h0,h⟩:=shpA_cons h
  obtain ⟨d0,g0⟩:=sh65 U 1 a0 h0
  have q0:packV P 65 a0=V.agg (cCse d0):=by obtain ⟨_,_,_,_,hu,_⟩:=U.u65; rw [g0]; exact pack_struct hu _
  have e1:=shpA_nil h
  exact ⟨d0,by rw [e0,q0,e1]⟩
theorem own7:ownKnob Tryz.prog.godebug=none:=by kernel_rfl
set_option maxRecDepth 100000 in
theorem lifted7 (os:Os) (started:os.Started) (H:Type) (enc:TypeId×Value→H):
    ReturnsInHanded {} Tryz.checked os 7 .any (Rows.treelearnApartSpec.pre6 enc Tryz.prog Tryz.f7 Rows.treelearnApartRow.domain false) (Rows.treelearnApartSpec.post enc Tryz.prog Tryz.f7 false true false false):=by
  refine returnsInHanded_of_change (C:=Tryz.checked) own7 started (by kernel_rfl) Tryz.func7
    (ChangeSpec.witness6 (enc:=enc) (C:=Tryz.checked) false ⟨#[],#[.agg #[.int .i64 0,.int .i64 0,.slice none 0 0,.slice none 0 0,.int .i64 0,.slice none 0 0,.int .i64 0,.slice none 0 0,.slice none 0 0,.int .i64 0,.slice none 0 0]],[]⟩ 8 (by kernel_rfl) (by kernel_rfl) (by kernel_rfl) (by kernel_rfl)) ?_
  intro W base args ds gs before hval0 hW hcnd _
  refine law_post (n:=9) (tb:=4) (by kernel_rfl) (by kernel_rfl) (by kernel_rfl) (fun t ht=>?_) rfl ?_ (fun us hu=>?_) hval0 hW
  · have h:t∈[65]:=ht
    simp only [List.mem_cons,List.not_mem_nil,or_false] at h
    rcases h with rfl
    · exact ⟨by kernel_rfl,by kernel_rfl,of_decide_eq_true (by kernel_rfl)⟩
  · obtain ⟨p,q,hA,hV,rfl,hfz,hnd⟩:=hW
    obtain ⟨rfl,rfl⟩:=trodVars_none hV
    change DataW.TrodAll enc Tryz.prog W 0 (fun _=>true) true [65] args.toList ds p at hA
    obtain ⟨v0,vs0,y0,ds0,pa0,pb0,hv0,rfl,rfl,_,hA⟩:=trodAll_cons hA
    obtain ⟨_,rfl,rfl⟩:=trodAll_nil hA
    rfl
  · obtain ⟨d0,rfl⟩:=args7 ut hu
    exact law7_pure d0
theorem proved7:Rows.TreelearnApartSaid:=
  OpenClaim.holds_of_wide 7 Tryz.f7 rfl rfl rfl rfl rfl rfl rfl ⟨rfl,rfl,rfl,rfl,rfl⟩ rfl rfl rfl rfl rfl (by kernel_rfl) Tryz.func7 (by kernel_rfl)
    (of_decide_eq_true (by kernel_rfl)) (by unfold Func.isWrapper; first|(rw [if_pos (by decide+kernel)]; kernel_rfl)|(rw [if_neg (by decide+kernel)]; exact ⟨rfl,rfl⟩))
    (fun os started H enc _=>lifted7 os started H enc)
end Go.Proofs.YtmnjchcoigbngabGreat
