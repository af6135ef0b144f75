/- Contracts of the functions that the law MA reaches, and the law itself, for every input; no condition. -/
import Derived.KernelRfl
import Derived.Test.YteehaobohaecmaaGreatDoorProg
import Derived.Lib.ItoaNum
import Derived.Shelf.Strconv.Itoa3
import Derived.Test.YteehaobohaecmaaGreatDoorMA2
set_option linter.unusedSimpArgs false
set_option linter.unusedVariables false
namespace Go.Proofs.YteehaobohaecmaaGreatDoor
open Go Go.Proofs
theorem rsame_pure_step (f h:Fm) (ih: ∀ (g h:Fm),g.sz < f.sz→PureC Tryz.prog 17 [(V.agg [(iV (g.op)),(iV (g.arg)),(V.sl (List.map cF (g.kids)))]),(V.agg [(iV (h.op)),(iV (h.arg)),(V.sl (List.map cF (h.kids)))])] (V.bool (sameF g h))):PureC Tryz.prog 17 [(V.agg [(iV (f.op)),(iV (f.arg)),(V.sl (List.map cF (f.kids)))]),(V.agg [(iV (h.op)),(iV (h.arg)),(V.sl (List.map cF (h.kids)))])] (V.bool (sameF f h)):=by
 refine pW Tryz.func17 s17_ok fun hB=>?_
 unfold s17
 dsimp only
 refine W_r (R_box (i:=2) (n:=0) (m:=3) (cs:=[(iV (f.op)),(iV (f.arg)),(V.sl (List.map cF (f.kids)))]) rfl (congrArg Blk.ver rfl) rfl rfl rfl (R_box (i:=3) (n:=0) (m:=3) (cs:=[(iV (h.op)),(iV (h.arg)),(V.sl (List.map cF (h.kids)))]) rfl (congrArg Blk.ver rfl) rfl rfl rfl (R_mv rfl (R_e (W_seq_seq (W_r (R_fk rfl rfl ?_)))))))
 refine R_lk rfl rfl rfl rfl (R_fk rfl rfl (R_lk rfl rfl rfl rfl (R_neq rfl rfl (R_mv rfl ?_))))
 refine Ops_seg 6 (fun T H=>T 2=(V.mp 2 1 0 0)∧T 3=(V.mp 3 1 0 0)∧T 17=(V.bool (decide (((f.op)≠(h.op))∨((f.arg)≠(h.arg)))))∧H 2=(bk 1 24 3 [[(iV (f.op)),(iV (f.arg)),(V.sl (List.map cF (f.kids)))]])∧H 3=(bk 1 24 3 [[(iV (h.op)),(iV (h.arg)),(V.sl (List.map cF (h.kids)))]])∧True) ?_ ?_
 ·
  by_cases g1:(f.op)≠(h.op)
  ·
   refine G_n (edT g1 rfl) (G_n (edT g1 rfl) (G_n (edT g1 rfl) (G_n (edT g1 rfl) (G_n (edT g1 rfl) (R_pickT (edT g1 rfl) rfl ?_)))))
   exact ⟨rfl,rfl,(dec_orT g1),rfl,rfl,trivial⟩
  ·
   refine G_yes (edF g1 rfl) (R_fk rfl rfl (G_yes (edF g1 rfl) (R_lk rfl rfl rfl rfl (G_yes (edF g1 rfl) (R_fk rfl rfl (G_yes (edF g1 rfl) (R_lk rfl rfl rfl rfl ?_)))))))
   refine G_yes (edF g1 rfl) (R_neq rfl rfl (R_pickF (edF g1 rfl) rfl ?_))
   exact ⟨rfl,rfl,(dec_orF g1),rfl,rfl,trivial⟩
 intro T H ⟨t2,t3,t17,h2,h3,_⟩
 refine R_mv t17 ?_
 refine Ops_seg 8 (fun T H=>T 2=(V.mp 2 1 0 0)∧T 3=(V.mp 3 1 0 0)∧T 26=(V.bool (decide ((((f.op)≠(h.op))∨((f.arg)≠(h.arg)))∨(((f.kids.length:Nat):Int)≠((h.kids.length:Nat):Int)))))∧H 2=(bk 1 24 3 [[(iV (f.op)),(iV (f.arg)),(V.sl (List.map cF (f.kids)))]])∧H 3=(bk 1 24 3 [[(iV (h.op)),(iV (h.arg)),(V.sl (List.map cF (h.kids)))]])∧True) ?_ ?_
 ·
  by_cases g2:((f.op)≠(h.op))∨((f.arg)≠(h.arg))
  ·
   refine G_n (edT g2 rfl) (G_n (edT g2 rfl) (G_n (edT g2 rfl) (G_n (edT g2 rfl) (G_n (edT g2 rfl) (G_n (edT g2 rfl) (G_n (edT g2 rfl) (R_pickT (edT g2 rfl) rfl ?_)))))))
   exact ⟨t2,t3,(dec_orT g2),h2,h3,trivial⟩
  ·
   refine G_yes (edF g2 rfl) (R_fk t2 h2 (G_yes (edF g2 rfl) (R_lk rfl h2 rfl rfl (G_yes (edF g2 rfl) (R_len rfl (G_yes (edF g2 rfl) (R_fk t3 h3 ?_)))))))
   refine G_yes (edF g2 rfl) (R_lk rfl h3 rfl rfl (G_yes (edF g2 rfl) (R_len rfl (G_yes (edF g2 rfl) (R_neq rfl rfl (R_pickF (edF g2 rfl) rfl ?_))))))
   exact ⟨t2,t3,(dec_orF g2),h2,h3,trivial⟩
 intro T H ⟨t2,t3,t26,h2,h3,_⟩
 refine R_e ?_
 refine W_seq_if t26 (fun c3=>?_) fun c3=>?_
 ·
  refine W_seq_seq (W_r (R_mv rfl (R_e (W_seq_ret ?_))))
  refine Ret_1 (@rfl V (V.bool false)) (fz_bool ?_)
  · rw [sameF_eq]; symm; simp only [Bool.and_eq_false_iff,decide_eq_false_iff_not]; omega
 refine W_seq_skip (W_seq_seq (W_r (R_mv rfl (R_e (W_seq_blockg fun Q4 n4 x4 y4 z4=>?_)))))
 refine W_loop (fun mm T H=> ∃ (k:Nat),mm=f.kids.length - k∧T 2=(V.mp 2 1 0 0)∧T 3=(V.mp 3 1 0 0)∧T 5=(iV ((k:Nat):Int))∧H 2=(bk 1 24 3 [[(iV (f.op)),(iV (f.arg)),(V.sl (List.map cF (f.kids)))]])∧H 3=(bk 1 24 3 [[(iV (h.op)),(iV (h.arg)),(V.sl (List.map cF (h.kids)))]])∧(k≤f.kids.length)∧(f.kids.length=h.kids.length)∧(sameL f.kids h.kids=sameL (f.kids.drop k) (h.kids.drop k))) ?_ ?_
 ·
  refine ⟨_,0,rfl,t2,t3,(Eq.trans (@rfl V (iV (0:Int))) rfl),h2,h3,?_,?_,?_⟩
  · omega
  · omega
  · rfl
 intro mm T H ⟨k,hmm,t2,t3,t5,h2,h3,hk,hl,hc⟩ Q5 p15 p25 p35
 unfold b17_0
 refine W_seq_seq (W_r (R_mv t5 (R_fk t2 h2 (R_lk rfl h2 rfl rfl (R_len rfl (R_lss rfl rfl (R_e ?_)))))))
 refine W_seq_if rfl (fun c6=>?_) fun c6=>?_
 ·
  refine W_seq_skip (W_seq_blockg fun Q7 n7 x7 y7 z7=>(W_r (R_fk t2 h2 (R_lk rfl h2 rfl rfl (R_mv t5 (R_idxu (i:=k) (@rfl V (V.sl (List.map cF (f.kids)))) (@rfl V (iV ((k:Nat):Int))) (by omega) (cF_eq _) rfl (R_load_pp rfl rfl ?_)))))))
  refine R_fk t3 h3 (R_lk rfl h3 rfl rfl (R_mv t5 (R_idxu (i:=k) (@rfl V (V.sl (List.map cF (h.kids)))) (@rfl V (iV ((k:Nat):Int))) (by omega) (cF_eq _) rfl (R_load_pp rfl rfl (R_callk (ih (((nth (f.kids) (k)))) (((nth (h.kids) (k)))) (Fm.sz_kid (by omega))) rfl (R_notb rfl (R_e ?_)))))))
  refine W_ifb rfl (fun c8=>?_) (fun c8=>?_)
  ·
   have d1:sameF (nth f.kids k) (nth h.kids k)=false:=by simpa using c8
   refine W_r (R_mv rfl (R_e (W_ret (y7 _ _ (p25 _ _ (y4 _ _ ?_))))))
   refine Ret_1 (@rfl V (V.bool false)) (fz_bool ?_)
   · rw [sameF_eq,hc,sameL_no (by omega) (by omega) d1,Bool.and_false]
  have d1:sameF (nth f.kids k) (nth h.kids k)=true:=by simpa using c8
  refine W_skip (n7 _ _ (.done (W_t (R_mv t5 (R_addN rfl (@rfl V (iV ((1:Nat):Int))) (by omega) (R_mv rfl (R_e ?_)))))))
  refine p15 _ _ _ ?_ ⟨(k+1),rfl,t2,t3,(Eq.trans (@rfl V (iV ((k+1:Nat):Int))) (by rfl)),h2,h3,?_,?_,?_⟩
  · omega
  · omega
  · omega
  · rw [hc,sameL_yes (by omega) (by omega) d1]
 refine W_seq_exit (p35 _ _ _ (x4 _ _ (.done (W_r (R_mv rfl (R_e (W_ret ?_)))))))
 refine Ret_1 (@rfl V (V.bool true)) (fz_bool ?_)
 · rw [sameF_eq,hc,sameL_end (by omega),Bool.and_true]; symm; simp only [Bool.and_eq_true,decide_eq_true_eq]; omega
theorem rsame_pure (f h:Fm):PureC Tryz.prog 17 [(V.agg [(iV (f.op)),(iV (f.arg)),(V.sl (List.map cF (f.kids)))]),(V.agg [(iV (h.op)),(iV (h.arg)),(V.sl (List.map cF (h.kids)))])] (V.bool (sameF f h)):=by
  have key: ∀ (mm:Nat) (f h:Fm),f.sz < mm→PureC Tryz.prog 17 [(V.agg [(iV (f.op)),(iV (f.arg)),(V.sl (List.map cF (f.kids)))]),(V.agg [(iV (h.op)),(iV (h.arg)),(V.sl (List.map cF (h.kids)))])] (V.bool (sameF f h)):=by
    intro mm
    induction mm with
    |zero=>intro f h hlt; exact absurd hlt (Nat.not_lt_zero _)
    | succ mm ih =>
      intro f h hlt
      exact rsame_pure_step f h fun f2 h2 hlt2=>ih f2 h2 (by omega)
  exact key (f.sz+1) f h (Nat.lt_succ_self _)
def r18_4:List SO:=[
 qM 27 1,
 qC 28 .lss 27 1,
 qM 29 28,
 ⟨some (29,false),some 30,.mv (.t 1)⟩,
 ⟨some (29,false),some 31,.bin .gtr (.t 30) (.c (.int .i64 64))⟩,
 sO 32 (.pick (.t 29) (.c (.bool true)) (.t 31)),
 qM 33 32,
 ⟨some (33,false),some 34,.mv (.t 2)⟩,
 ⟨some (33,false),some 35,.bin .lss (.t 34) (.c (.int .i64 1))⟩,
 sO 36 (.pick (.t 33) (.c (.bool true)) (.t 35)),
 qM 37 36,
 ⟨some (37,false),some 38,.mv (.t 2)⟩,
 ⟨some (37,false),some 39,.mv (.t 1)⟩,
 ⟨some (37,false),some 40,.bin .quo (.c (.int .i64 1024)) (.t 39)⟩,
 ⟨some (37,false),some 41,.bin .gtr (.t 38) (.t 40)⟩,
 sO 42 (.pick (.t 37) (.c (.bool true)) (.t 41))]
def r18_6:List SO:=[
 qL 45 3 3,
 sO 46 (.call false 11 [.t 45]),
 qM 44 46,
 qE 47 44 0,
 qE 48 44 1,
 sO 9 (.alloc 24 [.int .i64 0,.int .i64 0,.nilsl]),
 sN (.store 3 (.t 9) (.t 47)),
 qM 10 48]
def r18_15:List SO:=[
 qF 69 3 11,
 ql 70 69,
 qM 71 12,
 qM 72 14,
 qA 73 3 71 72,
 qL 74 3 73,
 sO 75 (.call false 42 [.t 74]),
 sO 76 (.bslice 4 1 false [.bool false] 1 [(0,.t 75)]),
 sO 77 (.append 4 1 1 (.t 70) (.t 76)),
 qF 78 3 11,
 sN (.store 1 (.t 78) (.t 77))]
def r18_20:List SO:=[
 qM 88 12,
 qM 89 14,
 qA 90 3 88 89,
 qL 91 3 90,
 qM 92 16,
 qM 93 2,
 qP 94 .quo 92 93,
 qM 95 16,
 qM 96 2,
 qP 97 .rem 95 96,
 sO 98 (.call false 13 [.t 91,.t 94,.t 97]),
 qM 87 98,
 qE 99 87 0,
 qE 100 87 1,
 sO 17 (.alloc 24 [.int .i64 0,.int .i64 0,.nilsl]),
 sN (.store 3 (.t 17) (.t 99)),
 qM 18 100]
def r18_23:List SO:=[
 qM 106 13,
 qL 107 3 17,
 sO 108 (.call false 44 [.t 107]),
 sO 109 (.mlook 0 true (.int .i64 0) (.t 106) (.t 108)),
 qM 105 109,
 qE 110 105 0,
 qE 111 105 1,
 qM 19 110,
 qM 20 111]
def b18_1:SC:=.seq (.reg [qP 85 .lss 84 83]) (.seq (.cond (.t 85) (.skip) (.exit 2)) (.seq (.block 3 (.seq (.reg [qM 86 84,qM 16 86]) (.seq (.dreg [17] r18_20) (.seq (.seq (.reg [qM 101 18,qC 102 .neq 101 0]) (.cond (.t 102) (.seq (.reg [sO 103 (.build [.int .i64 0,.int .i64 0,.nilsl,.nilsl] []),qM 104 18,sN (.store 4 (.t 6) (.t 103)),qM 7 104]) (.ret)) (.skip))) (.seq (.reg r18_23) (.seq (.seq (.reg [qM 112 20,sO 113 (.un .not (.t 112))]) (.cond (.t 113) (.seq (.reg [qM 114 12,qN 115 114,qM 19 115]) (.seq (.seq (.reg [qM 116 19,qC 117 .geq 116 128]) (.cond (.t 117) (.seq (.reg [sO 118 (.build [.int .i64 0,.int .i64 0,.nilsl,.nilsl] []),sN (.store 4 (.t 6) (.t 118)),qI 7 11]) (.ret)) (.skip))) (.seq (.reg [qM 119 13,qL 120 3 17,sO 121 (.call false 44 [.t 120]),qM 122 19,sN (.mset 0 (.t 119) (.t 121) (.t 122))]) (.reg [qM 123 12,qL 124 3 17,sO 125 (.bslice 24 3 false [.int .i64 0,.int .i64 0,.nilsl] 1 [(0,.t 124)]),sO 126 (.append 24 3 40 (.t 123) (.t 125)),qM 12 126])))) (.skip))) (.reg [qM 127 15,qM 128 19,sO 129 (.bslice 3 1 false [.int .i64 0] 1 [(0,.t 128)]),sO 130 (.append 3 1 8 (.t 127) (.t 129)),qM 15 130]))))))) (.reg [qC 131 .add 84 1,qM 84 131])))
def r18_32:List SO:=[
 qF 132 2 11,
 ql 133 132,
 qM 134 15,
 sO 135 (.bslice 52 1 false [.nilsl] 1 [(0,.t 134)]),
 sO 136 (.append 52 1 24 (.t 133) (.t 135)),
 qF 137 2 11,
 sN (.store 1 (.t 137) (.t 136))]
def b18_0:SC:=.seq (.seq (.reg [qM 63 14,qM 64 12,qN 65 64,qP 66 .lss 63 65]) (.cond (.t 66) (.skip) (.exit 0))) (.seq (.block 1 (.seq (.reg r18_15) (.seq (.reg [qF 79 0 11,ql 80 79,sO 81 (.mks 3 1 8 [.int .i64 0] (.c (.int .i64 0)) (.t 80)),qM 15 81]) (.seq (.seq (.reg [qF 82 0 11,ql 83 82,qI 84 0]) (.block 2 (.loop b18_1))) (.reg r18_32))))) (.reg [qM 67 14,qC 68 .add 67 1,qM 14 68]))
def s18:SF:=⟨139,[.cell 6 true 4,.tmp 7],.seq (.reg [sO 3 (.box 24 3 (.t 0)),sO 6 (.alloc 43 [.int .i64 0,.int .i64 0,.nilsl,.nilsl]),qI 7 0]) (.seq (.seq (.reg [qL 21 3 3,sO 22 (.call false 35 [.t 21]),qM 8 22]) (.seq (.reg [qM 23 8,qC 24 .neq 23 0]) (.cond (.t 24) (.seq (.reg [sO 25 (.build [.int .i64 0,.int .i64 0,.nilsl,.nilsl] []),qM 26 8,sN (.store 4 (.t 6) (.t 25)),qM 7 26]) (.ret)) (.skip)))) (.seq (.seq (.reg r18_4) (.cond (.t 42) (.seq (.reg [sO 43 (.build [.int .i64 0,.int .i64 0,.nilsl,.nilsl] []),sN (.store 4 (.t 6) (.t 43)),qI 7 2]) (.ret)) (.skip))) (.seq (.reg r18_6) (.seq (.seq (.reg [qM 49 10,qC 50 .neq 49 0]) (.cond (.t 50) (.seq (.reg [sO 51 (.build [.int .i64 0,.int .i64 0,.nilsl,.nilsl] []),qM 52 10,sN (.store 4 (.t 6) (.t 51)),qM 7 52]) (.ret)) (.skip))) (.seq (.reg [qM 53 1,qM 54 2,qP 55 .mul 53 54,sO 56 (.build [.int .i64 0,.int .i64 0,.nilsl,.nilsl] [(0,1,.t 55)]),sO 11 (.alloc 43 [.int .i64 0,.int .i64 0,.nilsl,.nilsl]),sN (.store 4 (.t 11) (.t 56))]) (.seq (.reg [qL 57 3 9,sO 58 (.bslice 24 3 true [.int .i64 0,.int .i64 0,.nilsl] 1 [(0,.t 57)]),qM 12 58]) (.seq (.reg [sO 59 (.mkmap),qL 60 3 9,sO 61 (.call false 44 [.t 60]),sN (.mset 0 (.t 59) (.t 61) (.c (.int .i64 0))),qM 62 59,qM 13 62]) (.seq (.seq (.reg [qI 14 0]) (.block 0 (.loop b18_0))) (.seq (.reg [qL 138 4 11,sN (.store 4 (.t 6) (.t 138)),qI 7 0]) (.ret))))))))))⟩
theorem s18_ok:slimF Tryz.prog ⟨[59,84,90,97,109,153,154,155,160],[58],[],[]⟩ Tryz.f18=some s18:=by kernel_rfl
def r44_1:List SO:=[
 qF 6 0 1,
 ql 7 6,
 sO 8 (.call false 71 [.t 7]),
 sO 9 (.sbin .add (.t 8) (.c (.str [46]))),
 qF 10 1 1,
 ql 11 10,
 sO 12 (.call false 71 [.t 11]),
 sO 13 (.sbin .add (.t 9) (.t 12)),
 sO 14 (.sbin .add (.t 13) (.c (.str [40]))),
 qM 3 14]
def b44_0:SC:=.seq (.reg [qP 19 .lss 18 17]) (.seq (.cond (.t 19) (.skip) (.exit 0)) (.seq (.block 1 (.seq (.reg [qA 20 3 16 18,qL 21 3 20,sO 5 (.alloc 24 [.int .i64 0,.int .i64 0,.nilsl]),sN (.store 3 (.t 5) (.t 21))]) (.reg [qM 22 3,qL 23 3 5,sO 24 (.call false 44 [.t 23]),sO 25 (.sbin .add (.t 22) (.t 24)),qM 3 25]))) (.reg [qC 26 .add 18 1,qM 18 26])))
def s44:SF:=⟨29,[.tmp 2],.seq (.reg [sO 1 (.box 24 3 (.t 0)),sO 2 (.mv (.c (.str [])))]) (.seq (.reg r44_1) (.seq (.seq (.reg [qF 15 2 1,ql 16 15,qN 17 16,qI 18 0]) (.block 0 (.loop b44_0))) (.seq (.reg [qM 27 3,sO 28 (.sbin .add (.t 27) (.c (.str [41]))),qM 2 28]) (.ret))))⟩
theorem s44_ok:slimF Tryz.prog ⟨[59,84,90,97,109,153,154,155,160],[],[],[]⟩ Tryz.f44=some s44:=by kernel_rfl
end Go.Proofs.YteehaobohaecmaaGreatDoor
namespace Go.Proofs.YteehaobohaecmaaGreatDoor
open Go Go.Lib
theorem dec_rng (u:Nat): ∀ c∈decDigits u,48≤c.toNat∧c.toNat≤57:=by
  induction u using Nat.strongRecOn with
  | _ u ih =>
    intro c hc
    have one: ∀ i,i < 10→ ∀ c,c=UInt8.ofNat (48+i)→48≤c.toNat∧c.toNat≤57:=fun i hi c e=>by
      rw [e,UInt8.toNat_ofNat']; omega
    rw [decDigits] at hc
    split at hc
    · rename_i h
      exact one u h c (by simpa using hc)
    · rename_i h
      rcases List.mem_append.1 hc with h1|h1
      · exact ih (u / 10) (Nat.div_lt_self (by omega) (by omega)) c h1
      · exact one (u % 10) (Nat.mod_lt _ (by omega)) c (by simpa using h1)
theorem dec_val (u:Nat):(decDigits u).foldl (fun n c=>n*10+(c.toNat - 48)) 0=u:=by
  induction u using Nat.strongRecOn with
  | _ u ih =>
    have one: ∀ i,i < 10→(UInt8.ofNat (48+i)).toNat - 48=i:=fun i hi=>by
      rw [UInt8.toNat_ofNat']; omega
    rw [decDigits]
    split
    · rename_i h
      simp only [List.foldl_cons,List.foldl_nil,Nat.zero_mul,Nat.zero_add]
      exact one u h
    · rename_i h
      rw [List.foldl_append,ih (u / 10) (Nat.div_lt_self (by omega) (by omega))]
      simp only [List.foldl_cons,List.foldl_nil]
      rw [one (u % 10) (Nat.mod_lt _ (by omega))]
      omega
theorem dec_inj {u v:Nat} (h:decDigits u=decDigits v):u=v:=by rw [← dec_val u,h,dec_val]
theorem dec_ne (u:Nat):decDigits u≠[]:=fun e=>by
  have h:=decDigits_length u
  rw [e] at h
  have:=nDigits_pos u
  simp at h; omega
theorem itoa_rng (n:Int): ∀ c∈itoa n,c.toNat=45∨(48≤c.toNat∧c.toNat≤57):=by
  intro c hc
  unfold itoa at hc
  split at hc
  · rcases List.mem_cons.1 hc with h|h
    · rw [h]; exact .inl rfl
    · exact .inr (dec_rng _ c h)
  · exact .inr (dec_rng _ c hc)
theorem itoa_inj {m n:Int} (h:itoa m=itoa n):m=n:=by
  have neg: ∀ a b:Nat,45::decDigits a≠decDigits b:=fun a b e=>by
    have:=dec_rng b 45 (by rw [← e]; exact List.mem_cons_self ..)
    have h2:(45:UInt8).toNat=45:=rfl
    omega
  unfold itoa at h
  split at h <;> split at h
  · injection h with _ h
    have:=dec_inj h; omega
  · exact absurd h (neg _ _)
  · exact absurd h.symm (neg _ _)
  · have:=dec_inj h; omega
theorem itoa_ne (n:Int):itoa n≠[]:=by
  unfold itoa
  split
  · simp
  · exact dec_ne _
theorem nDig_le: ∀ {k u:Nat},1≤k→u < 10 ^ k→nDigits u≤k
  |0,_,h,_=>absurd h (by omega)
  |1,u,_,h=>by rw [nDigits_small (by simpa using h)]; exact Nat.le_refl _
  | k + 2, u, _, h => by
    by_cases q:u < 10
    · rw [nDigits_small q]; omega
    · rw [nDigits_big q]
      have:=nDig_le (k:=k+1) (u:=u / 10) (by omega) (Nat.div_lt_of_lt_mul (by rw [Nat.pow_succ] at h; omega))
      omega
theorem itoa_len {n:Int} (h0:0≤n) (h1:n≤1048576):(itoa n).length≤7:=by
  unfold itoa
  rw [if_neg (by omega),decDigits_length]
  exact nDig_le (by omega) (by omega)
mutual
def kyF:Fm→List UInt8
  | .nd o a l=>itoa o++46::(itoa a++40::(kyL l++[41]))
def kyL:List Fm→List UInt8
  |[]=>[]
  |f::l=>kyF f++kyL l
end
theorem kyF_eq (f:Fm):kyF f=itoa f.op++46::(itoa f.arg++40::(kyL f.kids++[41])):=by cases f; rw [kyF]; rfl
theorem kyL_app: ∀ l m:List Fm,kyL (l++m)=kyL l++kyL m
  |[],_=>rfl
  |f::l,m=>by rw [List.cons_append,kyL,kyL,kyL_app l m,List.append_assoc]
theorem kyL_step {l:List Fm} {k:Nat} (h:k < l.length):kyL (l.take (k+1))=kyL (l.take k)++kyF (nth l k):=by
  rw [take_succ_nth h,kyL_app,kyL,kyL,List.append_nil]
theorem cut_at {c:UInt8}: ∀ {a b x y:List UInt8},c∉a→c∉b→a++c::x=b++c::y→a=b∧x=y
  |[],[],x,y,_,_,h=>by injection h with _ h; exact ⟨rfl,h⟩
  |[],d::b,x,y,_,hb,h=>by injection h with h _; exact absurd (List.mem_cons.2 (.inl h)) hb
  |d::a,[],x,y,ha,_,h=>by injection h with h _; exact absurd (List.mem_cons.2 (.inl h.symm)) ha
  | d :: a, e :: b, x, y, ha, hb, h => by
    injection h with h1 h2
    obtain ⟨g1,g2⟩:=cut_at (fun q=>ha (List.mem_cons_of_mem _ q)) (fun q=>hb (List.mem_cons_of_mem _ q)) h2
    exact ⟨by rw [h1,g1],g2⟩
theorem itoa_no {n:Int} {c:UInt8} (h:c.toNat=46∨c.toNat=40∨c.toNat=41):c∉itoa n:=fun q=>by
  have:=itoa_rng n c q; omega
theorem kyF_no (f:Fm) (x y:List UInt8):kyF f++x≠41::y:=fun e=>by
  rw [kyF_eq,List.append_assoc] at e
  cases q:itoa f.op with
  |nil=>exact itoa_ne _ q
  | cons c r =>
    rw [q] at e
    injection e with e _
    exact itoa_no (n:=f.op) (c:=41) (.inr (.inr rfl)) (by rw [q,e]; exact List.mem_cons_self ..)
mutual
theorem kyF_inj: ∀ (f g:Fm) (x y:List UInt8),kyF f++x=kyF g++y→f=g∧x=y
  | .nd o a l, .nd p b m, x, y, h => by
    rw [kyF,kyF] at h
    simp only [List.append_assoc,List.cons_append] at h
    obtain ⟨h1,h⟩:=cut_at (itoa_no (.inl rfl)) (itoa_no (.inl rfl)) h
    obtain ⟨h2,h⟩:=cut_at (itoa_no (.inr (.inl rfl))) (itoa_no (.inr (.inl rfl))) h
    obtain ⟨h3,h⟩:=kyL_inj l m x y (by simpa using h)
    exact ⟨by rw [itoa_inj h1,itoa_inj h2,h3],h⟩
theorem kyL_inj: ∀ (l m:List Fm) (x y:List UInt8),kyL l++41::x=kyL m++41::y→l=m∧x=y
  |[],[],x,y,h=>by injection h with _ h; exact ⟨rfl,h⟩
  | [], g :: m, x, y, h => by
    rw [kyL,kyL,List.append_assoc] at h
    exact absurd h.symm (kyF_no g _ _)
  | f :: l, [], x, y, h => by
    rw [kyL,kyL,List.append_assoc] at h
    exact absurd h (kyF_no f _ _)
  | f :: l, g :: m, x, y, h => by
    rw [kyL,kyL,List.append_assoc,List.append_assoc] at h
    obtain ⟨h1,h⟩:=kyF_inj f g _ _ h
    obtain ⟨h2,h⟩:=kyL_inj l m x y h
    exact ⟨by rw [h1,h2],h⟩
end
theorem ky_inj {f g:Fm} (h:kyF f=kyF g):f=g:=(kyF_inj f g [] [] (by rw [h])).1
theorem kyL_len {l:List Fm} (h: ∀ k,k < l.length→(kyF (nth l k)).length≤32*(nth l k).sz):(kyL l).length≤32*Fm.szs l:=by
  induction l with
  |nil=>simp [kyL,Fm.szs]
  | cons f l ih =>
    have h1:=h 0 (by simp)
    have h2:=ih fun k hk=>h (k+1) (by simpa using hk)
    rw [kyL,List.length_append,Fm.szs]
    have:nth (f::l) 0=f:=rfl
    rw [this] at h1
    omega
theorem ky_len (f:Fm):okF f=true→(kyF f).length≤32*f.sz:=by
  induction hn:f.sz using Nat.strongRecOn generalizing f with
  | _ n ih =>
    intro hok
    subst hn
    have hp:=okF_parts hok
    have hr:=rgt_ok hp.1
    have h1:=kyL_len (l:=f.kids) fun k hk=>ih _ (Fm.sz_kid hk) _ rfl (hp.2 k hk)
    have h2:=itoa_len (n:=f.op) (by omega) (by omega)
    have h3:=itoa_len (n:=f.arg) (by omega) (by omega)
    have h4:=Fm.sz_eq f
    rw [kyF_eq]
    simp only [List.length_append,List.length_cons,List.length_nil]
    omega
theorem kyT_len {f:Fm} (hok:okF f=true) (hz:f.sz≤4096):(kyF f).length≤131072:=by
  have:=ky_len f hok; omega
theorem kyL_take_le (l:List Fm) (k:Nat):(kyL (l.take k)).length≤(kyL l).length:=by
  have h:kyL l=kyL (l.take k)++kyL (l.drop k):=by rw [← kyL_app,List.take_append_drop]
  rw [h,List.length_append]; omega
theorem ky_bnd {f:Fm} (hok:okF f=true) (hz:f.sz≤4096) (k:Nat):(kyL (f.kids.take k)).length≤131072:=by
  have h1:=kyL_take_le f.kids k
  have h2:=kyT_len hok hz
  have h3:(kyL f.kids).length≤(kyF f).length:=by
    rw [kyF_eq f]
    simp only [List.length_append,List.length_cons,List.length_nil]; omega
  omega
end Go.Proofs.YteehaobohaecmaaGreatDoor
namespace Go.Proofs.YteehaobohaecmaaGreatDoor
open Go Go.Proofs Go.Shelf Go.Lib Go.Sort
theorem step_growN {x:Cx} (hx:Inv x) (k:Nat) (os:Array Obj):let y:Cx:={x with w:=grow (x.w.drewN k) os}; Inv y∧Frame x y:=by
  intro y
  have hlt: ∀ b,b < x.w.heap.size→y.w.heap[b]?=x.w.heap[b]?:=fun b hb=>by
    show (x.w.heap++os)[b]?=_
    exact Array.getElem?_append_left hb
  have hsz:x.w.heap.size≤y.w.heap.size:=by
    show _≤(x.w.heap++os).size
    rw [Array.size_append]; omega
  have hf:Frame x y:=by
    refine ⟨rfl,rfl,rfl,hsz,fun b hb _=>hlt b hb,fun _ h=>h,fun _ h=>.inl h,fun id=>⟨Nat.le_refl _,fun h _=>⟨h,rfl,rfl,fun _=>rfl,fun ho=>⟨rfl,?_⟩⟩⟩,fun _ h=>.inl ⟨h,rfl⟩,Nat.le_add_right _ _,fun _ _ _=>rfl⟩
    unfold rowSize
    rw [hlt _ (hx.lt ho)]
  refine ⟨⟨fun b hb=>Nat.lt_of_lt_of_le (hx.zlt b hb) hsz,hx.zown,fun id ho=>?_,hx.inj,hx.tab_of hf⟩,hf⟩
  obtain ⟨cc,h1,h2,h3,h4⟩:=hx.blk id ho
  exact ⟨cc,by rw [hlt _ (hx.lt ho)]; exact h1,h2,h3,fun r row j v hr hj=>(h4 r row j v hr hj).frame hx hf⟩
theorem itoa_pure {P:Program} {ρ:Go.Shelf.Ren} (L:LaysM.n171 P ρ) (hcf:callable P (ρ.f 171)) (hT:(ρ.g 17,p10C)∈tabs) (n:Int) (h0: -9223372036854775808≤n) (h1:n≤9223372036854775807):
    PureC P (ρ.f 171) [iV n] (.str (itoa n)):=by
  intro H
  refine ⟨hcf,fun x cs hxH hx hr=>?_⟩
  subst hxH
  obtain ⟨c0,rfl⟩: ∃ c0,cs=[c0]:=by
    have:=hr.1
    match cs with
    |[a]=>exact ⟨a,rfl⟩
    |[]=>simp at this
    |_::_::_=>simp at this
  have r0:R x (iV n) c0:=hr.2 0 _ rfl
  have hc0:c0=.int .i64 n:=by unfold iV at r0; cases r0; rfl
  subst hc0
  have htab : TabIs P x.w "internal/strconv.uint64pow10" .u64 pow10Tab := by
    obtain ⟨_,ty,m,h⟩:=hx.tab _ hT
    unfold TabIs World.var?
    rw [L.m17]
    simp only [Option.bind_some]
    rw [show x.w.heap[ρ.g 17]?=_ from h]
    rfl
  refine (Any.strconv_Itoa L n h0 h1 x.w htab).mono fun e w' h=>?_
  obtain ⟨rfl,k,os,rfl⟩:=h
  obtain ⟨g1,g2⟩:=step_growN hx k os
  exact ⟨_,{x with w:=grow (x.w.drewN k) os},rfl,rfl,rfl,g1,.str _,g2⟩
end Go.Proofs.YteehaobohaecmaaGreatDoor
namespace Go.Proofs.YteehaobohaecmaaGreatDoor
open Go Go.Proofs Go.Shelf
def itoRen71:Go.Shelf.Ren:=⟨fun|129=>131|171=>71|243=>95|246=>116|283=>134|284=>135|285=>136|286=>137|317=>147|318=>148|319=>149|320=>150|337=>158|338=>159|n=>n,fun|0=>0|2=>2|3=>3|4=>4|5=>5|9=>9|20=>20|37=>182|46=>156|51=>175|53=>177|171=>180|173=>183|212=>195|213=>196|232=>205|233=>206|n=>n,fun|17=>0|18=>1|19=>2|n=>n⟩
set_option maxRecDepth 100000 in
theorem itoLay71:LaysM.n171 Tryz.prog itoRen71:={
  mixed:=(by kernel_rfl),
  f129:=Tryz.func131.trans (congrArg some (by kernel_rfl)),
  f171:=Tryz.func71.trans (congrArg some (by kernel_rfl)),
  f243:=Tryz.func95.trans (congrArg some (by kernel_rfl)),
  f246:=Tryz.func116.trans (congrArg some (by kernel_rfl)),
  f283:=Tryz.func134.trans (congrArg some (by kernel_rfl)),
  f284:=Tryz.func135.trans (congrArg some (by kernel_rfl)),
  f285:=Tryz.func136.trans (congrArg some (by kernel_rfl)),
  f286:=Tryz.func137.trans (congrArg some (by kernel_rfl)),
  f317:=Tryz.func147.trans (congrArg some (by kernel_rfl)),
  f318:=Tryz.func148.trans (congrArg some (by kernel_rfl)),
  f319:=Tryz.func149.trans (congrArg some (by kernel_rfl)),
  f320:=Tryz.func150.trans (congrArg some (by kernel_rfl)),
  f337:=Tryz.func158.trans (congrArg some (by kernel_rfl)),
  f338:=Tryz.func159.trans (congrArg some (by kernel_rfl)),
  t0:=Tryz.underlying0,
  a0:=Tryz.isAgg0,
  z0:=Tryz.sizeOf0,
  v0:=Tryz.zeroValue0,
  t2:=Tryz.underlying2,
  a2:=Tryz.isAgg2,
  z2:=Tryz.sizeOf2,
  v2:=Tryz.zeroValue2,
  t3:=Tryz.underlying3,
  a3:=Tryz.isAgg3,
  z3:=Tryz.sizeOf3,
  v3:=Tryz.zeroValue3,
  t4:=Tryz.underlying4,
  a4:=Tryz.isAgg4,
  z4:=Tryz.sizeOf4,
  v4:=Tryz.zeroValue4,
  t5:=Tryz.underlying5,
  a5:=Tryz.isAgg5,
  z5:=Tryz.sizeOf5,
  v5:=Tryz.zeroValue5,
  t9:=Tryz.underlying9,
  a9:=Tryz.isAgg9,
  z9:=Tryz.sizeOf9,
  v9:=Tryz.zeroValue9,
  t20:=Tryz.underlying20,
  a20:=Tryz.isAgg20,
  z20:=Tryz.sizeOf20,
  v20:=Tryz.zeroValue20,
  t37:=Tryz.underlying182,
  a37:=Tryz.isAgg182,
  z37:=Tryz.sizeOf182,
  v37:=Tryz.zeroValue182,
  t46:=Tryz.underlying156,
  a46:=Tryz.isAgg156,
  z46:=Tryz.sizeOf156,
  v46:=Tryz.zeroValue156,
  t51:=Tryz.underlying175,
  a51:=Tryz.isAgg175,
  z51:=Tryz.sizeOf175,
  v51:=Tryz.zeroValue175,
  t53:=Tryz.underlying177,
  a53:=Tryz.isAgg177,
  z53:=Tryz.sizeOf177,
  v53:=Tryz.zeroValue177,
  t171:=Tryz.underlying180,
  a171:=Tryz.isAgg180,
  z171:=Tryz.sizeOf180,
  v171:=Tryz.zeroValue180,
  t173:=Tryz.underlying183,
  a173:=Tryz.isAgg183,
  z173:=Tryz.sizeOf183,
  v173:=Tryz.zeroValue183,
  t212:=Tryz.underlying195,
  a212:=Tryz.isAgg195,
  z212:=Tryz.sizeOf195,
  v212:=Tryz.zeroValue195,
  t213:=Tryz.underlying196,
  a213:=Tryz.isAgg196,
  z213:=Tryz.sizeOf196,
  t232:=Tryz.underlying205,
  a232:=Tryz.isAgg205,
  z232:=Tryz.sizeOf205,
  v232:=Tryz.zeroValue205,
  t233:=Tryz.underlying206,
  a233:=Tryz.isAgg206,
  z233:=Tryz.sizeOf206,
  v233:=Tryz.zeroValue206,
  g17:=(by kernel_rfl),
  g18:=(by kernel_rfl),
  g19:=(by kernel_rfl),
  i0:=(by kernel_rfl),
  i2:=(by kernel_rfl),
  i3:=(by kernel_rfl),
  i4:=(by kernel_rfl),
  i5:=(by kernel_rfl),
  i9:=(by kernel_rfl),
  i20:=(by kernel_rfl),
  i37:=(by kernel_rfl),
  i46:=(by kernel_rfl),
  i51:=(by kernel_rfl),
  i53:=(by kernel_rfl),
  i171:=(by kernel_rfl),
  i173:=(by kernel_rfl),
  i212:=(by kernel_rfl),
  i232:=(by kernel_rfl),
  i233:=(by kernel_rfl),
  m17:=(by kernel_rfl),
  m18:=(by kernel_rfl),
  m19:=(by kernel_rfl)}
theorem itoCall71:callable Tryz.prog 71:=⟨_,Tryz.func71,by kernel_rfl,by kernel_rfl⟩
theorem itoa71_pure (n:Int) (h0: -9223372036854775808≤n) (h1:n≤9223372036854775807):PureC Tryz.prog 71 [iV n] (.str (Lib.itoa n)):=itoa_pure itoLay71 itoCall71 (.head _) n h0 h1
end Go.Proofs.YteehaobohaecmaaGreatDoor
namespace Go.Proofs.YteehaobohaecmaaGreatDoor
open Go Go.Proofs
theorem key_pure_step (f:Fm) (hok:okF f=true) (hz:f.sz≤4096) (ih: ∀ (g:Fm),g.sz < f.sz→okF g=true→g.sz≤4096→PureC Tryz.prog 44 [(V.agg [(iV (g.op)),(iV (g.arg)),(V.sl (List.map cF (g.kids)))])] (V.str ((kyF g)))):PureC Tryz.prog 44 [(V.agg [(iV (f.op)),(iV (f.arg)),(V.sl (List.map cF (f.kids)))])] (V.str ((kyF f))):=by
 refine pW Tryz.func44 s44_ok fun hB=>?_
 unfold s44
 dsimp only
 have hp:=okF_parts hok
 have hr:=rgt_ok hp.1
 have hln:=f.sz_len
 have hi1:=itoa_len (n:=f.op) (by omega) (by omega)
 have hi2:=itoa_len (n:=f.arg) (by omega) (by omega)
 refine W_r (R_box (i:=1) (n:=0) (m:=3) (cs:=[(iV (f.op)),(iV (f.arg)),(V.sl (List.map cF (f.kids)))]) rfl (congrArg Blk.ver rfl) rfl rfl rfl (R_mv rfl (R_e (W_r (R_fk rfl rfl (R_lk rfl rfl rfl rfl (R_callk (itoa71_pure f.op (by omega) (by omega)) rfl ?_)))))))
 refine R_sadd (s:=((Lib.itoa f.op))) (t:=([46])) rfl rfl (by (simp only [List.length_append,List.length_cons,List.length_nil]; omega)) (R_fk rfl rfl (R_lk rfl rfl rfl rfl (R_callk (itoa71_pure f.arg (by omega) (by omega)) rfl (R_sadd (s:=((Lib.itoa f.op)++[46])) (t:=((Lib.itoa f.arg))) rfl rfl (by (simp only [List.length_append,List.length_cons,List.length_nil]; omega)) (R_sadd (s:=((Lib.itoa f.op)++[46]++(Lib.itoa f.arg))) (t:=([40])) rfl rfl (by (simp only [List.length_append,List.length_cons,List.length_nil]; omega)) (R_mv rfl (R_e ?_)))))))
 refine W_seq_seq (W_r (R_fk rfl rfl (R_lk rfl rfl rfl rfl (R_len rfl (R_mv rfl (R_e (W_seq_blockg fun Q1 n1 x1 y1 z1=>?_)))))))
 refine W_loop (fun mm T H=> ∃ (k:Nat) (v5:Nat),mm=f.kids.length - k∧T 3=(V.str (Lib.itoa f.op++[46]++Lib.itoa f.arg++[40]++kyL (f.kids.take k)))∧T 16=(V.sl (List.map cF (f.kids)))∧T 17=(iV ((f.kids.length:Nat):Int))∧T 18=(iV ((k:Nat):Int))∧H 1=(bk 1 24 3 [[(iV (f.op)),(iV (f.arg)),(V.sl (List.map cF (f.kids)))]])∧(H 5).ver=v5∧(k≤f.kids.length)) ?_ ?_
 ·
  refine ⟨_,0,0,rfl,(Eq.trans (@rfl V (V.str ((Lib.itoa f.op)++[46]++(Lib.itoa f.arg)++[40]))) (by simp [kyL])),rfl,rfl,(Eq.trans (@rfl V (iV (0:Int))) rfl),rfl,(congrArg Blk.ver rfl),?_⟩
  · omega
 intro mm T H ⟨k,v5,hmm,t3,t16,t17,t18,h1,h5,hk⟩ Q2 p12 p22 p32
 unfold b44_0
 have hq:=ky_bnd hok hz k
 have hq2:k < f.kids.length→(kyF (nth f.kids k)).length≤131072:=fun h=>kyT_len (hp.2 k h) (Nat.le_trans (Nat.le_of_lt (Fm.sz_kid h)) hz)
 refine W_r (R_lss t18 t17 (R_e ?_))
 refine W_seq_if rfl (fun c3=>?_) fun c3=>?_
 ·
  refine W_seq_skip (W_seq_blockg fun Q4 n4 x4 y4 z4=>(W_r (R_idxu (i:=k) t16 t18 (by omega) (cF_eq _) rfl (R_load_pp rfl rfl (R_alloc (i:=5) (n:=v5) (m:=3) rfl h5 rfl (R_sk rfl rfl rfl rfl rfl rfl rfl rfl rfl (R_e ?_)))))))
  refine W_t (R_mv t3 (R_lk rfl rfl rfl rfl (R_callk (ih (((nth (f.kids) (k)))) (Fm.sz_kid (by omega)) (hp.2 _ (by omega)) (Nat.le_trans (Nat.le_of_lt (Fm.sz_kid (by omega))) hz)) rfl (R_sadd (s:=(Lib.itoa f.op++[46]++Lib.itoa f.arg++[40]++kyL (f.kids.take k))) (t:=((kyF (((nth (f.kids) (k))))))) rfl rfl (by (simp only [List.length_append,List.length_cons,List.length_nil]; omega)) (R_mv rfl (R_e (n4 _ _ ?_)))))))
  refine .done (W_t (R_addN t18 (@rfl V (iV ((1:Nat):Int))) (by omega) (R_mv rfl (R_e ?_))))
  refine p12 _ _ _ ?_ ⟨(k+1),(v5+1),rfl,(Eq.trans (@rfl V (V.str (Lib.itoa f.op++[46]++Lib.itoa f.arg++[40]++kyL (f.kids.take k)++(kyF (((nth (f.kids) (k)))))))) (by (rw [kyL_step (by omega),← List.append_assoc]; done))),t16,t17,(Eq.trans (@rfl V (iV ((k+1:Nat):Int))) (by rfl)),h1,(congrArg Blk.ver rfl),?_⟩
  · omega
  · omega
 refine W_seq_exit (p32 _ _ _ (x1 _ _ (.done (W_r (R_mv t3 (R_sadd (s:=(Lib.itoa f.op++[46]++Lib.itoa f.arg++[40]++kyL (f.kids.take k))) (t:=([41])) rfl rfl (by (simp only [List.length_append,List.length_cons,List.length_nil]; omega)) (R_mv rfl ?_)))))))
 refine R_e (W_ret ?_)
 refine Ret_1 (@rfl V (V.str (Lib.itoa f.op++[46]++Lib.itoa f.arg++[40]++kyL (f.kids.take k)++[41]))) (fz_canon (by simp) ?_)
 · rw [kyF_eq,show k=f.kids.length by omega,List.take_length]; simp [List.append_assoc]
theorem key_pure (f:Fm) (hok:okF f=true) (hz:f.sz≤4096):PureC Tryz.prog 44 [(V.agg [(iV (f.op)),(iV (f.arg)),(V.sl (List.map cF (f.kids)))])] (V.str ((kyF f))):=by
  have key: ∀ (mm:Nat) (f:Fm),f.sz < mm→okF f=true→f.sz≤4096→PureC Tryz.prog 44 [(V.agg [(iV (f.op)),(iV (f.arg)),(V.sl (List.map cF (f.kids)))])] (V.str ((kyF f))):=by
    intro mm
    induction mm with
    |zero=>intro f hlt; exact absurd hlt (Nat.not_lt_zero _)
    | succ mm ih =>
      intro f hlt hok hz
      exact key_pure_step f hok hz fun f2 hlt2=>ih f2 (by omega)
  exact key (f.sz+1) f (Nat.lt_succ_self _) hok hz
end Go.Proofs.YteehaobohaecmaaGreatDoor
namespace Go.Proofs.YteehaobohaecmaaGreatDoor
open Go
structure Df where
  inp:Int
  st:Int
  nx:List (List Int)
  ac:List Bool
deriving DecidableEq
abbrev zD:Df:=⟨0,0,[],[]⟩
def plc:List Fm→Fm→Nat
  |[],_=>0
  |h::l,f=>if h=f then 0 else plc l f+1
theorem plc_le (f:Fm): ∀ l:List Fm,plc l f≤l.length
  |[]=>Nat.le_refl _
  | h :: l => by
    have:=plc_le f l
    rw [plc]
    split
    · exact Nat.zero_le _
    · rw [List.length_cons]; omega
def aRow (cur : Fm) (o : Nat) : Nat → Nat → List Fm → List Int → Int × List Fm × List Int
  |0,_,l,r=>(0,l,r)
  | m + 1, x, l, r =>
    if (stM cur ((x / o:Nat):Int) ((x % o:Nat):Int)).2≠0 then ((stM cur ((x / o:Nat):Int) ((x % o:Nat):Int)).2,[],[])
    else if plc l (stM cur ((x / o:Nat):Int) ((x % o:Nat):Int)).1 < l.length then aRow cur o m (x+1) l (r++[(plc l (stM cur ((x / o:Nat):Int) ((x % o:Nat):Int)).1:Int)])
    else if 128≤l.length then (11,[],[])
    else aRow cur o m (x+1) (l++[(stM cur ((x / o:Nat):Int) ((x % o:Nat):Int)).1]) (r++[(l.length:Int)])
def lkV (l:List Fm) (g:Fm):Int:=if plc l g < l.length then plc l g else 0
section
variable {cur g:Fm} {o n k:Nat} {l:List Fm} {r:List Int}
theorem aRow_end (h:n≤k):aRow cur o (n - k) k l r=(0,l,r):=by rw [show n - k=0 by omega,aRow]
theorem aRow_err (h:k < n) (e:(stM cur ((k / o:Nat):Int) ((k % o:Nat):Int)).2≠0):aRow cur o (n - k) k l r=((stM cur ((k / o:Nat):Int) ((k % o:Nat):Int)).2,[],[]):=by
  rw [show n - k=(n - (k+1))+1 by omega,aRow,if_pos e]
theorem aRow_old (h:k < n) (e: ¬(stM cur ((k / o:Nat):Int) ((k % o:Nat):Int)).2≠0) (hp:plc l (stM cur ((k / o:Nat):Int) ((k % o:Nat):Int)).1 < l.length):
    aRow cur o (n - k) k l r=aRow cur o (n - (k+1)) (k+1) l (r++[lkV l (stM cur ((k / o:Nat):Int) ((k % o:Nat):Int)).1]):=by
  unfold lkV
  rw [show n - k=(n - (k+1))+1 by omega,aRow,if_neg e,if_pos hp,if_pos hp]
theorem aRow_lim (h:k < n) (e: ¬(stM cur ((k / o:Nat):Int) ((k % o:Nat):Int)).2≠0) (hp: ¬plc l (stM cur ((k / o:Nat):Int) ((k % o:Nat):Int)).1 < l.length) (hl:128≤l.length):
    aRow cur o (n - k) k l r=(11,[],[]):=by
  rw [show n - k=(n - (k+1))+1 by omega,aRow,if_neg e,if_neg hp,if_pos hl]
theorem aRow_new (h:k < n) (e: ¬(stM cur ((k / o:Nat):Int) ((k % o:Nat):Int)).2≠0) (hp: ¬plc l (stM cur ((k / o:Nat):Int) ((k % o:Nat):Int)).1 < l.length) (hl: ¬128≤l.length):
    aRow cur o (n - k) k l r=aRow cur o (n - (k+1)) (k+1) (l++[(stM cur ((k / o:Nat):Int) ((k % o:Nat):Int)).1]) (r++[(l.length:Int)]):=by
  rw [show n - k=(n - (k+1))+1 by omega,aRow,if_neg e,if_neg hp,if_neg hl]
end
def aOut (n o : Nat) : Nat → Nat → List Fm → List (List Int) → List Bool → Int × List (List Int) × List Bool
  |0,_,_,nx,ac=>(0,nx,ac)
  | m + 1, s, l, nx, ac =>
    if s < l.length then
      if (aRow (nth l s) o n 0 l []).1≠0 then ((aRow (nth l s) o n 0 l []).1,[],[])
      else aOut n o m (s+1) (aRow (nth l s) o n 0 l []).2.1 (nx++[(aRow (nth l s) o n 0 l []).2.2]) (ac++[sat t0 (nth l s) 0])
    else (0,nx,ac)
section
variable {n o s:Nat} {l l2:List Fm} {r:List Int} {nx:List (List Int)} {ac:List Bool} {e:Int}
theorem aOut_end (h:l.length≤s):aOut n o (129 - s) s l nx ac=(0,nx,ac):=by
  cases q:129 - s with
  |zero=>rw [aOut]
  |succ m=>rw [aOut,if_neg (by omega)]
theorem aOut_err (h:s < l.length) (hl:l.length≤128) (hr:aRow (nth l s) o n 0 l []=(e,[],[])) (he:e≠0):aOut n o (129 - s) s l nx ac=(e,[],[]):=by
  rw [show 129 - s=(129 - (s+1))+1 by omega,aOut,if_pos h,hr,if_pos he]
theorem aOut_go (h:s < l.length) (hl:l.length≤128) (hr:aRow (nth l s) o n 0 l []=(0,l2,r)):aOut n o (129 - s) s l nx ac=aOut n o (129 - (s+1)) (s+1) l2 (nx++[r]) (ac++[sat t0 (nth l s) 0]):=by
  rw [show 129 - s=(129 - (s+1))+1 by omega,aOut,if_pos h,hr,if_neg (by simp)]
end
def atmS (f:Fm) (n o:Nat):Int×List (List Int)×List Bool:=aOut n o (129 - 0) 0 [f] [] []
def atm (f:Fm) (i o:Int):Df×Int:=
  if fval f≠0 then (zD,fval f) else if i < 1∨64 < i∨o < 1∨((1024 / i.toNat:Nat):Int) < o then (zD,2) else if (simp_ f).2≠0 then (zD,(simp_ f).2)
  else if (atmS (simp_ f).1 (i*o).toNat o.toNat).1≠0 then (zD,(atmS (simp_ f).1 (i*o).toNat o.toNat).1)
  else (⟨i*o,0,(atmS (simp_ f).1 (i*o).toNat o.toNat).2.1,(atmS (simp_ f).1 (i*o).toNat o.toNat).2.2⟩,0)
section
variable {f:Fm} {i o:Int}
theorem atm_e (h:fval f≠0):atm f i o=(zD,fval f):=if_pos h
theorem atm_r (h: ¬fval f≠0) (h2:i < 1∨64 < i∨o < 1∨((1024 / i.toNat:Nat):Int) < o):atm f i o=(zD,2):=by unfold atm; rw [if_neg h,if_pos h2]
theorem atm_s (h: ¬fval f≠0) (h2: ¬(i < 1∨64 < i∨o < 1∨((1024 / i.toNat:Nat):Int) < o)) (h3:(simp_ f).2≠0):atm f i o=(zD,(simp_ f).2):=by unfold atm; rw [if_neg h,if_neg h2,if_pos h3]
theorem atm_x {e:Int} (h: ¬fval f≠0) (h2: ¬(i < 1∨64 < i∨o < 1∨((1024 / i.toNat:Nat):Int) < o)) (h3: ¬(simp_ f).2≠0) (h4:atmS (simp_ f).1 (i*o).toNat o.toNat=(e,[],[])) (he:e≠0):atm f i o=(zD,e):=by
  unfold atm; rw [if_neg h,if_neg h2,if_neg h3,h4,if_pos he]
theorem atm_g {nx:List (List Int)} {ac:List Bool} (h: ¬fval f≠0) (h2: ¬(i < 1∨64 < i∨o < 1∨((1024 / i.toNat:Nat):Int) < o)) (h3: ¬(simp_ f).2≠0) (h4:atmS (simp_ f).1 (i*o).toNat o.toNat=(0,nx,ac)):atm f i o=(⟨i*o,0,nx,ac⟩,0):=by
  unfold atm; rw [if_neg h,if_neg h2,if_neg h3,h4,if_neg (by simp)]
theorem io_bnd (h2: ¬(i < 1∨64 < i∨o < 1∨((1024 / i.toNat:Nat):Int) < o)):1≤i∧i≤64∧1≤o∧o≤1024∧1≤i*o∧i*o≤1024:=by
  have hq:i.toNat*(1024 / i.toNat)≤1024:=Nat.mul_div_le _ _
  have hle:o.toNat≤1024 / i.toNat:=by omega
  have hm:=Nat.mul_le_mul_left i.toNat hle
  have hi:((i.toNat:Nat):Int)=i:=Int.toNat_of_nonneg (by omega)
  have ho:((o.toNat:Nat):Int)=o:=Int.toNat_of_nonneg (by omega)
  have e:i*o=((i.toNat*o.toNat:Nat):Int):=by rw [Int.natCast_mul,hi,ho]
  have hp:1≤i.toNat*o.toNat:=Nat.mul_pos (by omega) (by omega)
  have h1:1024 / i.toNat≤1024:=Nat.div_le_self _ _
  omega
theorem chk_val (h: ¬(chk f).2≠0):fval (chk f).1=0:=by
  by_cases q:cErr (can f)≠0
  · rw [chk_e q] at h; exact absurd q h
  · by_cases q2:fval (fVal (can f))≠0
    · rw [chk_b q q2] at h; exact absurd q2 h
    · rw [chk_g q q2]; exact Decidable.of_not_not q2
theorem stM_val (h: ¬(stM f i o).2≠0):fval (stM f i o).1=0:=by
  by_cases q:fval f≠0
  · rw [stM_e q] at h; exact absurd q h
  · by_cases q2:i < 0∨64≤i∨o < 0∨1048576 < o
    · rw [stM_r q q2] at h; exact absurd (by decide) h
    · by_cases q3:(simp_ f).2≠0
      · rw [stM_s q q2 q3] at h; exact absurd q3 h
      · rw [stM_g q q2 q3] at h ⊢; exact chk_val h
end
def esA:List Fm→Nat→List (List UInt8×V)
  |[],_=>[]
  |g::l,i=>(kyF g,iV ((i:Nat):Int))::esA l (i+1)
theorem esA_app (g:Fm): ∀ (l:List Fm) (i:Nat),esA (l++[g]) i=esA l i++[(kyF g,iV ((i+l.length:Nat):Int))]
  |[],i=>rfl
  | h :: l, i => by
    rw [List.cons_append,esA,esA,esA_app g l (i+1),List.cons_append,List.length_cons,show i+1+l.length=i+(l.length+1) by omega]
theorem find_es (g:Fm): ∀ (l:List Fm) (i:Nat),(esA l i).find? (fun p=>decide (p.1=kyF g))=if plc l g < l.length then some (kyF g,iV ((i+plc l g:Nat):Int)) else none
  |[],i=>rfl
  | h :: l, i => by
    rw [esA,plc]
    by_cases e:h=g
    · rw [List.find?_cons_of_pos (by simp [e]),if_pos e,List.length_cons,if_pos (Nat.zero_lt_succ _),e]; rfl
    · rw [List.find?_cons_of_neg (by simpa using fun q=>e (ky_inj q)),if_neg e,find_es g l (i+1),List.length_cons,show i+1+plc l g=i+(plc l g+1) by omega]
      by_cases q:plc l g < l.length
      · rw [if_pos q,if_pos (by omega)]
      · rw [if_neg q,if_neg (by omega)]
section
variable {ver:Nat} {l:List Fm} {g:Fm}
theorem look_es:mlookB ⟨ver,true,true,mapH,2,entT (esA l 0)⟩ ver 0 (iV 0) (.str (kyF g))=some (iV (lkV l g),decide (plc l g < l.length)):=by
  rw [lookT,find_es]
  unfold lkV
  by_cases q:plc l g < l.length
  · rw [if_pos q,if_pos q,decide_eq_true q]; simp
  · rw [if_neg q,if_neg q,decide_eq_false q]
theorem set_es (h: ¬plc l g < l.length):msetB ⟨ver,true,true,mapH,2,entT (esA l 0)⟩ ver 0 (.str (kyF g)) (iV ((l.length:Nat):Int))=some ⟨ver,true,true,mapH,2,entT (esA (l++[g]) 0)⟩:=by
  rw [setT_new (by rw [find_es,if_neg h]),esA_app,Nat.zero_add]
end
end Go.Proofs.YteehaobohaecmaaGreatDoor
namespace Go.Proofs.YteehaobohaecmaaGreatDoor
theorem nth_snoc {l:List Fm} {g:Fm} {s:Nat} (h:s < l.length):nth (l++[g]) s=nth l s:=by
  unfold nth
  simp [List.getD_eq_getElem?_getD,List.getElem?_append_left h]
theorem val_snoc {l:List Fm} {g:Fm} (h: ∀ x∈l,fval x=0) (hg:fval g=0): ∀ x∈l++[g],fval x=0:=fun x hx=>by
  rcases List.mem_append.1 hx with q|q
  · exact h x q
  · rw [List.mem_singleton.1 q]; exact hg
end Go.Proofs.YteehaobohaecmaaGreatDoor
namespace Go.Proofs.YteehaobohaecmaaGreatDoor
open Go Go.Proofs
attribute [local irreducible] mksV
theorem atm_pure (f:Fm) (i o:Int):PureC Tryz.prog 18 [(V.agg [(iV (f.op)),(iV (f.arg)),(V.sl (List.map cF (f.kids)))]),(iV (i)),(iV (o))] (V.tup [(V.agg [(iV ((atm f i o).1.inp)),(iV ((atm f i o).1.st)),(intss ((atm f i o).1.nx)),(V.sl (List.map cB ((atm f i o).1.ac)))]),(iV ((atm f i o).2))]):=by
 refine pW Tryz.func18 s18_ok fun hB=>?_
 unfold s18
 dsimp only
 refine W_r (R_box (i:=3) (n:=0) (m:=3) (cs:=[(iV (f.op)),(iV (f.arg)),(V.sl (List.map cF (f.kids)))]) rfl (congrArg Blk.ver rfl) rfl rfl rfl (R_alloc (i:=6) (n:=0) (m:=4) rfl (congrArg Blk.ver rfl) rfl (R_mv rfl (R_e (W_seq_seq (W_r (R_lk rfl rfl rfl rfl ?_)))))))
 refine R_callk (fvalid_pure f) rfl (R_mv rfl (R_e (W_seq_seq (W_r (R_mv rfl (R_neq rfl rfl (R_e ?_)))))))
 refine W_seq_if rfl (fun c1=>?_) fun c1=>?_
 ·
  have d1:=atm_e (i:=i) (o:=o) c1
  refine W_seq_seq (W_r (R_build rfl rfl (R_mv rfl (R_sk rfl rfl rfl rfl rfl rfl rfl rfl rfl (R_mv rfl (R_e (W_seq_ret ?_)))))))
  refine RetC_2 (resV_c (u:=(V.agg [(iV (0:Int)),(iV (0:Int)),V.nilsl,V.nilsl])) rfl (@rfl Blk (bk 1 43 4 [[(iV (0:Int)),(iV (0:Int)),V.nilsl,V.nilsl]])) (lB oB rfl rfl)) (resV_t (@rfl V (iV (fval f)))) (fz_aggL (mcons (fz_int ?_) (mcons (fz_int ?_) (mcons (fz_nil ?_) (mcons (fz_nil ?_) rfl))))) (fz_int ?_)
  · rw [d1]; try rfl
  · rw [d1]; try rfl
  · rw [d1]; try rfl
  · rw [d1]; try rfl
  · rw [d1]; try rfl
 have d0:=c1
 refine W_seq_skip (W_seq_seq (W_r (R_mv rfl (R_lss rfl rfl (R_mv rfl ?_)))))
 refine Ops_seg 3 (fun T H=>T 1=(iV (i))∧T 2=(iV (o))∧T 3=(V.mp 3 1 0 0)∧T 6=(V.mp 6 1 0 0)∧T 32=(V.bool (decide (((i) < (1:Int))∨((64:Int) < (i)))))∧H 3=(bk 1 24 3 [[(iV (f.op)),(iV (f.arg)),(V.sl (List.map cF (f.kids)))]])∧H 6=(bk 1 43 4 [[(iV (0:Int)),(iV (0:Int)),V.nilsl,V.nilsl]])∧H 9=(⟨0,false,false,0,0,[]⟩:Blk)∧H 11=(⟨0,false,false,0,0,[]⟩:Blk)∧H 17=(⟨0,false,false,0,0,[]⟩:Blk)∧H 58=(⟨0,false,false,0,0,[]⟩:Blk)∧H 59=(⟨0,false,false,0,0,[]⟩:Blk)∧H 81=(⟨0,false,false,0,0,[]⟩:Blk)∧H 811=(⟨0,false,false,0,0,[]⟩:Blk)∧H 812=(⟨0,false,false,0,0,[]⟩:Blk)∧True) ?_ ?_
 ·
  by_cases g2:(i) < (1:Int)
  ·
   refine G_n (edT g2 rfl) (G_n (edT g2 rfl) (R_pickT (edT g2 rfl) rfl ?_))
   exact ⟨rfl,rfl,rfl,rfl,(dec_orT g2),rfl,rfl,rfl,rfl,rfl,rfl,rfl,rfl,rfl,rfl,trivial⟩
  ·
   refine G_yes (edF g2 rfl) (R_mv rfl (G_yes (edF g2 rfl) (R_gtr rfl rfl (R_pickF (edF g2 rfl) rfl ?_))))
   exact ⟨rfl,rfl,rfl,rfl,(dec_orF g2),rfl,rfl,rfl,rfl,rfl,rfl,rfl,rfl,rfl,rfl,trivial⟩
 intro T H ⟨t1,t2,t3,t6,t32,h3,h6,h9,h11,h17,h58,h59,h81,h811,h812,_⟩
 refine R_mv t32 ?_
 refine Ops_seg 3 (fun T H=>T 1=(iV (i))∧T 2=(iV (o))∧T 3=(V.mp 3 1 0 0)∧T 6=(V.mp 6 1 0 0)∧T 36=(V.bool (decide ((((i) < (1:Int))∨((64:Int) < (i)))∨((o) < (1:Int)))))∧H 3=(bk 1 24 3 [[(iV (f.op)),(iV (f.arg)),(V.sl (List.map cF (f.kids)))]])∧H 6=(bk 1 43 4 [[(iV (0:Int)),(iV (0:Int)),V.nilsl,V.nilsl]])∧H 9=(⟨0,false,false,0,0,[]⟩:Blk)∧H 11=(⟨0,false,false,0,0,[]⟩:Blk)∧H 17=(⟨0,false,false,0,0,[]⟩:Blk)∧H 58=(⟨0,false,false,0,0,[]⟩:Blk)∧H 59=(⟨0,false,false,0,0,[]⟩:Blk)∧H 81=(⟨0,false,false,0,0,[]⟩:Blk)∧H 811=(⟨0,false,false,0,0,[]⟩:Blk)∧H 812=(⟨0,false,false,0,0,[]⟩:Blk)∧True) ?_ ?_
 ·
  by_cases g3:((i) < (1:Int))∨((64:Int) < (i))
  ·
   refine G_n (edT g3 rfl) (G_n (edT g3 rfl) (R_pickT (edT g3 rfl) rfl ?_))
   exact ⟨t1,t2,t3,t6,(dec_orT g3),h3,h6,h9,h11,h17,h58,h59,h81,h811,h812,trivial⟩
  ·
   refine G_yes (edF g3 rfl) (R_mv t2 (G_yes (edF g3 rfl) (R_lss rfl rfl (R_pickF (edF g3 rfl) rfl ?_))))
   exact ⟨t1,t2,t3,t6,(dec_orF g3),h3,h6,h9,h11,h17,h58,h59,h81,h811,h812,trivial⟩
 intro T H ⟨t1,t2,t3,t6,t36,h3,h6,h9,h11,h17,h58,h59,h81,h811,h812,_⟩
 refine R_mv t36 ?_
 refine Ops_seg 5 (fun T H=>T 1=(iV (i))∧T 2=(iV (o))∧T 3=(V.mp 3 1 0 0)∧T 6=(V.mp 6 1 0 0)∧T 42=(V.bool (decide (((((i) < (1:Int))∨((64:Int) < (i)))∨((o) < (1:Int)))∨(((1024 / (((i)).toNat):Nat):Int) < (o)))))∧H 3=(bk 1 24 3 [[(iV (f.op)),(iV (f.arg)),(V.sl (List.map cF (f.kids)))]])∧H 6=(bk 1 43 4 [[(iV (0:Int)),(iV (0:Int)),V.nilsl,V.nilsl]])∧H 9=(⟨0,false,false,0,0,[]⟩:Blk)∧H 11=(⟨0,false,false,0,0,[]⟩:Blk)∧H 17=(⟨0,false,false,0,0,[]⟩:Blk)∧H 58=(⟨0,false,false,0,0,[]⟩:Blk)∧H 59=(⟨0,false,false,0,0,[]⟩:Blk)∧H 81=(⟨0,false,false,0,0,[]⟩:Blk)∧H 811=(⟨0,false,false,0,0,[]⟩:Blk)∧H 812=(⟨0,false,false,0,0,[]⟩:Blk)∧True) ?_ ?_
 ·
  by_cases g4:(((i) < (1:Int))∨((64:Int) < (i)))∨((o) < (1:Int))
  ·
   refine G_n (edT g4 rfl) (G_n (edT g4 rfl) (G_n (edT g4 rfl) (G_n (edT g4 rfl) (R_pickT (edT g4 rfl) rfl ?_))))
   exact ⟨t1,t2,t3,t6,(dec_orT g4),h3,h6,h9,h11,h17,h58,h59,h81,h811,h812,trivial⟩
  ·
   refine G_yes (edF g4 rfl) (R_mv t2 (G_yes (edF g4 rfl) (R_mv t1 (G_yes (edF g4 rfl) (R_quoN (m:=1024) (n:=(((i)).toNat)) (@rfl V (iV ((1024:Nat):Int))) (Eq.trans (@rfl V (iV (i))) (iv_toNat (by omega))) (by omega) (by omega) (G_yes (edF g4 rfl) (R_gtr rfl rfl ?_)))))))
   refine R_pickF (edF g4 rfl) rfl ?_
   exact ⟨t1,t2,t3,t6,(dec_orF g4),h3,h6,h9,h11,h17,h58,h59,h81,h811,h812,trivial⟩
 intro T H ⟨t1,t2,t3,t6,t42,h3,h6,h9,h11,h17,h58,h59,h81,h811,h812,_⟩
 refine R_e ?_
 refine W_seq_if t42 (fun c5=>?_) fun c5=>?_
 ·
  have d1:=atm_r (i:=i) (o:=o) d0 (by omega)
  refine W_seq_seq (W_r (R_build rfl rfl (R_sk t6 rfl rfl h6 rfl rfl rfl rfl rfl (R_mv rfl (R_e (W_seq_ret ?_))))))
  refine RetC_2 (resV_c (u:=(V.agg [(iV (0:Int)),(iV (0:Int)),V.nilsl,V.nilsl])) t6 (@rfl Blk (bk 1 43 4 [[(iV (0:Int)),(iV (0:Int)),V.nilsl,V.nilsl]])) (lB oB rfl rfl)) (resV_t (@rfl V (iV (2:Int)))) (fz_aggL (mcons (fz_int ?_) (mcons (fz_int ?_) (mcons (fz_nil ?_) (mcons (fz_nil ?_) rfl))))) (fz_int ?_)
  · rw [d1]; try rfl
  · rw [d1]; try rfl
  · rw [d1]; try rfl
  · rw [d1]; try rfl
  · rw [d1]; try rfl
 have d2: ¬(i < 1∨64 < i∨o < 1∨((1024 / i.toNat:Nat):Int) < o):=by omega
 have io:=io_bnd d2
 refine W_seq_skip (W_r (R_lk t3 h3 rfl rfl (R_callk (simplify_pure f) rfl (R_mv rfl (R_ext rfl rfl (R_ext rfl rfl (R_alloc (i:=9) (n:=0) (m:=3) rfl (congrArg Blk.ver h9) rfl ?_)))))))
 refine R_sk rfl rfl rfl rfl rfl rfl rfl rfl rfl (R_mv rfl (R_e (W_seq_seq (W_r (R_mv rfl (R_neq rfl rfl (R_e ?_)))))))
 refine W_seq_if rfl (fun c6=>?_) fun c6=>?_
 ·
  have d1:=atm_s d0 d2 c6
  refine W_seq_seq (W_r (R_build rfl rfl (R_mv rfl (R_sk t6 rfl rfl h6 rfl rfl rfl rfl rfl (R_mv rfl (R_e (W_seq_ret ?_)))))))
  refine RetC_2 (resV_c (u:=(V.agg [(iV (0:Int)),(iV (0:Int)),V.nilsl,V.nilsl])) t6 (@rfl Blk (bk 1 43 4 [[(iV (0:Int)),(iV (0:Int)),V.nilsl,V.nilsl]])) (lB oB rfl rfl)) (resV_t (@rfl V (iV ((simp_ f).2)))) (fz_aggL (mcons (fz_int ?_) (mcons (fz_int ?_) (mcons (fz_nil ?_) (mcons (fz_nil ?_) rfl))))) (fz_int ?_)
  · rw [d1]; try rfl
  · rw [d1]; try rfl
  · rw [d1]; try rfl
  · rw [d1]; try rfl
  · rw [d1]; try rfl
 have d3:=c6
 have v0:=simp_val c6
 refine W_seq_skip (W_r (R_mv t1 (R_mv t2 (R_mul rfl rfl (by omega) (by omega) (R_build rfl rfl (R_alloc (i:=11) (n:=0) (m:=4) rfl (congrArg Blk.ver h11) rfl (R_sk rfl rfl rfl rfl rfl rfl rfl rfl rfl ?_)))))))
 refine R_e (W_r (R_lk rfl rfl rfl rfl (R_bslice_own (i:=58) (n:=0) (qs:=[(0,(V.agg [(iV ((simp_ f).1.op)),(iV ((simp_ f).1.arg)),(V.sl (List.map cF ((simp_ f).1.kids)))]))]) (rows:=[[(iV ((simp_ f).1.op)),(iV ((simp_ f).1.arg)),(V.sl (List.map cF ((simp_ f).1.kids)))]]) rfl (congrArg Blk.ver h58) (mcons (congrArg (fun v=>(0,v)) rfl) rfl) rfl (R_mv rfl (R_e ?_)))))
 refine W_seq_regc (fun T H=>T 2=(iV (o))∧T 6=(V.mp 6 1 0 0)∧T 11=(V.mp 11 1 0 0)∧T 12=(V.ms 58 1 0 (1))∧T 13=(V.mm 59 1)∧H 3=(bk 1 24 3 [[(iV (f.op)),(iV (f.arg)),(V.sl (List.map cF (f.kids)))]])∧H 6=(bk 1 43 4 [[(iV (0:Int)),(iV (0:Int)),V.nilsl,V.nilsl]])∧H 9=(bk 1 24 3 [[(iV ((simp_ f).1.op)),(iV ((simp_ f).1.arg)),(V.sl (List.map cF ((simp_ f).1.kids)))]])∧H 11=(bk 1 43 4 [[(iV ((i)*(o))),(iV (0:Int)),V.nilsl,V.nilsl]])∧H 17=(⟨0,false,false,0,0,[]⟩:Blk)∧H 58=(bk 1 24 3 [[(iV ((simp_ f).1.op)),(iV ((simp_ f).1.arg)),(V.sl (List.map cF ((simp_ f).1.kids)))]])∧H 59=(bz 1 mapH 2 (entT (esA [(simp_ f).1] 0)))∧H 81=(⟨0,false,false,0,0,[]⟩:Blk)∧H 811=(⟨0,false,false,0,0,[]⟩:Blk)∧H 812=(⟨0,false,false,0,0,[]⟩:Blk)∧True) ?_ ?_
 ·
  refine R_mkmap (i:=59) (n:=0) (rows:=entT (esA [] 0)) rfl (congrArg Blk.ver h59) rfl (R_lk rfl rfl rfl rfl (R_callk (key_pure ((simp_ f).1) (fval_ok v0) (fval_sz v0)) rfl (R_mset (B':=(bz 1 mapH 2 (entT (esA [(simp_ f).1] 0)))) (@rfl V (V.mm 59 1)) (@rfl V (V.str ((kyF ((simp_ f).1))))) (@rfl V (iV (0:Int))) (@rfl Blk (bz 1 mapH 2 (entT (esA [] 0)))) (set_es (l:=[]) (g:=(simp_ f).1) (Nat.not_lt_zero _)) (R_mv rfl (R_mv rfl ?_)))))
  exact R_nil ⟨t2,t6,rfl,rfl,rfl,h3,h6,rfl,rfl,h17,rfl,rfl,h81,h811,h812,trivial⟩
 intro T H ⟨t2,t6,t11,t12,t13,h3,h6,h9,h11,h17,h58,h59,h81,h811,h812,_⟩
 refine W_seq_seq ?_
 refine W_seq_g (fun T H=>T 2=(iV (o))∧T 6=(V.mp 6 1 0 0)∧T 11=(V.mp 11 1 0 0)∧T 12=(V.ms 58 1 0 (1))∧T 13=(V.mm 59 1)∧T 14=(iV (0:Int))∧H 3=(bk 1 24 3 [[(iV (f.op)),(iV (f.arg)),(V.sl (List.map cF (f.kids)))]])∧H 6=(bk 1 43 4 [[(iV (0:Int)),(iV (0:Int)),V.nilsl,V.nilsl]])∧H 9=(bk 1 24 3 [[(iV ((simp_ f).1.op)),(iV ((simp_ f).1.arg)),(V.sl (List.map cF ((simp_ f).1.kids)))]])∧H 11=(bk 1 43 4 [[(iV ((i)*(o))),(iV (0:Int)),V.nilsl,V.nilsl]])∧H 17=(⟨0,false,false,0,0,[]⟩:Blk)∧H 58=(bk 1 24 3 [[(iV ((simp_ f).1.op)),(iV ((simp_ f).1.arg)),(V.sl (List.map cF ((simp_ f).1.kids)))]])∧H 59=(bz 1 mapH 2 (entT (esA [(simp_ f).1] 0)))∧H 81=(⟨0,false,false,0,0,[]⟩:Blk)∧H 811=(⟨0,false,false,0,0,[]⟩:Blk)∧H 812=(⟨0,false,false,0,0,[]⟩:Blk)∧True) ?_ ?_
 ·
  refine R_mv rfl ?_
  exact R_nil ⟨t2,t6,t11,t12,t13,rfl,h3,h6,h9,h11,h17,h58,h59,h81,h811,h812,trivial⟩
 intro T H ⟨t2,t6,t11,t12,t13,t14,h3,h6,h9,h11,h17,h58,h59,h81,h811,h812,_⟩
 refine .lazyCell 812 52 1 11 0 2 [(iV ((i)*(o))),(iV (0:Int)),V.nilsl,V.nilsl] (by decide) (by rw [h11]; rfl) (by rw [h11]; rfl) rfl (fork_ (R:=fun T H=>T 2=(iV (o))∧T 6=(V.mp 6 1 0 0)∧T 11=(V.mp 11 1 0 0)∧T 12=(V.ms 58 1 0 (1))∧T 13=(V.mm 59 1)∧T 14=(iV (0:Int))∧H 3=(bk 1 24 3 [[(iV (f.op)),(iV (f.arg)),(V.sl (List.map cF (f.kids)))]])∧H 6=(bk 1 43 4 [[(iV (0:Int)),(iV (0:Int)),V.nilsl,V.nilsl]])∧H 9=(bk 1 24 3 [[(iV ((simp_ f).1.op)),(iV ((simp_ f).1.arg)),(V.sl (List.map cF ((simp_ f).1.kids)))]])∧H 11=(bk 1 43 4 [[(iV ((i)*(o))),(iV (0:Int)),(V.ms 812 1 0 (0)),V.nilsl]])∧H 17=(⟨0,false,false,0,0,[]⟩:Blk)∧H 58=(bk 1 24 3 [[(iV ((simp_ f).1.op)),(iV ((simp_ f).1.arg)),(V.sl (List.map cF ((simp_ f).1.kids)))]])∧H 59=(bz 1 mapH 2 (entT (esA [(simp_ f).1] 0)))∧H 81=(⟨0,false,false,0,0,[]⟩:Blk)∧H 811=(⟨0,false,false,0,0,[]⟩:Blk)∧H 812=(bz 1 52 1 [])∧True) ⟨t2,t6,t11,t12,t13,t14,((upd_ne _ _ (by decide)).trans ((upd_ne _ _ (by decide)).trans h3)),((upd_ne _ _ (by decide)).trans ((upd_ne _ _ (by decide)).trans h6)),((upd_ne _ _ (by decide)).trans ((upd_ne _ _ (by decide)).trans h9)),(by rw [upd_same,h11,(congrArg Blk.ver h812)]; rfl),((upd_ne _ _ (by decide)).trans ((upd_ne _ _ (by decide)).trans h17)),((upd_ne _ _ (by decide)).trans ((upd_ne _ _ (by decide)).trans h58)),((upd_ne _ _ (by decide)).trans ((upd_ne _ _ (by decide)).trans h59)),((upd_ne _ _ (by decide)).trans ((upd_ne _ _ (by decide)).trans h81)),((upd_ne _ _ (by decide)).trans ((upd_ne _ _ (by decide)).trans h811)),(by rw [upd_ne _ _ (by decide),upd_same,(congrArg Blk.ver h812)]),trivial⟩ ?_)
 intro T H ⟨t2,t6,t11,t12,t13,t14,h3,h6,h9,h11,h17,h58,h59,h81,h811,h812,_⟩
 refine .lazyCell 811 4 1 11 0 3 [(iV ((i)*(o))),(iV (0:Int)),(V.ms 812 1 0 (0)),V.nilsl] (by decide) (by rw [h11]; rfl) (by rw [h11]; rfl) rfl (.done ?_)
 refine fork_ (R:=fun T H=>T 2=(iV (o))∧T 6=(V.mp 6 1 0 0)∧T 11=(V.mp 11 1 0 0)∧T 12=(V.ms 58 1 0 (1))∧T 13=(V.mm 59 1)∧T 14=(iV (0:Int))∧H 3=(bk 1 24 3 [[(iV (f.op)),(iV (f.arg)),(V.sl (List.map cF (f.kids)))]])∧H 6=(bk 1 43 4 [[(iV (0:Int)),(iV (0:Int)),V.nilsl,V.nilsl]])∧H 9=(bk 1 24 3 [[(iV ((simp_ f).1.op)),(iV ((simp_ f).1.arg)),(V.sl (List.map cF ((simp_ f).1.kids)))]])∧H 11=(bk 1 43 4 [[(iV ((i)*(o))),(iV (0:Int)),(V.ms 812 1 0 (0)),(V.ms 811 1 0 (0))]])∧H 17=(⟨0,false,false,0,0,[]⟩:Blk)∧H 58=(bk 1 24 3 [[(iV ((simp_ f).1.op)),(iV ((simp_ f).1.arg)),(V.sl (List.map cF ((simp_ f).1.kids)))]])∧H 59=(bz 1 mapH 2 (entT (esA [(simp_ f).1] 0)))∧H 81=(⟨0,false,false,0,0,[]⟩:Blk)∧H 811=(bz 1 4 1 [])∧H 812=(bz 1 52 1 [])∧True) ⟨t2,t6,t11,t12,t13,t14,((upd_ne _ _ (by decide)).trans ((upd_ne _ _ (by decide)).trans h3)),((upd_ne _ _ (by decide)).trans ((upd_ne _ _ (by decide)).trans h6)),((upd_ne _ _ (by decide)).trans ((upd_ne _ _ (by decide)).trans h9)),(by rw [upd_same,h11,(congrArg Blk.ver h811)]; rfl),((upd_ne _ _ (by decide)).trans ((upd_ne _ _ (by decide)).trans h17)),((upd_ne _ _ (by decide)).trans ((upd_ne _ _ (by decide)).trans h58)),((upd_ne _ _ (by decide)).trans ((upd_ne _ _ (by decide)).trans h59)),((upd_ne _ _ (by decide)).trans ((upd_ne _ _ (by decide)).trans h81)),(by rw [upd_ne _ _ (by decide),upd_same,(congrArg Blk.ver h811)]),((upd_ne _ _ (by decide)).trans ((upd_ne _ _ (by decide)).trans h812)),trivial⟩ ?_
 intro T H ⟨t2,t6,t11,t12,t13,t14,h3,h6,h9,h11,h17,h58,h59,h81,h811,h812,_⟩
 refine W_seq_blockg fun Q7 n7 x7 y7 z7=>?_
 refine W_loop (fun mm T H=> ∃ (s:Nat) (l:List Fm) (nx:List (List Int)) (ac:List Bool) (v:Nat) (v1:Nat) (v2:Nat) (v17:Nat) (v81:Nat),mm=129 - s∧T 2=(iV (o))∧T 6=(V.mp 6 1 0 0)∧T 11=(V.mp 11 1 0 0)∧T 12=(V.ms 58 v 0 (l.length))∧T 13=(V.mm 59 1)∧T 14=(iV ((s:Nat):Int))∧H 3=(bk 1 24 3 [[(iV (f.op)),(iV (f.arg)),(V.sl (List.map cF (f.kids)))]])∧H 6=(bk 1 43 4 [[(iV (0:Int)),(iV (0:Int)),V.nilsl,V.nilsl]])∧H 9=(bk 1 24 3 [[(iV ((simp_ f).1.op)),(iV ((simp_ f).1.arg)),(V.sl (List.map cF ((simp_ f).1.kids)))]])∧H 11=(bk 1 43 4 [[(iV ((i)*(o))),(iV (0:Int)),(V.ms 812 v1 0 (nx.length)),(V.ms 811 v2 0 (ac.length))]])∧((H 17).ver=v17∧(H 17).live=false)∧H 58=(bk v 24 3 (List.map cF (l)))∧H 59=(bz 1 mapH 2 (entT (esA l 0)))∧((H 81).ver=v81∧(H 81).live=false)∧H 811=(bz v2 4 1 (List.map cB (ac)))∧H 812=(bz v1 52 1 (List.map cL (nx)))∧(s≤l.length)∧(l.length≤128)∧(nx.length=s∧ac.length=s)∧(∀ g∈l,fval g=0)∧(atmS (simp_ f).1 (i*o).toNat o.toNat=aOut (i*o).toNat o.toNat (129 - s) s l nx ac)) ?_ ?_
 ·
  refine ⟨_,0,[(simp_ f).1],[],[],1,1,1,0,0,rfl,t2,t6,t11,(Eq.trans t12 (by rfl)),t13,(Eq.trans t14 rfl),h3,h6,h9,(Eq.trans h11 (by rfl)),⟨(congrArg Blk.ver h17),congrArg Blk.live h17⟩,(Eq.trans h58 (by (simp [cF_eq]; done))),(Eq.trans h59 (by rfl)),⟨(congrArg Blk.ver h81),congrArg Blk.live h81⟩,(Eq.trans h811 (by rfl)),(Eq.trans h812 (by rfl)),?_,?_,?_,?_,?_⟩
  · exact Nat.zero_le _
  · show 1≤128; decide
  · exact ⟨rfl,rfl⟩
  · exact fun g hg=>by rw [List.mem_singleton.1 hg]; exact v0
  · rfl
 intro mm T H ⟨s,l,nx,ac,v,v1,v2,v17,v81,hmm,t2,t6,t11,t12,t13,t14,h3,h6,h9,h11,h17,h58,h59,h81,h811,h812,hs,hl,hn,hv,hc⟩ Q8 p18 p28 p38
 unfold b18_0
 refine W_seq_seq (W_r (R_mv t14 (R_mv t12 (R_len_ms rfl h58 (by simp) (R_lss rfl rfl (R_e ?_))))))
 refine W_seq_if rfl (fun c9=>?_) fun c9=>?_
 ·
  refine W_seq_skip (W_seq_blockg fun Q10 n10 x10 y10 z10=>(W_r (R_fk t11 h11 (R_lk rfl h11 rfl rfl (R_mv t12 (R_mv t14 (R_idx_ms0 (i:=s) (@rfl V (V.ms 58 v 0 (l.length))) (@rfl V (iV ((s:Nat):Int))) h58 oB rfl (by omega) ?_)))))))
  refine R_load_mp (v:=(V.agg [(iV (((nth (l) (s))).op)),(iV (((nth (l) (s))).arg)),(V.sl (List.map cF (((nth (l) (s))).kids)))])) rfl h58 (ldB_map (by omega) (by (rw [cF_eq]; rfl))) (R_callk (ends_pure (((nth (l) (s)))) (fval_ok (hv _ (nth_mem (by omega)))) (fval_sz (hv _ (nth_mem (by omega))))) rfl (R_bslice rfl rfl (R_append1 (l:=ac) (f:=cB) (x:=(sat t0 (((nth (l) (s)))) 0)) (@rfl V (V.ms 811 v2 0 (ac.length))) h811 (by rfl) (@rfl V (V.sl [[(V.bool (sat t0 (((nth (l) (s)))) 0))]])) rfl rfl (by omega) (by omega) (R_fk t11 h11 (R_sk rfl rfl rfl h11 rfl rfl rfl rfl rfl (R_e (W_r ?_)))))))
  refine R_fk t11 rfl (R_lk rfl rfl rfl rfl (R_mksm (i:=81) (n:=v81) (m:=0) (q:=(((i)*(o)).toNat)) (f:=cI) (x:=0) rfl (h81).1 (@rfl V (iV (0:Int))) (Eq.trans (@rfl V (iV ((i)*(o)))) (congrArg (V.int .i64) (by omega))) rfl (by omega) (by omega) (by omega) (R_mv rfl (R_e (W_seq_seq (W_r (R_fk t11 rfl ?_)))))))
  refine R_lk rfl rfl rfl rfl (R_mv rfl (R_e (W_seq_blockg fun Q11 n11 x11 y11 z11=>?_)))
  refine W_loop (fun mm T H=> ∃ (k:Nat) (l2:List Fm) (r:List Int) (w:Nat) (q:Nat) (v17:Nat),mm=(i*o).toNat - k∧T 2=(iV (o))∧T 6=(V.mp 6 1 0 0)∧T 11=(V.mp 11 1 0 0)∧T 12=(V.ms 58 w 0 (l2.length))∧T 13=(V.mm 59 1)∧T 14=(iV ((s:Nat):Int))∧T 15=(V.ms 81 q 0 (r.length))∧T 83=(iV ((i)*(o)))∧T 84=(iV ((k:Nat):Int))∧H 3=(bk 1 24 3 [[(iV (f.op)),(iV (f.arg)),(V.sl (List.map cF (f.kids)))]])∧H 6=(bk 1 43 4 [[(iV (0:Int)),(iV (0:Int)),V.nilsl,V.nilsl]])∧H 9=(bk 1 24 3 [[(iV ((simp_ f).1.op)),(iV ((simp_ f).1.arg)),(V.sl (List.map cF ((simp_ f).1.kids)))]])∧H 11=(bk 1 43 4 [[(iV ((i)*(o))),(iV (0:Int)),(V.ms 812 v1 0 (nx.length)),(V.ms 811 (v2+1) 0 (ac.length+1))]])∧((H 17).ver=v17∧(H 17).live=false)∧H 58=(bk w 24 3 (List.map cF (l2)))∧H 59=(bz 1 mapH 2 (entT (esA l2 0)))∧H 81=(bk q 3 1 (List.map cI (r)))∧H 811=(bz (v2+1) 4 1 (List.map cB (ac++[sat t0 (((nth (l) (s)))) 0])))∧H 812=(bz v1 52 1 (List.map cL (nx)))∧(k≤(i*o).toNat)∧(r.length=k)∧(s < l2.length)∧(l2.length≤128)∧(nth l2 s=nth l s)∧(∀ g∈l2,fval g=0)∧(aRow (nth l s) o.toNat (i*o).toNat 0 l []=aRow (nth l2 s) o.toNat ((i*o).toNat - k) k l2 r)) ?_ ?_
  ·
   refine ⟨_,0,l,[],v,(v81+1),v17,rfl,t2,t6,t11,t12,t13,t14,(Eq.trans (@rfl V (V.ms 81 (v81+1) 0 (0))) (by rfl)),rfl,(Eq.trans (@rfl V (iV (0:Int))) rfl),h3,h6,h9,rfl,h17,h58,h59,(Eq.trans (@rfl Blk (bk (v81+1) 3 1 (List.map cI (List.replicate 0 0)))) (by rfl)),rfl,h812,?_,?_,?_,?_,?_,?_,?_⟩
   · omega
   · rfl
   · omega
   · omega
   · rfl
   · exact hv
   · rfl
  intro mm T H ⟨k,l2,r,w,q,v17,hmm,t2,t6,t11,t12,t13,t14,t15,t83,t84,h3,h6,h9,h11,h17,h58,h59,h81,h811,h812,hk,hr,hs2,hl2,he,hv2,hc2⟩ Q12 p112 p212 p312
  unfold b18_1
  refine W_r (R_lss t84 t83 (R_e ?_))
  refine W_seq_if rfl (fun c13=>?_) fun c13=>?_
  ·
   refine W_seq_skip (W_seq_blockg fun Q14 n14 x14 y14 z14=>(W_r (R_mv t84 (R_mv rfl (R_e (W_d (by exact (lateC (h17).2 lateN)) (R_mv t12 ?_)))))))
   refine R_mv t14 (R_idx_ms0 (i:=s) (@rfl V (V.ms 58 w 0 (l2.length))) (@rfl V (iV ((s:Nat):Int))) h58 oB rfl (by omega) (R_load_mp (v:=(V.agg [(iV (((nth (l2) (s))).op)),(iV (((nth (l2) (s))).arg)),(V.sl (List.map cF (((nth (l2) (s))).kids)))])) rfl h58 (ldB_map (by omega) (by (rw [cF_eq]; rfl))) (R_mv rfl (R_mv t2 (R_quoN (m:=k) (n:=(((o)).toNat)) rfl (Eq.trans (@rfl V (iV (o))) (iv_toNat (by omega))) (by omega) (by omega) (R_mv rfl (R_mv t2 ?_)))))))
   refine R_remN (m:=k) (n:=(((o)).toNat)) rfl (Eq.trans (@rfl V (iV (o))) (iv_toNat (by omega))) (by omega) (by omega) (R_callk (mstep_pure (((nth (l2) (s)))) (((k / (((o)).toNat):Nat):Int)) (((k % (((o)).toNat):Nat):Int))) rfl (R_mv rfl (R_ext rfl rfl (R_ext rfl rfl (R_alloc (i:=17) (n:=v17) (m:=3) rfl (h17).1 rfl (R_sk rfl rfl rfl rfl rfl rfl rfl rfl rfl (R_mv rfl ?_)))))))
   refine R_e (W_seq_seq (W_r (R_mv rfl (R_neq rfl rfl (R_e ?_)))))
   refine W_seq_if rfl (fun c15=>?_) fun c15=>?_
   ·
    have d1:=atm_x d0 d2 d3 (hc.trans (aOut_err (by omega) hl (hc2.trans (aRow_err (by omega) c15)) c15)) c15
    refine W_seq_seq (W_r (R_build rfl rfl (R_mv rfl (R_sk t6 rfl rfl h6 rfl rfl rfl rfl rfl (R_mv rfl (R_e (W_seq_ret ?_)))))))
    refine y14 _ _ (p212 _ _ (y11 _ _ (y10 _ _ (p28 _ _ (y7 _ _ ?_)))))
    refine RetC_2 (resV_c (u:=(V.agg [(iV (0:Int)),(iV (0:Int)),V.nilsl,V.nilsl])) t6 (@rfl Blk (bk 1 43 4 [[(iV (0:Int)),(iV (0:Int)),V.nilsl,V.nilsl]])) (lB oB rfl rfl)) (resV_t (@rfl V (iV ((stM (((nth (l2) (s)))) (((k / (((o)).toNat):Nat):Int)) (((k % (((o)).toNat):Nat):Int))).2)))) (fz_aggL (mcons (fz_int ?_) (mcons (fz_int ?_) (mcons (fz_nil ?_) (mcons (fz_nil ?_) rfl))))) (fz_int ?_)
    · rw [d1]; try rfl
    · rw [d1]; try rfl
    · rw [d1]; try rfl
    · rw [d1]; try rfl
    · rw [d1]; try rfl
   have e1:=c15
   have x1:=stM_val c15
   refine W_seq_skip (W_r (R_mv t13 (R_lk rfl rfl rfl rfl (R_callk (key_pure ((stM (((nth (l2) (s)))) (((k / (((o)).toNat):Nat):Int)) (((k % (((o)).toNat):Nat):Int))).1) (fval_ok x1) (fval_sz x1)) rfl (R_mlook (z:=(iV (0:Int))) (u:=(iV ((lkV l2 (stM (nth l2 s) ((k / o.toNat:Nat):Int) ((k % o.toNat:Nat):Int)).1)))) (f:=decide (plc l2 (stM (nth l2 s) ((k / o.toNat:Nat):Int) ((k % o.toNat:Nat):Int)).1 < l2.length)) (@rfl V (V.mm 59 1)) (@rfl V (V.str ((kyF ((stM (((nth (l2) (s)))) (((k / (((o)).toNat):Nat):Int)) (((k % (((o)).toNat):Nat):Int))).1))))) h59 (look_es) (R_mv rfl (R_ext rfl rfl ?_)))))))
   refine R_ext rfl rfl (R_mv rfl (R_mv rfl (R_e (W_seq_seq (W_r (R_mv rfl (R_not rfl ?_)))))))
   refine R_e ?_
   refine W_seq_if rfl (fun c16=>?_) fun c16=>?_
   ·
    have e2:=c16
    refine W_seq_seq (W_r (R_mv t12 (R_len_ms rfl h58 (by simp) (R_mv rfl (R_e (W_seq_seq (W_seq_seq ?_)))))))
    refine W_r (R_mv rfl (R_geq rfl rfl (R_e ?_)))
    refine W_seq_if rfl (fun c17=>?_) fun c17=>?_
    ·
     have d1:=atm_x d0 d2 d3 (hc.trans (aOut_err (by omega) hl (hc2.trans (aRow_lim (by omega) e1 e2 (by omega))) (by decide))) (by decide)
     refine W_seq_seq ?_
     refine W_seq_regc (fun T H=>T 6=(V.mp 6 1 0 0)∧T 7=(iV (11:Int))∧H 3=(bk 1 24 3 [[(iV (f.op)),(iV (f.arg)),(V.sl (List.map cF (f.kids)))]])∧H 6=(bk 1 43 4 [[(iV (0:Int)),(iV (0:Int)),V.nilsl,V.nilsl]])∧H 9=(bk 1 24 3 [[(iV ((simp_ f).1.op)),(iV ((simp_ f).1.arg)),(V.sl (List.map cF ((simp_ f).1.kids)))]])∧H 11=(bk 1 43 4 [[(iV ((i)*(o))),(iV (0:Int)),(V.ms 812 v1 0 (nx.length)),(V.ms 811 (v2+1) 0 (ac.length+1))]])∧H 17=(bk (v17+1) 24 3 [[(iV ((stM (((nth (l2) (s)))) (((k / (((o)).toNat):Nat):Int)) (((k % (((o)).toNat):Nat):Int))).1.op)),(iV ((stM (((nth (l2) (s)))) (((k / (((o)).toNat):Nat):Int)) (((k % (((o)).toNat):Nat):Int))).1.arg)),(V.sl (List.map cF ((stM (((nth (l2) (s)))) (((k / (((o)).toNat):Nat):Int)) (((k % (((o)).toNat):Nat):Int))).1.kids)))]])∧H 58=(bk w 24 3 (List.map cF (l2)))∧H 59=(bz 1 mapH 2 (entT (esA l2 0)))∧H 81=(bk q 3 1 (List.map cI (r)))∧H 811=(bz (v2+1) 4 1 (List.map cB (ac++[sat t0 (((nth (l) (s)))) 0])))∧H 812=(bz v1 52 1 (List.map cL (nx)))∧True) ?_ ?_
     ·
      refine R_build rfl rfl (R_sk t6 rfl rfl h6 rfl rfl rfl rfl rfl (R_mv rfl ?_))
      exact R_nil ⟨t6,rfl,h3,rfl,h9,h11,rfl,h58,h59,h81,h811,h812,trivial⟩
     intro T H ⟨t6,t7,h3,h6,h9,h11,h17,h58,h59,h81,h811,h812,_⟩
     refine W_seq_ret (y14 _ _ (p212 _ _ (y11 _ _ (y10 _ _ (p28 _ _ (y7 _ _ ?_))))))
     refine RetC_2 (resV_c (u:=(V.agg [(iV (0:Int)),(iV (0:Int)),V.nilsl,V.nilsl])) t6 h6 (lB oB rfl rfl)) (resV_t t7) (fz_aggL (mcons (fz_int ?_) (mcons (fz_int ?_) (mcons (fz_nil ?_) (mcons (fz_nil ?_) rfl))))) (fz_int ?_)
     · rw [d1]; try rfl
     · rw [d1]; try rfl
     · rw [d1]; try rfl
     · rw [d1]; try rfl
     · rw [d1]; try rfl
    have e3: ¬128≤l2.length:=by omega
    refine W_seq_skip (W_seq_seq ?_)
    refine W_seq_regc (fun T H=>T 2=(iV (o))∧T 6=(V.mp 6 1 0 0)∧T 11=(V.mp 11 1 0 0)∧T 12=(V.ms 58 w 0 (l2.length))∧T 13=(V.mm 59 1)∧T 14=(iV ((s:Nat):Int))∧T 15=(V.ms 81 q 0 (r.length))∧T 17=(V.mp 17 (v17+1) 0 0)∧T 19=(iV ((l2.length:Nat):Int))∧T 83=(iV ((i)*(o)))∧T 84=(iV ((k:Nat):Int))∧H 3=(bk 1 24 3 [[(iV (f.op)),(iV (f.arg)),(V.sl (List.map cF (f.kids)))]])∧H 6=(bk 1 43 4 [[(iV (0:Int)),(iV (0:Int)),V.nilsl,V.nilsl]])∧H 9=(bk 1 24 3 [[(iV ((simp_ f).1.op)),(iV ((simp_ f).1.arg)),(V.sl (List.map cF ((simp_ f).1.kids)))]])∧H 11=(bk 1 43 4 [[(iV ((i)*(o))),(iV (0:Int)),(V.ms 812 v1 0 (nx.length)),(V.ms 811 (v2+1) 0 (ac.length+1))]])∧H 17=(bk (v17+1) 24 3 [[(iV ((stM (((nth (l2) (s)))) (((k / (((o)).toNat):Nat):Int)) (((k % (((o)).toNat):Nat):Int))).1.op)),(iV ((stM (((nth (l2) (s)))) (((k / (((o)).toNat):Nat):Int)) (((k % (((o)).toNat):Nat):Int))).1.arg)),(V.sl (List.map cF ((stM (((nth (l2) (s)))) (((k / (((o)).toNat):Nat):Int)) (((k % (((o)).toNat):Nat):Int))).1.kids)))]])∧H 58=(bk w 24 3 (List.map cF (l2)))∧H 59=(bz 1 mapH 2 (entT (esA (l2++[(stM (nth l2 s) ((k / o.toNat:Nat):Int) ((k % o.toNat:Nat):Int)).1]) 0)))∧H 81=(bk q 3 1 (List.map cI (r)))∧H 811=(bz (v2+1) 4 1 (List.map cB (ac++[sat t0 (((nth (l) (s)))) 0])))∧H 812=(bz v1 52 1 (List.map cL (nx)))∧True) ?_ ?_
    ·
     refine R_mv t13 (R_lk rfl rfl rfl rfl (R_callk (key_pure ((stM (((nth (l2) (s)))) (((k / (((o)).toNat):Nat):Int)) (((k % (((o)).toNat):Nat):Int))).1) (fval_ok x1) (fval_sz x1)) rfl (R_mv rfl (R_mset (B':=(bz 1 mapH 2 (entT (esA (l2++[(stM (nth l2 s) ((k / o.toNat:Nat):Int) ((k % o.toNat:Nat):Int)).1]) 0)))) (@rfl V (V.mm 59 1)) (@rfl V (V.str ((kyF ((stM (((nth (l2) (s)))) (((k / (((o)).toNat):Nat):Int)) (((k % (((o)).toNat):Nat):Int))).1))))) (@rfl V (iV ((l2.length:Nat):Int))) h59 (set_es e2) ?_))))
     exact R_nil ⟨t2,t6,t11,t12,t13,t14,t15,rfl,rfl,t83,t84,h3,h6,h9,h11,rfl,h58,rfl,h81,h811,h812,trivial⟩
    intro T H ⟨t2,t6,t11,t12,t13,t14,t15,t17,t19,t83,t84,h3,h6,h9,h11,h17,h58,h59,h81,h811,h812,_⟩
    refine W_r (R_mv t12 (R_lk t17 h17 rfl rfl (R_bslice rfl rfl (R_append1 (l:=l2) (f:=cF) (x:=((stM (((nth (l2) (s)))) (((k / (((o)).toNat):Nat):Int)) (((k % (((o)).toNat):Nat):Int))).1)) (@rfl V (V.ms 58 w 0 (l2.length))) h58 (by rfl) (row_F1 (x:=((stM (((nth (l2) (s)))) (((k / (((o)).toNat):Nat):Int)) (((k % (((o)).toNat):Nat):Int))).1)) (@rfl V (V.sl [[(iV ((stM (((nth (l2) (s)))) (((k / (((o)).toNat):Nat):Int)) (((k % (((o)).toNat):Nat):Int))).1.op)),(iV ((stM (((nth (l2) (s)))) (((k / (((o)).toNat):Nat):Int)) (((k % (((o)).toNat):Nat):Int))).1.arg)),(V.sl (List.map cF ((stM (((nth (l2) (s)))) (((k / (((o)).toNat):Nat):Int)) (((k % (((o)).toNat):Nat):Int))).1.kids)))]]))) (cF_len _) (cF_one _) (by omega) (by omega) (R_mv rfl (R_e (W_t ?_)))))))
    refine R_mv t15 (R_mv t19 (R_bslice rfl rfl (R_append1 (l:=r) (f:=cI) (x:=(((l2.length:Nat):Int))) (@rfl V (V.ms 81 q 0 (r.length))) h81 (by rfl) (@rfl V (V.sl [[(iV ((l2.length:Nat):Int))]])) rfl rfl (by omega) (by omega) (R_mv rfl (R_e (n14 _ _ (fork_ (R:=fun T H=>T 2=(iV (o))∧T 6=(V.mp 6 1 0 0)∧T 11=(V.mp 11 1 0 0)∧T 12=(V.ms 58 (w+1) 0 (l2.length+1))∧T 13=(V.mm 59 1)∧T 14=(iV ((s:Nat):Int))∧T 15=(V.ms 81 (q+1) 0 (r.length+1))∧T 83=(iV ((i)*(o)))∧T 84=(iV ((k:Nat):Int))∧H 3=(bk 1 24 3 [[(iV (f.op)),(iV (f.arg)),(V.sl (List.map cF (f.kids)))]])∧H 6=(bk 1 43 4 [[(iV (0:Int)),(iV (0:Int)),V.nilsl,V.nilsl]])∧H 9=(bk 1 24 3 [[(iV ((simp_ f).1.op)),(iV ((simp_ f).1.arg)),(V.sl (List.map cF ((simp_ f).1.kids)))]])∧H 11=(bk 1 43 4 [[(iV ((i)*(o))),(iV (0:Int)),(V.ms 812 v1 0 (nx.length)),(V.ms 811 (v2+1) 0 (ac.length+1))]])∧H 17=(bk (v17+1) 24 3 [[(iV ((stM (((nth (l2) (s)))) (((k / (((o)).toNat):Nat):Int)) (((k % (((o)).toNat):Nat):Int))).1.op)),(iV ((stM (((nth (l2) (s)))) (((k / (((o)).toNat):Nat):Int)) (((k % (((o)).toNat):Nat):Int))).1.arg)),(V.sl (List.map cF ((stM (((nth (l2) (s)))) (((k / (((o)).toNat):Nat):Int)) (((k % (((o)).toNat):Nat):Int))).1.kids)))]])∧H 58=(bk (w+1) 24 3 (List.map cF (l2++[(stM (((nth (l2) (s)))) (((k / (((o)).toNat):Nat):Int)) (((k % (((o)).toNat):Nat):Int))).1])))∧H 59=(bz 1 mapH 2 (entT (esA (l2++[(stM (nth l2 s) ((k / o.toNat:Nat):Int) ((k % o.toNat:Nat):Int)).1]) 0)))∧H 81=(bk (q+1) 3 1 (List.map cI (r++[((l2.length:Nat):Int)])))∧H 811=(bz (v2+1) 4 1 (List.map cB (ac++[sat t0 (((nth (l) (s)))) 0])))∧H 812=(bz v1 52 1 (List.map cL (nx)))∧True) ⟨t2,t6,t11,(@rfl V (V.ms 58 (w+1) 0 (l2.length+1))),t13,t14,(@rfl V (V.ms 81 (q+1) 0 (r.length+1))),t83,t84,h3,h6,h9,h11,h17,rfl,h59,rfl,h811,h812,trivial⟩ ?_)))))))
    intro T H ⟨t2,t6,t11,t12,t13,t14,t15,t83,t84,h3,h6,h9,h11,h17,h58,h59,h81,h811,h812,_⟩
    refine .freeze 17 (.done ?_)
    refine fork_ (R:=fun T H=>T 2=(iV (o))∧T 6=(V.mp 6 1 0 0)∧T 11=(V.mp 11 1 0 0)∧T 12=(V.ms 58 (w+1) 0 (l2.length+1))∧T 13=(V.mm 59 1)∧T 14=(iV ((s:Nat):Int))∧T 15=(V.ms 81 (q+1) 0 (r.length+1))∧T 83=(iV ((i)*(o)))∧T 84=(iV ((k:Nat):Int))∧H 3=(bk 1 24 3 [[(iV (f.op)),(iV (f.arg)),(V.sl (List.map cF (f.kids)))]])∧H 6=(bk 1 43 4 [[(iV (0:Int)),(iV (0:Int)),V.nilsl,V.nilsl]])∧H 9=(bk 1 24 3 [[(iV ((simp_ f).1.op)),(iV ((simp_ f).1.arg)),(V.sl (List.map cF ((simp_ f).1.kids)))]])∧H 11=(bk 1 43 4 [[(iV ((i)*(o))),(iV (0:Int)),(V.ms 812 v1 0 (nx.length)),(V.ms 811 (v2+1) 0 (ac.length+1))]])∧((H 17).ver=v17+1∧(H 17).live=false)∧H 58=(bk (w+1) 24 3 (List.map cF (l2++[(stM (((nth (l2) (s)))) (((k / (((o)).toNat):Nat):Int)) (((k % (((o)).toNat):Nat):Int))).1])))∧H 59=(bz 1 mapH 2 (entT (esA (l2++[(stM (nth l2 s) ((k / o.toNat:Nat):Int) ((k % o.toNat:Nat):Int)).1]) 0)))∧H 81=(bk (q+1) 3 1 (List.map cI (r++[((l2.length:Nat):Int)])))∧H 811=(bz (v2+1) 4 1 (List.map cB (ac++[sat t0 (((nth (l) (s)))) 0])))∧H 812=(bz v1 52 1 (List.map cL (nx)))∧True) ⟨(fzT_q t2 rfl),(fzT_q t6 rfl),(fzT_q t11 rfl),(fzT_q t12 (fzq_other (by decide))),(fzT_q t13 rfl),(fzT_q t14 rfl),(fzT_q t15 (fzq_other (by decide))),(fzT_q t83 rfl),(fzT_q t84 rfl),(kill_ne h3 (by decide)),(kill_ne h6 (by decide)),(kill_ne h9 (by decide)),(kill_ne h11 (by decide)),(kill_self (congrArg Blk.ver h17)),(kill_ne h58 (by decide)),(kill_ne h59 (by decide)),(kill_ne h81 (by decide)),(kill_ne h811 (by decide)),(kill_ne h812 (by decide)),trivial⟩ ?_
    intro T H ⟨t2,t6,t11,t12,t13,t14,t15,t83,t84,h3,h6,h9,h11,h17,h58,h59,h81,h811,h812,_⟩
    refine W_t (R_addN t84 (@rfl V (iV ((1:Nat):Int))) (by omega) (R_mv rfl (R_e ?_)))
    refine p112 _ _ _ ?_ ⟨(k+1),(l2++[(stM (((nth (l2) (s)))) (((k / (((o)).toNat):Nat):Int)) (((k % (((o)).toNat):Nat):Int))).1]),(r++[((l2.length:Nat):Int)]),(w+1),(q+1),(v17+1),rfl,t2,t6,t11,(Eq.trans t12 (by simp)),t13,t14,(Eq.trans t15 (by simp)),t83,(Eq.trans (@rfl V (iV ((k+1:Nat):Int))) (by rfl)),h3,h6,h9,h11,h17,(Eq.trans h58 (by rfl)),(Eq.trans h59 (by rfl)),(Eq.trans h81 (by rfl)),h811,h812,?_,?_,?_,?_,?_,?_,?_⟩
    · omega
    · omega
    · rw [List.length_append,hr]; rfl
    · first|omega|(rw [List.length_append]; omega)
    · first|omega|(rw [List.length_append]; simp; omega)
    · first|exact he|(rw [nth_snoc hs2]; exact he)
    · first|exact hv2|exact val_snoc hv2 x1
    · first|exact hc2.trans (aRow_old (by omega) e1 e2)|(rw [nth_snoc hs2]; exact hc2.trans ((aRow_new (by omega) (by rw [← he] at*; exact e1) e2 e3).trans rfl))|(rw [nth_snoc hs2]; exact hc2.trans (aRow_new (by omega) e1 e2 e3))
   have e2:=Decidable.of_not_not c16
   refine W_seq_skip (W_t (R_mv t15 (R_mv rfl (R_bslice rfl rfl (R_append1 (l:=r) (f:=cI) (x:=(((lkV l2 (stM (nth l2 s) ((k / o.toNat:Nat):Int) ((k % o.toNat:Nat):Int)).1)))) (@rfl V (V.ms 81 q 0 (r.length))) h81 (by rfl) (@rfl V (V.sl [[(iV ((lkV l2 (stM (nth l2 s) ((k / o.toNat:Nat):Int) ((k % o.toNat:Nat):Int)).1)))]])) rfl rfl (by omega) (by omega) (R_mv rfl (R_e ?_)))))))
   refine n14 _ _ (fork_ (R:=fun T H=>T 2=(iV (o))∧T 6=(V.mp 6 1 0 0)∧T 11=(V.mp 11 1 0 0)∧T 12=(V.ms 58 w 0 (l2.length))∧T 13=(V.mm 59 1)∧T 14=(iV ((s:Nat):Int))∧T 15=(V.ms 81 (q+1) 0 (r.length+1))∧T 83=(iV ((i)*(o)))∧T 84=(iV ((k:Nat):Int))∧H 3=(bk 1 24 3 [[(iV (f.op)),(iV (f.arg)),(V.sl (List.map cF (f.kids)))]])∧H 6=(bk 1 43 4 [[(iV (0:Int)),(iV (0:Int)),V.nilsl,V.nilsl]])∧H 9=(bk 1 24 3 [[(iV ((simp_ f).1.op)),(iV ((simp_ f).1.arg)),(V.sl (List.map cF ((simp_ f).1.kids)))]])∧H 11=(bk 1 43 4 [[(iV ((i)*(o))),(iV (0:Int)),(V.ms 812 v1 0 (nx.length)),(V.ms 811 (v2+1) 0 (ac.length+1))]])∧H 17=(bk (v17+1) 24 3 [[(iV ((stM (((nth (l2) (s)))) (((k / (((o)).toNat):Nat):Int)) (((k % (((o)).toNat):Nat):Int))).1.op)),(iV ((stM (((nth (l2) (s)))) (((k / (((o)).toNat):Nat):Int)) (((k % (((o)).toNat):Nat):Int))).1.arg)),(V.sl (List.map cF ((stM (((nth (l2) (s)))) (((k / (((o)).toNat):Nat):Int)) (((k % (((o)).toNat):Nat):Int))).1.kids)))]])∧H 58=(bk w 24 3 (List.map cF (l2)))∧H 59=(bz 1 mapH 2 (entT (esA l2 0)))∧H 81=(bk (q+1) 3 1 (List.map cI (r++[((lkV l2 (stM (nth l2 s) ((k / o.toNat:Nat):Int) ((k % o.toNat:Nat):Int)).1))])))∧H 811=(bz (v2+1) 4 1 (List.map cB (ac++[sat t0 (((nth (l) (s)))) 0])))∧H 812=(bz v1 52 1 (List.map cL (nx)))∧True) ⟨t2,t6,t11,t12,t13,t14,(@rfl V (V.ms 81 (q+1) 0 (r.length+1))),t83,t84,h3,h6,h9,h11,rfl,h58,h59,rfl,h811,h812,trivial⟩ ?_)
   intro T H ⟨t2,t6,t11,t12,t13,t14,t15,t83,t84,h3,h6,h9,h11,h17,h58,h59,h81,h811,h812,_⟩
   refine .freeze 17 (.done ?_)
   refine fork_ (R:=fun T H=>T 2=(iV (o))∧T 6=(V.mp 6 1 0 0)∧T 11=(V.mp 11 1 0 0)∧T 12=(V.ms 58 w 0 (l2.length))∧T 13=(V.mm 59 1)∧T 14=(iV ((s:Nat):Int))∧T 15=(V.ms 81 (q+1) 0 (r.length+1))∧T 83=(iV ((i)*(o)))∧T 84=(iV ((k:Nat):Int))∧H 3=(bk 1 24 3 [[(iV (f.op)),(iV (f.arg)),(V.sl (List.map cF (f.kids)))]])∧H 6=(bk 1 43 4 [[(iV (0:Int)),(iV (0:Int)),V.nilsl,V.nilsl]])∧H 9=(bk 1 24 3 [[(iV ((simp_ f).1.op)),(iV ((simp_ f).1.arg)),(V.sl (List.map cF ((simp_ f).1.kids)))]])∧H 11=(bk 1 43 4 [[(iV ((i)*(o))),(iV (0:Int)),(V.ms 812 v1 0 (nx.length)),(V.ms 811 (v2+1) 0 (ac.length+1))]])∧((H 17).ver=v17+1∧(H 17).live=false)∧H 58=(bk w 24 3 (List.map cF (l2)))∧H 59=(bz 1 mapH 2 (entT (esA l2 0)))∧H 81=(bk (q+1) 3 1 (List.map cI (r++[((lkV l2 (stM (nth l2 s) ((k / o.toNat:Nat):Int) ((k % o.toNat:Nat):Int)).1))])))∧H 811=(bz (v2+1) 4 1 (List.map cB (ac++[sat t0 (((nth (l) (s)))) 0])))∧H 812=(bz v1 52 1 (List.map cL (nx)))∧True) ⟨(fzT_q t2 rfl),(fzT_q t6 rfl),(fzT_q t11 rfl),(fzT_q t12 (fzq_other (by decide))),(fzT_q t13 rfl),(fzT_q t14 rfl),(fzT_q t15 (fzq_other (by decide))),(fzT_q t83 rfl),(fzT_q t84 rfl),(kill_ne h3 (by decide)),(kill_ne h6 (by decide)),(kill_ne h9 (by decide)),(kill_ne h11 (by decide)),(kill_self (congrArg Blk.ver h17)),(kill_ne h58 (by decide)),(kill_ne h59 (by decide)),(kill_ne h81 (by decide)),(kill_ne h811 (by decide)),(kill_ne h812 (by decide)),trivial⟩ ?_
   intro T H ⟨t2,t6,t11,t12,t13,t14,t15,t83,t84,h3,h6,h9,h11,h17,h58,h59,h81,h811,h812,_⟩
   refine W_t (R_addN t84 (@rfl V (iV ((1:Nat):Int))) (by omega) (R_mv rfl (R_e ?_)))
   refine p112 _ _ _ ?_ ⟨(k+1),l2,(r++[((lkV l2 (stM (nth l2 s) ((k / o.toNat:Nat):Int) ((k % o.toNat:Nat):Int)).1))]),w,(q+1),(v17+1),rfl,t2,t6,t11,t12,t13,t14,(Eq.trans t15 (by simp)),t83,(Eq.trans (@rfl V (iV ((k+1:Nat):Int))) (by rfl)),h3,h6,h9,h11,h17,h58,h59,(Eq.trans h81 (by rfl)),h811,h812,?_,?_,?_,?_,?_,?_,?_⟩
   · omega
   · omega
   · rw [List.length_append,hr]; rfl
   · first|omega|(rw [List.length_append]; omega)
   · first|omega|(rw [List.length_append]; simp; omega)
   · first|exact he|(rw [nth_snoc hs2]; exact he)
   · first|exact hv2|exact val_snoc hv2 x1
   · first|exact hc2.trans (aRow_old (by omega) e1 e2)|(rw [nth_snoc hs2]; exact hc2.trans ((aRow_new (by omega) (by rw [← he] at*; exact e1) e2 e3).trans rfl))|(rw [nth_snoc hs2]; exact hc2.trans (aRow_new (by omega) e1 e2 e3))
  have hr0:=hc2.trans (aRow_end (by omega))
  refine W_seq_exit (p312 _ _ _ (x11 _ _ (fork_ (R:=fun T H=>T 2=(iV (o))∧T 6=(V.mp 6 1 0 0)∧T 11=(V.mp 11 1 0 0)∧T 12=(V.ms 58 w 0 (l2.length))∧T 13=(V.mm 59 1)∧T 14=(iV ((s:Nat):Int))∧T 15=(V.ms 81 q 0 (r.length))∧T 83=(iV ((i)*(o)))∧T 84=(iV ((k:Nat):Int))∧T 85=(V.bool (decide (((k:Nat):Int) < ((i)*(o)))))∧H 3=(bk 1 24 3 [[(iV (f.op)),(iV (f.arg)),(V.sl (List.map cF (f.kids)))]])∧H 6=(bk 1 43 4 [[(iV (0:Int)),(iV (0:Int)),V.nilsl,V.nilsl]])∧H 9=(bk 1 24 3 [[(iV ((simp_ f).1.op)),(iV ((simp_ f).1.arg)),(V.sl (List.map cF ((simp_ f).1.kids)))]])∧H 11=(bk 1 43 4 [[(iV ((i)*(o))),(iV (0:Int)),(V.ms 812 v1 0 (nx.length)),(V.ms 811 (v2+1) 0 (ac.length+1))]])∧((H 17).ver=v17∧(H 17).live=false)∧H 58=(bk w 24 3 (List.map cF (l2)))∧H 59=(bz 1 mapH 2 (entT (esA l2 0)))∧H 81=(bk q 3 1 (List.map cI (r)))∧H 811=(bz (v2+1) 4 1 (List.map cB (ac++[sat t0 (((nth (l) (s)))) 0])))∧H 812=(bz v1 52 1 (List.map cL (nx)))∧True) ⟨t2,t6,t11,t12,t13,t14,t15,t83,t84,(@rfl V (V.bool (decide (((k:Nat):Int) < ((i)*(o)))))),h3,h6,h9,h11,h17,h58,h59,h81,h811,h812,trivial⟩ ?_)))
  intro T H ⟨t2,t6,t11,t12,t13,t14,t15,t83,t84,t85,h3,h6,h9,h11,h17,h58,h59,h81,h811,h812,_⟩
  refine .freeze 81 (.done ?_)
  refine fork_ (R:=fun T H=>T 2=(iV (o))∧T 6=(V.mp 6 1 0 0)∧T 11=(V.mp 11 1 0 0)∧T 12=(V.ms 58 w 0 (l2.length))∧T 13=(V.mm 59 1)∧T 14=(iV ((s:Nat):Int))∧T 15=(ints r)∧T 83=(iV ((i)*(o)))∧T 84=(iV ((k:Nat):Int))∧T 85=(V.bool (decide (((k:Nat):Int) < ((i)*(o)))))∧H 3=(bk 1 24 3 [[(iV (f.op)),(iV (f.arg)),(V.sl (List.map cF (f.kids)))]])∧H 6=(bk 1 43 4 [[(iV (0:Int)),(iV (0:Int)),V.nilsl,V.nilsl]])∧H 9=(bk 1 24 3 [[(iV ((simp_ f).1.op)),(iV ((simp_ f).1.arg)),(V.sl (List.map cF ((simp_ f).1.kids)))]])∧H 11=(bk 1 43 4 [[(iV ((i)*(o))),(iV (0:Int)),(V.ms 812 v1 0 (nx.length)),(V.ms 811 (v2+1) 0 (ac.length+1))]])∧((H 17).ver=v17∧(H 17).live=false)∧H 58=(bk w 24 3 (List.map cF (l2)))∧H 59=(bz 1 mapH 2 (entT (esA l2 0)))∧((H 81).ver=q∧(H 81).live=false)∧H 811=(bz (v2+1) 4 1 (List.map cB (ac++[sat t0 (((nth (l) (s)))) 0])))∧H 812=(bz v1 52 1 (List.map cL (nx)))∧True) ⟨(fzT_q t2 rfl),(fzT_q t6 rfl),(fzT_q t11 rfl),(fzT_q t12 (fzq_other (by decide))),(fzT_q t13 rfl),(fzT_q t14 rfl),(fzT_q t15 (fzq_own h81 (by simp) (l:=r) rfl (by rfl))),(fzT_q t83 rfl),(fzT_q t84 rfl),(fzT_q t85 rfl),(kill_ne h3 (by decide)),(kill_ne h6 (by decide)),(kill_ne h9 (by decide)),(kill_ne h11 (by decide)),(kill_dead h17),(kill_ne h58 (by decide)),(kill_ne h59 (by decide)),(kill_self (congrArg Blk.ver h81)),(kill_ne h811 (by decide)),(kill_ne h812 (by decide)),trivial⟩ ?_
  intro T H ⟨t2,t6,t11,t12,t13,t14,t15,t83,t84,t85,h3,h6,h9,h11,h17,h58,h59,h81,h811,h812,_⟩
  refine W_t (R_fk t11 h11 (R_lk rfl h11 rfl rfl (R_mv t15 (R_bslice rfl rfl (R_append1 (l:=nx) (f:=cL) (x:=r) (@rfl V (V.ms 812 v1 0 (nx.length))) h812 (by rfl) (@rfl V (V.sl [[(ints r)]])) rfl rfl (by omega) (by omega) (R_fk t11 h11 (R_sk rfl rfl rfl h11 rfl rfl rfl rfl rfl ?_)))))))
  refine R_e (n10 _ _ (.done (W_t (R_mv t14 (R_addN rfl (@rfl V (iV ((1:Nat):Int))) (by omega) (R_mv rfl (R_e ?_)))))))
  refine p18 _ _ _ ?_ ⟨(s+1),l2,(nx++[r]),(ac++[sat t0 (nth l s) 0]),w,(v1+1),(v2+1),v17,q,rfl,t2,t6,t11,t12,t13,(Eq.trans (@rfl V (iV ((s+1:Nat):Int))) (by rfl)),h3,h6,h9,(Eq.trans (@rfl Blk (bk 1 43 4 [[(iV ((i)*(o))),(iV (0:Int)),(V.ms 812 (v1+1) 0 (nx.length+1)),(V.ms 811 (v2+1) 0 (ac.length+1))]])) (by (simp [cF_eq]; done))),h17,h58,h59,h81,(Eq.trans h811 (by rfl)),(Eq.trans (@rfl Blk (bz (v1+1) 52 1 (List.map cL (nx++[r])))) (by rfl)),?_,?_,?_,?_,?_⟩
  · omega
  · omega
  · exact hl2
  · exact ⟨by rw [List.length_append,hn.1]; rfl,by rw [List.length_append,hn.2]; rfl⟩
  · exact hv2
  · exact hc.trans (aOut_go (by omega) hl hr0)
 have d9:=atm_g d0 d2 d3 (hc.trans (aOut_end (by omega)))
 refine W_seq_exit (p38 _ _ _ (x7 _ _ (.done (W_r (R_lk t11 h11 rfl rfl (R_sk t6 rfl rfl h6 rfl rfl rfl rfl rfl (R_mv rfl ?_)))))))
 refine R_e (W_ret ?_)
 refine RetC_2 (resV_c (u:=(V.agg [(iV ((i)*(o))),(iV (0:Int)),(V.ms 812 v1 0 (nx.length)),(V.ms 811 v2 0 (ac.length))])) t6 (@rfl Blk (bk 1 43 4 [[(iV ((i)*(o))),(iV (0:Int)),(V.ms 812 v1 0 (nx.length)),(V.ms 811 v2 0 (ac.length))]])) (lB oB rfl rfl)) (resV_t (@rfl V (iV (0:Int)))) (fz_aggL (mcons (fz_int ?_) (mcons (fz_int ?_) (mcons (fz_ms h812 (by simp) (l:=nx) rfl (by rfl) (fun _=>by simp) ?_) (mcons (fz_ms h811 (by simp) (l:=ac) rfl (by rfl) (fun _=>by simp) ?_) rfl))))) (fz_int ?_)
 · rw [d9]; try rfl
 · rw [d9]; try rfl
 · rw [d9]; try rfl
 · rw [d9]; try rfl
 · rw [d9]; try rfl
end Go.Proofs.YteehaobohaecmaaGreatDoor
namespace Go.Proofs.YteehaobohaecmaaGreatDoor
open Go Go.Proofs
def r20_1:List SO:=[
 qF 6 0 2,
 ql 7 6,
 qF 8 0 3,
 ql 9 8,
 qP 10 .neq 7 9,
 qM 11 10,
 ⟨some (11,false),some 12,.fld 1 (.t 2)⟩,
 ⟨some (11,false),some 13,.load false 1 (.t 12)⟩,
 ⟨some (11,false),some 14,.fld 1 (.t 3)⟩,
 ⟨some (11,false),some 15,.load false 1 (.t 14)⟩,
 ⟨some (11,false),some 16,.bin .neq (.t 13) (.t 15)⟩,
 sO 17 (.pick (.t 11) (.c (.bool true)) (.t 16)),
 qM 18 17,
 ⟨some (18,false),some 19,.fld 2 (.t 2)⟩,
 ⟨some (18,false),some 20,.load false 1 (.t 19)⟩,
 ⟨some (18,false),some 21,.fld 2 (.t 3)⟩,
 ⟨some (18,false),some 22,.load false 1 (.t 21)⟩,
 ⟨some (18,false),some 23,.call false 46 [.t 20,.t 22]⟩,
 ⟨some (18,false),some 24,.un .not (.t 23)⟩,
 sO 25 (.pick (.t 18) (.c (.bool true)) (.t 24)),
 qM 26 25,
 ⟨some (26,false),some 27,.fld 3 (.t 2)⟩,
 ⟨some (26,false),some 28,.load false 1 (.t 27)⟩,
 ⟨some (26,false),some 29,.len (.t 28)⟩,
 ⟨some (26,false),some 30,.fld 3 (.t 3)⟩,
 ⟨some (26,false),some 31,.load false 1 (.t 30)⟩,
 ⟨some (26,false),some 32,.len (.t 31)⟩,
 ⟨some (26,false),some 33,.bin .neq (.t 29) (.t 32)⟩,
 sO 34 (.pick (.t 26) (.c (.bool true)) (.t 33))]
def r20_6:List SO:=[
 qF 42 3 2,
 ql 43 42,
 qM 44 5,
 qA 45 1 43 44,
 ql 46 45,
 qF 47 3 3,
 ql 48 47,
 qM 49 5,
 qA 50 1 48 49,
 ql 51 50,
 sO 52 (.bbin .neq (.t 46) (.t 51))]
def b20_0:SC:=.seq (.seq (.reg [qM 35 5,qF 36 3 2,ql 37 36,qN 38 37,qP 39 .lss 35 38]) (.cond (.t 39) (.skip) (.exit 0))) (.seq (.block 1 (.seq (.reg r20_6) (.cond (.t 52) (.seq (.reg [sO 4 (.mv (.c (.bool false)))]) (.ret)) (.skip)))) (.reg [qM 40 5,qC 41 .add 40 1,qM 5 41]))
def s20:SF:=⟨53,[.tmp 4],.seq (.reg [sO 2 (.box 43 4 (.t 0)),sO 3 (.box 43 4 (.t 1)),sO 4 (.mv (.c (.bool false)))]) (.seq (.seq (.reg r20_1) (.cond (.t 34) (.seq (.reg [sO 4 (.mv (.c (.bool false)))]) (.ret)) (.skip))) (.seq (.seq (.reg [qI 5 0]) (.block 0 (.loop b20_0))) (.seq (.reg [sO 4 (.mv (.c (.bool true)))]) (.ret))))⟩
theorem s20_ok:slimF Tryz.prog ⟨[59,84,90,97,109,153,154,155,160],[],[],[]⟩ Tryz.f20=some s20:=by kernel_rfl
def r46_6:List SO:=[
 qM 17 0,
 qM 18 5,
 qA 19 1 17 18,
 ql 20 19,
 qM 21 1,
 qM 22 5,
 qA 23 1 21 22,
 ql 24 23,
 sO 25 (.call false 72 [.t 20,.t 24]),
 sO 26 (.un .not (.t 25))]
def b46_0:SC:=.seq (.seq (.reg [qM 11 5,qM 12 0,qN 13 12,qP 14 .lss 11 13]) (.cond (.t 14) (.skip) (.exit 0))) (.seq (.block 1 (.seq (.reg r46_6) (.cond (.t 26) (.seq (.reg [sO 4 (.mv (.c (.bool false)))]) (.ret)) (.skip)))) (.reg [qM 15 5,qC 16 .add 15 1,qM 5 16]))
def s46:SF:=⟨27,[.tmp 4],.seq (.reg [sO 4 (.mv (.c (.bool false)))]) (.seq (.seq (.reg [qM 6 0,qN 7 6,qM 8 1,qN 9 8,qP 10 .neq 7 9]) (.cond (.t 10) (.seq (.reg [sO 4 (.mv (.c (.bool false)))]) (.ret)) (.skip))) (.seq (.seq (.reg [qI 5 0]) (.block 0 (.loop b46_0))) (.seq (.reg [sO 4 (.mv (.c (.bool true)))]) (.ret))))⟩
theorem s46_ok:slimF Tryz.prog ⟨[59,84,90,97,109,153,154,155,160],[],[],[]⟩ Tryz.f46=some s46:=by kernel_rfl
def r72_1:List SO:=[
 qM 5 0,
 qN 6 5,
 qM 7 1,
 qN 8 7,
 qP 9 .eql 6 8,
 qM 10 9,
 ⟨some (10,true),some 11,.mv (.t 0)⟩,
 ⟨some (10,true),some 12,.mv (.t 1)⟩,
 ⟨some (10,true),some 13,.call false 96 [.t 11,.t 12]⟩,
 ⟨some (10,true),some 14,.mv (.t 0)⟩,
 ⟨some (10,true),some 15,.len (.t 14)⟩,
 ⟨some (10,true),some 16,.bin .eql (.t 13) (.t 15)⟩,
 sO 17 (.pick (.t 10) (.t 16) (.c (.bool false))),
 qM 4 17]
def s72:SF:=⟨18,[.tmp 4],.seq (.reg [sO 4 (.mv (.c (.bool false)))]) (.seq (.reg r72_1) (.ret))⟩
theorem s72_ok:slimF Tryz.prog ⟨[59,84,90,97,109,153,154,155,160],[],[],[]⟩ Tryz.f72=some s72:=by kernel_rfl
def r96_2:List SO:=[
 qM 6 5,
 qM 7 0,
 qN 8 7,
 qP 9 .lss 6 8,
 qM 10 9,
 ⟨some (10,true),some 11,.mv (.t 5)⟩,
 ⟨some (10,true),some 12,.mv (.t 1)⟩,
 ⟨some (10,true),some 13,.len (.t 12)⟩,
 ⟨some (10,true),some 14,.bin .lss (.t 11) (.t 13)⟩,
 sO 15 (.pick (.t 10) (.t 14) (.c (.bool false))),
 qM 16 15,
 ⟨some (16,true),some 17,.mv (.t 0)⟩,
 ⟨some (16,true),some 18,.mv (.t 5)⟩,
 ⟨some (16,true),some 19,.idx 1 (.t 17) (.t 18)⟩,
 ⟨some (16,true),some 20,.load false 1 (.t 19)⟩,
 ⟨some (16,true),some 21,.mv (.t 1)⟩,
 ⟨some (16,true),some 22,.mv (.t 5)⟩,
 ⟨some (16,true),some 23,.idx 1 (.t 21) (.t 22)⟩,
 ⟨some (16,true),some 24,.load false 1 (.t 23)⟩,
 ⟨some (16,true),some 25,.bin .eql (.t 20) (.t 24)⟩,
 sO 26 (.pick (.t 16) (.t 25) (.c (.bool false)))]
def b96_0:SC:=.seq (.seq (.reg r96_2) (.cond (.t 26) (.skip) (.exit 0))) (.block 1 (.reg [qM 27 5,qC 28 .add 27 1,qM 5 28]))
def s96:SF:=⟨30,[.tmp 4],.seq (.reg [qI 4 0]) (.seq (.reg [qI 5 0]) (.seq (.block 0 (.loop b96_0)) (.seq (.reg [qM 29 5,qM 4 29]) (.ret))))⟩
theorem s96_ok:slimF Tryz.prog ⟨[59,84,90,97,109,153,154,155,160],[],[],[]⟩ Tryz.f96=some s96:=by kernel_rfl
theorem rcommon_pure (a b:List Int):PureC Tryz.prog 96 [(ints a),(ints b)] (iV ((cmn a b:Nat):Int)):=by
 refine pW Tryz.func96 s96_ok fun hB=>?_
 unfold s96
 dsimp only
 refine W_r (R_mv rfl (R_e (W_r (R_mv rfl (R_e (W_seq_blockg fun Q1 n1 x1 y1 z1=>?_))))))
 refine W_loop (fun mm T H=> ∃ (k:Nat),mm=a.length - k∧T 0=(ints a)∧T 1=(ints b)∧T 5=(iV ((k:Nat):Int))∧(k≤a.length)∧(k≤cmn a b)) ?_ ?_
 ·
  refine ⟨_,0,rfl,rfl,rfl,(Eq.trans (@rfl V (iV (0:Int))) rfl),?_,?_⟩
  · omega
  · exact Nat.zero_le _
 intro mm T H ⟨k,hmm,t0,t1,t5,hk,hc⟩ Q2 p12 p22 p32
 unfold b96_0
 refine W_seq_seq (W_r (R_mv t5 (R_mv t0 (R_len rfl (R_lss rfl rfl (R_mv rfl ?_))))))
 refine Ops_seg 5 (fun T H=>T 0=(ints a)∧T 1=(ints b)∧T 5=(iV ((k:Nat):Int))∧T 15=(V.bool (decide ((((k:Nat):Int) < ((a.length:Nat):Int))∧(((k:Nat):Int) < ((b.length:Nat):Int)))))∧True) ?_ ?_
 ·
  by_cases g3:((k:Nat):Int) < ((a.length:Nat):Int)
  ·
   refine G_yes (edT g3 rfl) (R_mv t5 (G_yes (edT g3 rfl) (R_mv t1 (G_yes (edT g3 rfl) (R_len rfl (G_yes (edT g3 rfl) (R_lss rfl rfl ?_)))))))
   refine R_pickT (edT g3 rfl) rfl ?_
   exact ⟨t0,t1,t5,(dec_andT g3),trivial⟩
  ·
   refine G_n (edF g3 rfl) (G_n (edF g3 rfl) (G_n (edF g3 rfl) (G_n (edF g3 rfl) (R_pickF (edF g3 rfl) rfl ?_))))
   exact ⟨t0,t1,t5,(dec_andF g3),trivial⟩
 intro T H ⟨t0,t1,t5,t15,_⟩
 refine R_mv t15 ?_
 refine Ops_seg 10 (fun T H=>T 0=(ints a)∧T 1=(ints b)∧T 5=(iV ((k:Nat):Int))∧T 26=(V.bool (decide (((((k:Nat):Int) < ((a.length:Nat):Int))∧(((k:Nat):Int) < ((b.length:Nat):Int)))∧(((nth (a) (k)))=((nth (b) (k)))))))∧True) ?_ ?_
 ·
  by_cases g4:(((k:Nat):Int) < ((a.length:Nat):Int))∧(((k:Nat):Int) < ((b.length:Nat):Int))
  ·
   refine G_yes (edT g4 rfl) (R_mv t0 (G_yes (edT g4 rfl) (R_mv t5 (G_yes (edT g4 rfl) (R_idx (i:=k) (@rfl V (ints a)) (@rfl V (iV ((k:Nat):Int))) (by omega) rfl (G_yes (edT g4 rfl) (R_load_pp rfl rfl ?_)))))))
   refine G_yes (edT g4 rfl) (R_mv t1 (G_yes (edT g4 rfl) (R_mv t5 (G_yes (edT g4 rfl) (R_idx (i:=k) (@rfl V (ints b)) (@rfl V (iV ((k:Nat):Int))) (by omega) rfl (G_yes (edT g4 rfl) (R_load_pp rfl rfl ?_)))))))
   refine G_yes (edT g4 rfl) (R_eql rfl rfl (R_pickT (edT g4 rfl) rfl ?_))
   exact ⟨t0,t1,t5,(dec_andT g4),trivial⟩
  ·
   refine G_n (edF g4 rfl) (G_n (edF g4 rfl) (G_n (edF g4 rfl) (G_n (edF g4 rfl) (G_n (edF g4 rfl) (G_n (edF g4 rfl) (G_n (edF g4 rfl) (G_n (edF g4 rfl) ?_)))))))
   refine G_n (edF g4 rfl) (R_pickF (edF g4 rfl) rfl ?_)
   exact ⟨t0,t1,t5,(dec_andF g4),trivial⟩
 intro T H ⟨t0,t1,t5,t26,_⟩
 refine R_e ?_
 refine W_seq_if t26 (fun c5=>?_) fun c5=>?_
 ·
  refine W_seq_skip (W_block fun Q6 n6 x6 y6 z6=>(W_t (R_mv t5 (R_addN rfl (@rfl V (iV ((1:Nat):Int))) (by omega) (R_mv rfl (R_e (n6 _ _ ?_)))))))
  refine p12 _ _ _ ?_ ⟨(k+1),rfl,t0,t1,(Eq.trans (@rfl V (iV ((k+1:Nat):Int))) (by rfl)),?_,?_⟩
  · omega
  · omega
  · exact cmn_next hc (by omega) (by omega) (by omega)
 refine W_seq_exit (p32 _ _ _ (x1 _ _ (.done (W_r (R_mv t5 (R_mv rfl (R_e ?_)))))))
 refine W_ret ?_
 refine Ret_1 (@rfl V (iV ((k:Nat):Int))) (fz_int ?_)
 · rw [cmn_at hc (by omega)]
end Go.Proofs.YteehaobohaecmaaGreatDoor
namespace Go.Proofs.YteehaobohaecmaaGreatDoor
theorem same_dec (a b:List Int):decide ((a.length:Int)=(b.length:Int)∧(cmn a b:Int)=(a.length:Int))=decide (a=b):=by
  have h:=cmn_spec a b
  refine decide_eq_decide.2 ⟨fun ⟨e1,e2⟩=>nth_ext (by omega) fun j hj=>h.2.2.1 j (by omega),fun e=>?_⟩
  subst e
  have:cmn a a=a.length:=by
    rcases Nat.lt_or_ge (cmn a a) a.length with q|q
    · exact (h.2.2.2 q q rfl).elim
    · omega
  exact ⟨rfl,by omega⟩
end Go.Proofs.YteehaobohaecmaaGreatDoor
namespace Go.Proofs.YteehaobohaecmaaGreatDoor
open Go Go.Proofs
theorem rsame1_pure (a b:List Int):PureC Tryz.prog 72 [(ints a),(ints b)] (V.bool (decide (a=b))):=by
 refine pW Tryz.func72 s72_ok fun hB=>?_
 unfold s72
 dsimp only
 refine W_r (R_mv rfl (R_e (W_r (R_mv rfl (R_len rfl (R_mv rfl (R_len rfl ?_)))))))
 refine R_eql rfl rfl (R_mv rfl ?_)
 refine Ops_seg 7 (fun T H=>T 17=(V.bool (decide ((((a.length:Nat):Int)=((b.length:Nat):Int))∧(((cmn a b:Nat):Int)=((a.length:Nat):Int)))))∧True) ?_ ?_
 ·
  by_cases g1:((a.length:Nat):Int)=((b.length:Nat):Int)
  ·
   refine G_yes (edT g1 rfl) (R_mv rfl (G_yes (edT g1 rfl) (R_mv rfl (G_yes (edT g1 rfl) ?_))))
   have q2:=cmn_l a b
   have q3:=cmn_r a b
   refine R_callk (rcommon_pure a b) rfl (G_yes (edT g1 rfl) (R_mv rfl (G_yes (edT g1 rfl) (R_len rfl (G_yes (edT g1 rfl) (R_eql rfl rfl (R_pickT (edT g1 rfl) rfl ?_)))))))
   exact ⟨(dec_andT g1),trivial⟩
  ·
   refine G_n (edF g1 rfl) (G_n (edF g1 rfl) (G_n (edF g1 rfl) (G_n (edF g1 rfl) (G_n (edF g1 rfl) (G_n (edF g1 rfl) (R_pickF (edF g1 rfl) rfl ?_))))))
   exact ⟨(dec_andF g1),trivial⟩
 intro T H ⟨t17,_⟩
 refine R_mv t17 (R_e (W_ret ?_))
 refine Ret_1 (@rfl V (V.bool (decide ((((a.length:Nat):Int)=((b.length:Nat):Int))∧(((cmn a b:Nat):Int)=((a.length:Nat):Int)))))) (fz_bool ?_)
 · exact same_dec a b
theorem swords_pure (a b:List (List Int)):PureC Tryz.prog 46 [(intss a),(intss b)] (V.bool (decide (a=b))):=by
 refine pW Tryz.func46 s46_ok fun hB=>?_
 unfold s46
 dsimp only
 refine W_r (R_mv rfl (R_e (W_seq_seq (W_r (R_mv rfl (R_len rfl (R_mv rfl ?_)))))))
 refine R_len rfl (R_neq rfl rfl (R_e ?_))
 refine W_seq_if rfl (fun c1=>?_) fun c1=>?_
 ·
  refine W_seq_seq (W_r (R_mv rfl (R_e (W_seq_ret ?_))))
  refine Ret_1 (@rfl V (V.bool false)) (fz_bool ?_)
  · exact (decide_eq_false (fun e=>by subst e; omega)).symm
 refine W_seq_skip (W_seq_seq (W_r (R_mv rfl (R_e (W_seq_blockg fun Q2 n2 x2 y2 z2=>?_)))))
 refine W_loop (fun mm T H=> ∃ (k:Nat),mm=a.length - k∧T 0=(intss a)∧T 1=(intss b)∧T 5=(iV ((k:Nat):Int))∧(k≤a.length)∧(a.length=b.length)∧(∀ j,j < k→nth a j=nth b j)) ?_ ?_
 ·
  refine ⟨_,0,rfl,rfl,rfl,(Eq.trans (@rfl V (iV (0:Int))) rfl),?_,?_,?_⟩
  · omega
  · omega
  · intro j hj; omega
 intro mm T H ⟨k,hmm,t0,t1,t5,hk,hl,hc⟩ Q3 p13 p23 p33
 unfold b46_0
 refine W_seq_seq (W_r (R_mv t5 (R_mv t0 (R_len rfl (R_lss rfl rfl (R_e ?_))))))
 refine W_seq_if rfl (fun c4=>?_) fun c4=>?_
 ·
  refine W_seq_skip (W_seq_blockg fun Q5 n5 x5 y5 z5=>(W_r (R_mv t0 (R_mv t5 (R_idx (i:=k) (@rfl V (intss a)) (@rfl V (iV ((k:Nat):Int))) (by omega) rfl (R_load_pp rfl rfl (R_mv t1 ?_)))))))
  refine R_mv t5 (R_idx (i:=k) (@rfl V (intss b)) (@rfl V (iV ((k:Nat):Int))) (by omega) rfl (R_load_pp rfl rfl (R_callk (rsame1_pure ((nth (a) (k))) ((nth (b) (k)))) rfl (R_not rfl (R_e ?_)))))
  refine W_if rfl (fun c6=>?_) fun c6=>?_
  ·
   have d1:=c6
   refine W_r (R_mv rfl (R_e (W_ret (y5 _ _ (p23 _ _ (y2 _ _ ?_))))))
   refine Ret_1 (@rfl V (V.bool false)) (fz_bool ?_)
   · exact (decide_eq_false (fun e=>d1 (by subst e; rfl))).symm
  have d1:=Decidable.not_not.1 c6
  refine W_skip (n5 _ _ (.done (W_t (R_mv t5 (R_addN rfl (@rfl V (iV ((1:Nat):Int))) (by omega) (R_mv rfl (R_e ?_)))))))
  refine p13 _ _ _ ?_ ⟨(k+1),rfl,t0,t1,(Eq.trans (@rfl V (iV ((k+1:Nat):Int))) (by rfl)),?_,?_,?_⟩
  · omega
  · omega
  · omega
  · intro j hj
    by_cases e:j=k
    · subst e; exact d1
    · exact hc j (by omega)
 refine W_seq_exit (p33 _ _ _ (x2 _ _ (.done (W_r (R_mv rfl (R_e (W_ret ?_)))))))
 refine Ret_1 (@rfl V (V.bool true)) (fz_bool ?_)
 · exact (decide_eq_true (nth_ext hl fun j hj=>hc j (by omega))).symm
end Go.Proofs.YteehaobohaecmaaGreatDoor
namespace Go.Proofs.YteehaobohaecmaaGreatDoor
open Go
structure PrF (f:Fm) (t:Tr):Prop where
  v:fval f=0
  z:f.sz≤30
  l:t.ni.length≤20
  e:t.no.length=t.ni.length
  r: ∀ j,j < t.ni.length→(0≤nth t.ni j∧nth t.ni j < 64∧0≤nth t.no j∧nth t.no j≤1048576)
structure RtG (f:Fm) (t:Tr):Prop where
  r:Run 31 (simp_ f).1
  s: ∀ i,sat t (simp_ f).1 i=sat t f i
  a:simp_ (simp_ f).1=((simp_ f).1,0)
  hb:hoB t (simp_ f).1=hoB t f
  he:hoE t (simp_ f).1=0
section
variable {f g:Fm} {t:Tr} {k:Nat}
end
theorem df_eq {a b:Df} (h1:a.inp=b.inp) (h2:a.st=b.st) (h3:a.nx=b.nx) (h4:a.ac.length=b.ac.length) (h5: ∀ j,j < a.ac.length→nth a.ac j=nth b.ac j):a=b:=by
  have h6:a.ac=b.ac:=nth_ext h4 h5
  cases a; cases b
  simp only at h1 h2 h3 h6
  rw [h1,h2,h3,h6]
structure Odr where
  f:Fm
  g:Fm
  h:Fm
  b:Bool
end Go.Proofs.YteehaobohaecmaaGreatDoor
namespace Go.Proofs.YteehaobohaecmaaGreatDoor
open Go Go.Proofs
theorem dfsame_pure (a b:Df):PureC Tryz.prog 20 [(V.agg [(iV (a.inp)),(iV (a.st)),(intss a.nx),(V.sl (List.map cB (a.ac)))]),(V.agg [(iV (b.inp)),(iV (b.st)),(intss b.nx),(V.sl (List.map cB (b.ac)))])] (V.bool (decide (a=b))):=by
 refine pW Tryz.func20 s20_ok fun hB=>?_
 unfold s20
 dsimp only
 refine W_r (R_box (i:=2) (n:=0) (m:=4) (cs:=[(iV (a.inp)),(iV (a.st)),(intss a.nx),(V.sl (List.map cB (a.ac)))]) rfl (congrArg Blk.ver rfl) rfl rfl rfl (R_box (i:=3) (n:=0) (m:=4) (cs:=[(iV (b.inp)),(iV (b.st)),(intss b.nx),(V.sl (List.map cB (b.ac)))]) rfl (congrArg Blk.ver rfl) rfl rfl rfl (R_mv rfl (R_e (W_seq_seq (W_r (R_fk rfl rfl ?_)))))))
 refine R_lk rfl rfl rfl rfl (R_fk rfl rfl (R_lk rfl rfl rfl rfl (R_neq rfl rfl (R_mv rfl ?_))))
 refine Ops_seg 6 (fun T H=>T 2=(V.mp 2 1 0 0)∧T 3=(V.mp 3 1 0 0)∧T 17=(V.bool (decide (((a.inp)≠(b.inp))∨((a.st)≠(b.st)))))∧H 2=(bk 1 43 4 [[(iV (a.inp)),(iV (a.st)),(intss a.nx),(V.sl (List.map cB (a.ac)))]])∧H 3=(bk 1 43 4 [[(iV (b.inp)),(iV (b.st)),(intss b.nx),(V.sl (List.map cB (b.ac)))]])∧True) ?_ ?_
 ·
  by_cases g1:(a.inp)≠(b.inp)
  ·
   refine G_n (edT g1 rfl) (G_n (edT g1 rfl) (G_n (edT g1 rfl) (G_n (edT g1 rfl) (G_n (edT g1 rfl) (R_pickT (edT g1 rfl) rfl ?_)))))
   exact ⟨rfl,rfl,(dec_orT g1),rfl,rfl,trivial⟩
  ·
   refine G_yes (edF g1 rfl) (R_fk rfl rfl (G_yes (edF g1 rfl) (R_lk rfl rfl rfl rfl (G_yes (edF g1 rfl) (R_fk rfl rfl (G_yes (edF g1 rfl) (R_lk rfl rfl rfl rfl ?_)))))))
   refine G_yes (edF g1 rfl) (R_neq rfl rfl (R_pickF (edF g1 rfl) rfl ?_))
   exact ⟨rfl,rfl,(dec_orF g1),rfl,rfl,trivial⟩
 intro T H ⟨t2,t3,t17,h2,h3,_⟩
 refine R_mv t17 ?_
 refine Ops_seg 7 (fun T H=>T 2=(V.mp 2 1 0 0)∧T 3=(V.mp 3 1 0 0)∧T 25=(V.bool (decide ((((a.inp)≠(b.inp))∨((a.st)≠(b.st)))∨(¬(a.nx=b.nx)))))∧H 2=(bk 1 43 4 [[(iV (a.inp)),(iV (a.st)),(intss a.nx),(V.sl (List.map cB (a.ac)))]])∧H 3=(bk 1 43 4 [[(iV (b.inp)),(iV (b.st)),(intss b.nx),(V.sl (List.map cB (b.ac)))]])∧True) ?_ ?_
 ·
  by_cases g2:((a.inp)≠(b.inp))∨((a.st)≠(b.st))
  ·
   refine G_n (edT g2 rfl) (G_n (edT g2 rfl) (G_n (edT g2 rfl) (G_n (edT g2 rfl) (G_n (edT g2 rfl) (G_n (edT g2 rfl) (R_pickT (edT g2 rfl) rfl ?_))))))
   exact ⟨t2,t3,(dec_orT g2),h2,h3,trivial⟩
  ·
   refine G_yes (edF g2 rfl) (R_fk t2 h2 (G_yes (edF g2 rfl) (R_lk rfl h2 rfl rfl (G_yes (edF g2 rfl) (R_fk t3 h3 (G_yes (edF g2 rfl) (R_lk rfl h3 rfl rfl ?_)))))))
   refine G_yes (edF g2 rfl) (R_callk (swords_pure a.nx b.nx) rfl (G_yes (edF g2 rfl) (R_not rfl (R_pickF (edF g2 rfl) rfl ?_))))
   exact ⟨t2,t3,(dec_orF g2),h2,h3,trivial⟩
 intro T H ⟨t2,t3,t25,h2,h3,_⟩
 refine R_mv t25 ?_
 refine Ops_seg 8 (fun T H=>T 2=(V.mp 2 1 0 0)∧T 3=(V.mp 3 1 0 0)∧T 34=(V.bool (decide (((((a.inp)≠(b.inp))∨((a.st)≠(b.st)))∨(¬(a.nx=b.nx)))∨(((a.ac.length:Nat):Int)≠((b.ac.length:Nat):Int)))))∧H 2=(bk 1 43 4 [[(iV (a.inp)),(iV (a.st)),(intss a.nx),(V.sl (List.map cB (a.ac)))]])∧H 3=(bk 1 43 4 [[(iV (b.inp)),(iV (b.st)),(intss b.nx),(V.sl (List.map cB (b.ac)))]])∧True) ?_ ?_
 ·
  by_cases g3:(((a.inp)≠(b.inp))∨((a.st)≠(b.st)))∨(¬(a.nx=b.nx))
  ·
   refine G_n (edT g3 rfl) (G_n (edT g3 rfl) (G_n (edT g3 rfl) (G_n (edT g3 rfl) (G_n (edT g3 rfl) (G_n (edT g3 rfl) (G_n (edT g3 rfl) (R_pickT (edT g3 rfl) rfl ?_)))))))
   exact ⟨t2,t3,(dec_orT g3),h2,h3,trivial⟩
  ·
   refine G_yes (edF g3 rfl) (R_fk t2 h2 (G_yes (edF g3 rfl) (R_lk rfl h2 rfl rfl (G_yes (edF g3 rfl) (R_len rfl (G_yes (edF g3 rfl) (R_fk t3 h3 ?_)))))))
   refine G_yes (edF g3 rfl) (R_lk rfl h3 rfl rfl (G_yes (edF g3 rfl) (R_len rfl (G_yes (edF g3 rfl) (R_neq rfl rfl (R_pickF (edF g3 rfl) rfl ?_))))))
   exact ⟨t2,t3,(dec_orF g3),h2,h3,trivial⟩
 intro T H ⟨t2,t3,t34,h2,h3,_⟩
 refine R_e ?_
 refine W_seq_if t34 (fun c4=>?_) fun c4=>?_
 ·
  have d1:=c4
  refine W_seq_seq (W_r (R_mv rfl (R_e (W_seq_ret ?_))))
  refine Ret_1 (@rfl V (V.bool false)) (fz_bool ?_)
  · exact (decide_eq_false fun e=>by subst e; simp at d1).symm
 have d1:=c4
 refine W_seq_skip (W_seq_seq (W_r (R_mv rfl (R_e (W_seq_blockg fun Q5 n5 x5 y5 z5=>?_)))))
 refine W_loop (fun mm T H=> ∃ (k:Nat),mm=a.ac.length - k∧T 2=(V.mp 2 1 0 0)∧T 3=(V.mp 3 1 0 0)∧T 5=(iV ((k:Nat):Int))∧H 2=(bk 1 43 4 [[(iV (a.inp)),(iV (a.st)),(intss a.nx),(V.sl (List.map cB (a.ac)))]])∧H 3=(bk 1 43 4 [[(iV (b.inp)),(iV (b.st)),(intss b.nx),(V.sl (List.map cB (b.ac)))]])∧(k≤a.ac.length)∧(a.ac.length=b.ac.length)∧(∀ j,j < k→nth a.ac j=nth b.ac j)) ?_ ?_
 ·
  refine ⟨_,0,rfl,t2,t3,(Eq.trans (@rfl V (iV (0:Int))) rfl),h2,h3,?_,?_,?_⟩
  · omega
  · omega
  · intro j hj; omega
 intro mm T H ⟨k,hmm,t2,t3,t5,h2,h3,hk,hl,hc⟩ Q6 p16 p26 p36
 unfold b20_0
 refine W_seq_seq (W_r (R_mv t5 (R_fk t2 h2 (R_lk rfl h2 rfl rfl (R_len rfl (R_lss rfl rfl (R_e ?_)))))))
 refine W_seq_if rfl (fun c7=>?_) fun c7=>?_
 ·
  refine W_seq_skip (W_seq_blockg fun Q8 n8 x8 y8 z8=>(W_r (R_fk t2 h2 (R_lk rfl h2 rfl rfl (R_mv t5 (R_idx (i:=k) (@rfl V (V.sl (List.map cB (a.ac)))) (@rfl V (iV ((k:Nat):Int))) (by omega) rfl (R_load_pp rfl rfl ?_)))))))
  refine R_fk t3 h3 (R_lk rfl h3 rfl rfl (R_mv t5 (R_idx (i:=k) (@rfl V (V.sl (List.map cB (b.ac)))) (@rfl V (iV ((k:Nat):Int))) (by omega) rfl (R_load_pp rfl rfl (R_bneq (x:=((nth (a.ac) (k)))) (y:=((nth (b.ac) (k)))) rfl rfl (R_e ?_))))))
  refine W_ifb rfl (fun c9=>?_) (fun c9=>?_)
  ·
   have d2:nth a.ac k≠nth b.ac k:=by have q:=c9; simpa using q
   refine W_r (R_mv rfl (R_e (W_ret (y8 _ _ (p26 _ _ (y5 _ _ ?_))))))
   refine Ret_1 (@rfl V (V.bool false)) (fz_bool ?_)
   · exact (decide_eq_false fun e=>by subst e; exact d2 rfl).symm
  have d2:nth a.ac k=nth b.ac k:=by have q:=c9; simpa using q
  refine W_skip (n8 _ _ (.done (W_t (R_mv t5 (R_addN rfl (@rfl V (iV ((1:Nat):Int))) (by omega) (R_mv rfl (R_e ?_)))))))
  refine p16 _ _ _ ?_ ⟨(k+1),rfl,t2,t3,(Eq.trans (@rfl V (iV ((k+1:Nat):Int))) (by rfl)),h2,h3,?_,?_,?_⟩
  · omega
  · omega
  · omega
  · intro j hj
    by_cases e:j=k
    · subst e; exact d2
    · exact hc j (by omega)
 refine W_seq_exit (p36 _ _ _ (x5 _ _ (.done (W_r (R_mv rfl (R_e (W_ret ?_)))))))
 refine Ret_1 (@rfl V (V.bool true)) (fz_bool ?_)
 · exact (decide_eq_true (df_eq (by omega) (by omega) (Decidable.of_not_not fun q=>d1 (.inl (.inr q))) hl fun j hj=>hc j (by omega))).symm
def s33:SF:=⟨11,[.cell 6 true 3],.seq (.reg [sO 6 (.alloc 24 [.int .i64 0,.int .i64 0,.nilsl])]) (.seq (.reg [qM 7 0,qM 8 1,qM 9 2,sO 10 (.build [.int .i64 0,.int .i64 0,.nilsl] [(0,1,.t 7),(1,1,.t 8),(2,1,.t 9)]),sN (.store 3 (.t 6) (.t 10))]) (.ret))⟩
theorem s33_ok:slimF Tryz.prog ⟨[59,84,90,97,109,153,154,155,160],[],[],[]⟩ Tryz.f33=some s33:=by kernel_rfl
theorem lnode_pure (o a:Int) (l:List Fm):PureC Tryz.prog 33 [(iV (o)),(iV (a)),(V.sl (List.map cF (l)))] (V.agg [(iV (o)),(iV (a)),(V.sl (List.map cF (l)))]):=by
 refine pW Tryz.func33 s33_ok fun hB=>?_
 unfold s33
 dsimp only
 refine W_r (R_alloc (i:=6) (n:=0) (m:=3) rfl (congrArg Blk.ver rfl) rfl (R_e (W_r (R_mv rfl (R_mv rfl (R_mv rfl (R_build rfl rfl ?_)))))))
 refine R_sk rfl rfl rfl rfl rfl rfl rfl rfl rfl (R_e (W_ret ?_))
 refine RetC_1 (resV_c (u:=(V.agg [(iV (o)),(iV (a)),(V.sl (List.map cF (l)))])) rfl (@rfl Blk (bk 1 24 3 [[(iV (o)),(iV (a)),(V.sl (List.map cF (l)))]])) (lB oB rfl rfl)) (fz_canon (by simp) rfl)
def s34:SF:=⟨4,[.cell 0 true 3],.seq (.reg [sO 0 (.alloc 24 [.int .i64 0,.int .i64 0,.nilsl])]) (.seq (.reg [sO 1 (.call false 33 [.c (.int .i64 1),.c (.int .i64 0),.c (.nilsl)]),sO 2 (.bslice 24 3 false [.int .i64 0,.int .i64 0,.nilsl] 1 [(0,.t 1)]),sO 3 (.call false 33 [.c (.int .i64 4),.c (.int .i64 0),.t 2]),sN (.store 3 (.t 0) (.t 3))]) (.ret))⟩
theorem s34_ok:slimF Tryz.prog ⟨[59,84,90,97,109,153,154,155,160],[],[],[]⟩ Tryz.f34=some s34:=by kernel_rfl
theorem lno_pure:PureC Tryz.prog 34 [] (V.agg [(iV (4:Int)),(iV (0:Int)),(V.sl (List.map cF ([Fm.nd 1 0 []])))]):=by
 refine pW Tryz.func34 s34_ok fun hB=>?_
 unfold s34
 dsimp only
 refine W_r (R_alloc (i:=0) (n:=0) (m:=3) rfl (congrArg Blk.ver rfl) rfl (R_e (W_r (R_call (evcons (@rfl V (iV (1:Int))) (evcons (@rfl V (iV (0:Int))) (evcons (@rfl V V.nilsl) evnil))) (lnode_pure ((1:Int)) ((0:Int)) ([])) (mcons (fzv_canon 6 _ (by simp [-List.map_take,-List.map_drop,-List.map_append,-List.map_reverse])) (mcons (fzv_canon 6 _ (by simp [-List.map_take,-List.map_drop,-List.map_append,-List.map_reverse])) (mcons (by rfl) rfl))) (by simp [-List.map_take,-List.map_drop,-List.map_append,-List.map_reverse]) (Or.inl (by simp [-List.map_take,-List.map_drop,-List.map_append,-List.map_reverse])) (R_bslice rfl rfl (R_callk (lnode_pure ((4:Int)) ((0:Int)) ([(Fm.nd (1:Int) (0:Int) [])])) (evcons rfl (evcons rfl (evcons (sl_F1 (x:=((Fm.nd (1:Int) (0:Int) []))) rfl) evnil))) (R_sk rfl rfl rfl rfl rfl rfl rfl rfl rfl ?_)))))))
 refine R_e (W_ret ?_)
 refine RetC_1 (resV_c (u:=(V.agg [(iV (((4:Int)))),(iV (((0:Int)))),(V.sl (List.map cF (([(Fm.nd (1:Int) (0:Int) [])]))))])) rfl (@rfl Blk (bk 1 24 3 [[(iV (((4:Int)))),(iV (((0:Int)))),(V.sl (List.map cF (([(Fm.nd (1:Int) (0:Int) [])]))))]])) (lB oB rfl rfl)) (fz_agg3 (fz_int ?_) (fz_int ?_) (fz_sl ?_ (fun _=>by simp)))
 · first|rfl|omega|simp_all
 · first|rfl|omega|simp_all
 · first|rfl|omega|simp_all
end Go.Proofs.YteehaobohaecmaaGreatDoor
namespace Go.Proofs.YteehaobohaecmaaGreatDoor
open Go Go.Proofs
set_option maxRecDepth 20000
theorem aw_a:PureC Tryz.prog 11 [(V.agg [(iV (6:Int)),(iV (0:Int)),(V.sl (List.map cF ([Fm.nd 5 0 [Fm.nd 2 1 [],Fm.nd 1 0 []],Fm.nd 2 0 [],Fm.nd 5 0 [Fm.nd 2 0 [],Fm.nd 7 0 [Fm.nd 1 0 []]]])))])] (V.tup [(V.agg [(iV (6:Int)),(iV (0:Int)),(V.sl (List.map cF ([Fm.nd 2 0 [],Fm.nd 2 1 []])))]),(iV (0:Int))]):=by
  have h:=simplify_pure (Fm.nd 6 0 [Fm.nd 5 0 [Fm.nd 2 1 [],Fm.nd 1 0 []],Fm.nd 2 0 [],Fm.nd 5 0 [Fm.nd 2 0 [],Fm.nd 7 0 [Fm.nd 1 0 []]]])
  rw [show simp_ (Fm.nd 6 0 [Fm.nd 5 0 [Fm.nd 2 1 [],Fm.nd 1 0 []],Fm.nd 2 0 [],Fm.nd 5 0 [Fm.nd 2 0 [],Fm.nd 7 0 [Fm.nd 1 0 []]]])=((Fm.nd 6 0 [Fm.nd 2 0 [],Fm.nd 2 1 []]),0) from by decide+kernel] at h
  exact h
theorem aw_b:PureC Tryz.prog 13 [(V.agg [(iV (10:Int)),(iV (0:Int)),(V.sl (List.map cF ([Fm.nd 4 0 [Fm.nd 1 0 []],Fm.nd 6 0 [Fm.nd 4 0 [Fm.nd 2 0 []],Fm.nd 3 1 []]])))]),iV 0,iV 1] (V.tup [(V.agg [(iV (10:Int)),(iV (0:Int)),(V.sl (List.map cF ([Fm.nd 4 0 [Fm.nd 1 0 []],Fm.nd 6 0 [Fm.nd 3 1 [],Fm.nd 4 0 [Fm.nd 2 0 []]]])))]),(iV (0:Int))]):=by
  have h:=mstep_pure (Fm.nd 10 0 [Fm.nd 4 0 [Fm.nd 1 0 []],Fm.nd 6 0 [Fm.nd 4 0 [Fm.nd 2 0 []],Fm.nd 3 1 []]]) 0 1
  rw [show stM (Fm.nd 10 0 [Fm.nd 4 0 [Fm.nd 1 0 []],Fm.nd 6 0 [Fm.nd 4 0 [Fm.nd 2 0 []],Fm.nd 3 1 []]]) 0 1=((Fm.nd 10 0 [Fm.nd 4 0 [Fm.nd 1 0 []],Fm.nd 6 0 [Fm.nd 3 1 [],Fm.nd 4 0 [Fm.nd 2 0 []]]]),0) from by decide+kernel] at h
  exact h
theorem aw_c:PureC Tryz.prog 13 [(V.agg [(iV (10:Int)),(iV (0:Int)),(V.sl (List.map cF ([Fm.nd 4 0 [Fm.nd 1 0 []],Fm.nd 6 0 [Fm.nd 4 0 [Fm.nd 2 0 []],Fm.nd 3 1 []]])))]),iV 0,iV 0] (V.tup [(V.agg [(iV (4:Int)),(iV (0:Int)),(V.sl (List.map cF ([Fm.nd 1 0 []])))]),(iV (0:Int))]):=by
  have h:=mstep_pure (Fm.nd 10 0 [Fm.nd 4 0 [Fm.nd 1 0 []],Fm.nd 6 0 [Fm.nd 4 0 [Fm.nd 2 0 []],Fm.nd 3 1 []]]) 0 0
  rw [show stM (Fm.nd 10 0 [Fm.nd 4 0 [Fm.nd 1 0 []],Fm.nd 6 0 [Fm.nd 4 0 [Fm.nd 2 0 []],Fm.nd 3 1 []]]) 0 0=((Fm.nd 4 0 [Fm.nd 1 0 []]),0) from by decide+kernel] at h
  exact h
theorem aw_d:PureC Tryz.prog 18 [(V.agg [(iV (10:Int)),(iV (0:Int)),(V.sl (List.map cF ([Fm.nd 4 0 [Fm.nd 1 0 []],Fm.nd 6 0 [Fm.nd 4 0 [Fm.nd 2 0 []],Fm.nd 3 1 []]])))]),iV 2,iV 3] (V.tup [(V.agg [(iV (6:Int)),(iV (0:Int)),(intss ([[1,0,1,0,0,0],[1,1,1,1,1,1]])),(V.sl (List.map cB ([true,false])))]),(iV (0:Int))]):=by
  have h:=atm_pure (Fm.nd 10 0 [Fm.nd 4 0 [Fm.nd 1 0 []],Fm.nd 6 0 [Fm.nd 4 0 [Fm.nd 2 0 []],Fm.nd 3 1 []]]) 2 3
  rw [show atm (Fm.nd 10 0 [Fm.nd 4 0 [Fm.nd 1 0 []],Fm.nd 6 0 [Fm.nd 4 0 [Fm.nd 2 0 []],Fm.nd 3 1 []]]) 2 3=(⟨6,0,[[1,0,1,0,0,0],[1,1,1,1,1,1]],[true,false]⟩,0) from by decide+kernel] at h
  exact h
theorem aw_e:PureC Tryz.prog 15 [(V.agg [(iV (9:Int)),(iV (0:Int)),(V.sl (List.map cF ([Fm.nd 4 0 [Fm.nd 1 0 []]])))])] (V.tup [(V.bool true),(iV (0:Int))]):=by
  have h:=mends_pure (Fm.nd 9 0 [Fm.nd 4 0 [Fm.nd 1 0 []]])
  rw [show hoB t0 (Fm.nd 9 0 [Fm.nd 4 0 [Fm.nd 1 0 []]])=true from by decide+kernel,show hoE t0 (Fm.nd 9 0 [Fm.nd 4 0 [Fm.nd 1 0 []]])=0 from by decide+kernel] at h
  exact h
theorem aw_f:PureC Tryz.prog 15 [(V.agg [(iV (7:Int)),(iV (0:Int)),(V.sl (List.map cF ([Fm.nd 1 0 []])))])] (V.tup [(V.bool false),(iV (0:Int))]):=by
  have h:=mends_pure (Fm.nd 7 0 [Fm.nd 1 0 []])
  rw [show hoB t0 (Fm.nd 7 0 [Fm.nd 1 0 []])=false from by decide+kernel,show hoE t0 (Fm.nd 7 0 [Fm.nd 1 0 []])=0 from by decide+kernel] at h
  exact h
abbrev w10_13:=(Fm.nd (2:Int) (0:Int) [])
abbrev w10_18:=(Fm.nd (2:Int) (1:Int) [])
abbrev w10_15:=(sameF (⟨((6:Int)),((0:Int)),([Fm.nd 2 0 [],Fm.nd 2 1 []])⟩:Fm) (⟨((((6:Int)))),((((0:Int)))),(([w10_13,w10_18]))⟩:Fm))
abbrev w10_19:=(Fm.nd (3:Int) (1:Int) [])
abbrev w10_17:=(Fm.nd (4:Int) (0:Int) [w10_13])
abbrev w10_2:=([(Fm.nd (4:Int) (0:Int) [Fm.nd 1 0 []]),(Fm.nd (6:Int) (0:Int) [w10_19,w10_17])])
abbrev w10_7:=((((w10_15&&decide ((0:Int)=(0:Int))))&&(sameF (⟨((10:Int)),((0:Int)),([Fm.nd 4 0 [Fm.nd 1 0 []],Fm.nd 6 0 [Fm.nd 3 1 [],Fm.nd 4 0 [Fm.nd 2 0 []]]])⟩:Fm) (⟨((((10:Int)))),((((0:Int)))),(w10_2)⟩:Fm))))
abbrev w10_0:=((((w10_7&&decide ((0:Int)=(0:Int))))&&(sameF (⟨((4:Int)),((0:Int)),([Fm.nd 1 0 []])⟩:Fm) (⟨((4:Int)),((0:Int)),([Fm.nd 1 0 []])⟩:Fm))))
abbrev w10_1:=(bk 1 24 3 [[(iV (((10:Int)))),(iV (((0:Int)))),(V.sl (List.map cF (([(Fm.nd (4:Int) (0:Int) [Fm.nd 1 0 []]),(Fm.nd (6:Int) (0:Int) [w10_17,w10_19])]))))]])
abbrev w10_3:=((((w10_0&&decide ((0:Int)=(0:Int))))&&decide ((⟨((6:Int)),((0:Int)),([[1,0,1,0,0,0],[1,1,1,1,1,1]]),([true,false])⟩:Df)=(⟨((6:Int)),((0:Int)),([[1,0,1,0,0,0],[1,1,1,1,1,1]]),([true,false])⟩:Df))))
abbrev w10_4:=(bk 1 24 3 [[(iV (10:Int)),(iV (0:Int)),(V.sl (List.map cF ([Fm.nd 4 0 [Fm.nd 1 0 []],Fm.nd 6 0 [Fm.nd 3 1 [],Fm.nd 4 0 [Fm.nd 2 0 []]]])))]])
abbrev w10_5:=(bk 1 43 4 [[(iV (6:Int)),(iV (0:Int)),(intss ([[1,0,1,0,0,0],[1,1,1,1,1,1]])),(V.sl (List.map cB ([true,false])))]])
abbrev w10_6:=(bk 1 24 3 [[(iV (6:Int)),(iV (0:Int)),(V.sl (List.map cF ([Fm.nd 2 0 [],Fm.nd 2 1 []])))]])
abbrev w10_8:=(bk 1 24 3 [[(iV (((2:Int)))),(iV (((0:Int)))),(V.sl (List.map cF (([]))))]])
abbrev w10_9:=(bk 1 24 3 [[(iV (((2:Int)))),(iV (((1:Int)))),(V.sl (List.map cF (([]))))]])
abbrev w10_10:=(bk 1 24 3 [[(iV (((1:Int)))),(iV (((0:Int)))),(V.sl (List.map cF (([]))))]])
abbrev w10_11:=(bk 1 24 3 [[(iV (((10:Int)))),(iV (((0:Int)))),(V.sl (List.map cF (w10_2)))]])
abbrev w10_12:=(bk 1 24 3 [[(iV (4:Int)),(iV (0:Int)),(V.sl (List.map cF ([Fm.nd 1 0 []])))]])
abbrev w10_14:=((((((w10_3&&decide ((0:Int)=(0:Int))))||false))&&decide ((0:Int)=(0:Int))))
abbrev w10_16:=(Fm.nd (1:Int) (0:Int) [])
theorem aw46_pure:PureC Tryz.prog 10 [] (V.bool true):=by
 refine pW Tryz.func10 s10_ok fun hB=>?_
 unfold s10
 dsimp only
 refine W_r (R_mv rfl (R_e (W_r (R_call (evcons (@rfl V (iV (2:Int))) (evcons (@rfl V (iV (0:Int))) (evcons (@rfl V V.nilsl) evnil))) (lnode_pure ((2:Int)) ((0:Int)) ([])) (mcons (fzv_canon 6 _ (by simp [-List.map_take,-List.map_drop,-List.map_append,-List.map_reverse])) (mcons (fzv_canon 6 _ (by simp [-List.map_take,-List.map_drop,-List.map_append,-List.map_reverse])) (mcons (by rfl) rfl))) (by simp [-List.map_take,-List.map_drop,-List.map_append,-List.map_reverse]) (Or.inl (by simp [-List.map_take,-List.map_drop,-List.map_append,-List.map_reverse])) (R_call (evcons (@rfl V (iV (2:Int))) (evcons (@rfl V (iV (1:Int))) (evcons (@rfl V V.nilsl) evnil))) (lnode_pure ((2:Int)) ((1:Int)) ([])) (mcons (fzv_canon 6 _ (by simp [-List.map_take,-List.map_drop,-List.map_append,-List.map_reverse])) (mcons (fzv_canon 6 _ (by simp [-List.map_take,-List.map_drop,-List.map_append,-List.map_reverse])) (mcons (by rfl) rfl))) (by simp [-List.map_take,-List.map_drop,-List.map_append,-List.map_reverse]) (Or.inl (by simp [-List.map_take,-List.map_drop,-List.map_append,-List.map_reverse])) (R_call (evcons (@rfl V (iV (1:Int))) (evcons (@rfl V (iV (0:Int))) (evcons (@rfl V V.nilsl) evnil))) (lnode_pure ((1:Int)) ((0:Int)) ([])) (mcons (fzv_canon 6 _ (by simp [-List.map_take,-List.map_drop,-List.map_append,-List.map_reverse])) (mcons (fzv_canon 6 _ (by simp [-List.map_take,-List.map_drop,-List.map_append,-List.map_reverse])) (mcons (by rfl) rfl))) (by simp [-List.map_take,-List.map_drop,-List.map_append,-List.map_reverse]) (Or.inl (by simp [-List.map_take,-List.map_drop,-List.map_append,-List.map_reverse])) (R_alloc (i:=1) (n:=0) (m:=3) rfl (congrArg Blk.ver rfl) rfl ?_)))))))
 refine R_alloc (i:=2) (n:=0) (m:=3) rfl (congrArg Blk.ver rfl) rfl (R_alloc (i:=3) (n:=0) (m:=3) rfl (congrArg Blk.ver rfl) rfl (R_sk rfl rfl rfl rfl rfl rfl rfl rfl rfl (R_sk rfl rfl rfl rfl rfl rfl rfl rfl rfl (R_sk rfl rfl rfl rfl rfl rfl rfl rfl rfl (R_e (W_d (by exact (lateC rfl lateN)) (R_lk rfl rfl rfl rfl ?_)))))))
 refine R_lk rfl rfl rfl rfl (R_bslice rfl rfl (R_callk (lnode_pure ((5:Int)) ((0:Int)) ([w10_18,w10_16])) (evcons rfl (evcons rfl (evcons (sl_F2 (x:=(w10_18)) (y:=(w10_16)) rfl) evnil))) (R_lk rfl rfl rfl rfl (R_lk rfl rfl rfl rfl (R_lk rfl rfl rfl rfl (R_bslice rfl rfl (R_callk (lnode_pure ((7:Int)) ((0:Int)) ([w10_16])) (evcons rfl (evcons rfl (evcons (sl_F1 (x:=(w10_16)) rfl) evnil))) ?_)))))))
 refine R_bslice rfl rfl (R_callk (lnode_pure ((5:Int)) ((0:Int)) ([w10_13,(Fm.nd (7:Int) (0:Int) [w10_16])])) (evcons rfl (evcons rfl (evcons (sl_F2 (x:=(w10_13)) (y:=((Fm.nd (7:Int) (0:Int) [w10_16]))) rfl) evnil))) (R_bslice rfl rfl (R_callk (lnode_pure ((6:Int)) ((0:Int)) ([(Fm.nd (5:Int) (0:Int) [w10_18,w10_16]),w10_13,(Fm.nd (5:Int) (0:Int) [w10_13,(Fm.nd (7:Int) (0:Int) [w10_16])])])) (evcons rfl (evcons rfl (evcons (sl_F3 (x:=((Fm.nd (5:Int) (0:Int) [w10_18,w10_16]))) (y:=(w10_13)) (z:=((Fm.nd (5:Int) (0:Int) [w10_13,(Fm.nd (7:Int) (0:Int) [w10_16])]))) rfl) evnil))) (R_callk (aw_a) rfl (R_mv rfl (R_ext rfl rfl (R_ext rfl rfl ?_)))))))
 refine R_alloc (i:=4) (n:=0) (m:=3) rfl (congrArg Blk.ver rfl) rfl (R_sk rfl rfl rfl rfl rfl rfl rfl rfl rfl (R_mv rfl (R_e ?_)))
 refine W_seq_dregc (fun T H=>T 1=(V.mp 1 1 0 0)∧T 2=(V.mp 2 1 0 0)∧T 3=(V.mp 3 1 0 0)∧T 4=(V.mp 4 1 0 0)∧T 5=(iV (0:Int))∧T 6=(V.mp 6 1 0 0)∧H 1=w10_8∧H 2=w10_9∧H 3=w10_10∧H 4=w10_6∧H 6=w10_1∧H 7=(⟨0,false,false,0,0,[]⟩:Blk)∧H 8=(⟨0,false,false,0,0,[]⟩:Blk)∧H 10=(⟨0,false,false,0,0,[]⟩:Blk)∧H 12=(⟨0,false,false,0,0,[]⟩:Blk)∧True) (by exact (lateC rfl lateN)) ?_ ?_
 ·
  refine R_callk (lno_pure) rfl (R_lk rfl rfl rfl rfl (R_bslice rfl rfl (R_callk (lnode_pure ((4:Int)) ((0:Int)) ([w10_13])) (evcons rfl (evcons rfl (evcons (sl_F1 (x:=(w10_13)) rfl) evnil))) (R_call (evcons (@rfl V (iV (3:Int))) (evcons (@rfl V (iV (1:Int))) (evcons (@rfl V V.nilsl) evnil))) (lnode_pure ((3:Int)) ((1:Int)) ([])) (mcons (fzv_canon 6 _ (by simp [-List.map_take,-List.map_drop,-List.map_append,-List.map_reverse])) (mcons (fzv_canon 6 _ (by simp [-List.map_take,-List.map_drop,-List.map_append,-List.map_reverse])) (mcons (by rfl) rfl))) (by simp [-List.map_take,-List.map_drop,-List.map_append,-List.map_reverse]) (Or.inl (by simp [-List.map_take,-List.map_drop,-List.map_append,-List.map_reverse])) (R_bslice rfl rfl (R_callk (lnode_pure ((6:Int)) ((0:Int)) ([w10_17,w10_19])) (evcons rfl (evcons rfl (evcons (sl_F2 (x:=(w10_17)) (y:=(w10_19)) rfl) evnil))) (R_bslice rfl rfl ?_)))))))
  refine R_callk (lnode_pure ((10:Int)) ((0:Int)) ([(Fm.nd (4:Int) (0:Int) [Fm.nd 1 0 []]),(Fm.nd (6:Int) (0:Int) [w10_17,w10_19])])) (evcons rfl (evcons rfl (evcons (sl_F2 (x:=((Fm.nd (4:Int) (0:Int) [Fm.nd 1 0 []]))) (y:=((Fm.nd (6:Int) (0:Int) [w10_17,w10_19]))) rfl) evnil))) (R_alloc (i:=6) (n:=0) (m:=3) rfl (congrArg Blk.ver rfl) rfl (R_sk rfl rfl rfl rfl rfl rfl rfl rfl rfl ?_))
  exact R_nil ⟨rfl,rfl,rfl,rfl,rfl,rfl,rfl,rfl,rfl,rfl,rfl,rfl,rfl,rfl,rfl,trivial⟩
 intro T H ⟨t1,t2,t3,t4,t5,t6,h1,h2,h3,h4,h6,h7,h8,h10,h12,_⟩
 refine W_d (by exact (lateC (congrArg Blk.live h7) lateN)) (R_callk (lno_pure) rfl (R_call (evcons (@rfl V (iV (3:Int))) (evcons (@rfl V (iV (1:Int))) (evcons (@rfl V V.nilsl) evnil))) (lnode_pure ((3:Int)) ((1:Int)) ([])) (mcons (fzv_canon 6 _ (by simp [-List.map_take,-List.map_drop,-List.map_append,-List.map_reverse])) (mcons (fzv_canon 6 _ (by simp [-List.map_take,-List.map_drop,-List.map_append,-List.map_reverse])) (mcons (by rfl) rfl))) (by simp [-List.map_take,-List.map_drop,-List.map_append,-List.map_reverse]) (Or.inl (by simp [-List.map_take,-List.map_drop,-List.map_append,-List.map_reverse])) (R_lk t1 h1 rfl rfl (R_bslice rfl rfl (R_callk (lnode_pure ((4:Int)) ((0:Int)) ([w10_13])) (evcons rfl (evcons rfl (evcons (sl_F1 (x:=(w10_13)) rfl) evnil))) (R_bslice rfl rfl (R_callk (lnode_pure ((6:Int)) ((0:Int)) ([w10_19,w10_17])) (evcons rfl (evcons rfl (evcons (sl_F2 (x:=(w10_19)) (y:=(w10_17)) rfl) evnil))) ?_)))))))
 refine R_bslice rfl rfl (R_callk (lnode_pure ((10:Int)) ((0:Int)) w10_2) (evcons rfl (evcons rfl (evcons (sl_F2 (x:=((Fm.nd (4:Int) (0:Int) [Fm.nd 1 0 []]))) (y:=((Fm.nd (6:Int) (0:Int) [w10_19,w10_17]))) rfl) evnil))) (R_alloc (i:=7) (n:=0) (m:=3) rfl (congrArg Blk.ver h7) rfl (R_sk rfl rfl rfl rfl rfl rfl rfl rfl rfl (R_e (W_r (R_lk t6 h6 rfl rfl (R_callk (aw_b) rfl ?_)))))))
 refine R_mv rfl (R_ext rfl rfl (R_ext rfl rfl (R_alloc (i:=8) (n:=0) (m:=3) rfl (congrArg Blk.ver h8) rfl (R_sk rfl rfl rfl rfl rfl rfl rfl rfl rfl (R_mv rfl (R_e (W_r ?_)))))))
 refine R_lk t6 h6 rfl rfl (R_callk (aw_c) rfl (R_mv rfl (R_ext rfl rfl (R_ext rfl rfl (R_alloc (i:=10) (n:=0) (m:=3) rfl (congrArg Blk.ver h10) rfl (R_sk rfl rfl rfl rfl rfl rfl rfl rfl rfl (R_mv rfl ?_)))))))
 refine R_e (W_r (R_lk t6 h6 rfl rfl (R_callk (aw_d) rfl (R_mv rfl (R_ext rfl rfl (R_ext rfl rfl (R_alloc (i:=12) (n:=0) (m:=4) rfl (congrArg Blk.ver h12) rfl ?_)))))))
 refine R_sk rfl rfl rfl rfl rfl rfl rfl rfl rfl (R_mv rfl (R_e ?_))
 refine W_seq_regc (fun T H=>T 1=(V.mp 1 1 0 0)∧T 2=(V.mp 2 1 0 0)∧T 3=(V.mp 3 1 0 0)∧T 4=(V.mp 4 1 0 0)∧T 5=(iV (0:Int))∧T 7=(V.mp 7 1 0 0)∧T 8=(V.mp 8 1 0 0)∧T 9=(iV (0:Int))∧T 10=(V.mp 10 1 0 0)∧T 11=(iV (0:Int))∧T 12=(V.mp 12 1 0 0)∧T 13=(iV (0:Int))∧T 14=(V.bool true)∧T 15=(iV (0:Int))∧H 1=w10_8∧H 2=w10_9∧H 3=w10_10∧H 4=w10_6∧H 6=w10_1∧H 7=w10_11∧H 8=w10_4∧H 10=w10_12∧H 12=w10_5∧True) ?_ ?_
 ·
  refine R_callk (lno_pure) rfl (R_bslice rfl rfl (R_callk (lnode_pure ((9:Int)) ((0:Int)) ([(Fm.nd (4:Int) (0:Int) [Fm.nd 1 0 []])])) (evcons rfl (evcons rfl (evcons (sl_F1 (x:=((Fm.nd (4:Int) (0:Int) [Fm.nd 1 0 []]))) rfl) evnil))) (R_callk (aw_e) rfl (R_mv rfl (R_ext rfl rfl (R_ext rfl rfl (R_mv rfl ?_)))))))
  refine R_mv rfl ?_
  exact R_nil ⟨t1,t2,t3,t4,t5,rfl,rfl,rfl,rfl,rfl,rfl,rfl,rfl,rfl,h1,h2,h3,h4,h6,rfl,rfl,rfl,rfl,trivial⟩
 intro T H ⟨t1,t2,t3,t4,t5,t7,t8,t9,t10,t11,t12,t13,t14,t15,h1,h2,h3,h4,h6,h7,h8,h10,h12,_⟩
 refine W_r (R_lk t3 h3 rfl rfl (R_bslice rfl rfl (R_callk (lnode_pure ((7:Int)) ((0:Int)) ([w10_16])) (evcons rfl (evcons rfl (evcons (sl_F1 (x:=(w10_16)) rfl) evnil))) (R_callk (aw_f) rfl (R_mv rfl (R_ext rfl rfl (R_ext rfl rfl ?_)))))))
 refine R_mv rfl (R_mv rfl (R_e ?_))
 refine W_seq_regc (fun T H=>T 0=(V.bool ((((w10_14||false))&&decide ((0:Int)=(0:Int)))))∧H 1=w10_8∧H 2=w10_9∧H 3=w10_10∧H 4=w10_6∧H 6=w10_1∧H 7=w10_11∧H 8=w10_4∧H 10=w10_12∧H 12=w10_5∧True) ?_ ?_
 ·
  refine R_lk t4 h4 rfl rfl (R_lk t1 h1 rfl rfl (R_lk t2 h2 rfl rfl (R_bslice rfl rfl (R_callk (lnode_pure ((6:Int)) ((0:Int)) ([w10_13,w10_18])) (evcons rfl (evcons rfl (evcons (sl_F2 (x:=(w10_13)) (y:=(w10_18)) rfl) evnil))) (R_callk (rsame_pure (⟨((6:Int)),((0:Int)),([Fm.nd 2 0 [],Fm.nd 2 1 []])⟩:Fm) (⟨((((6:Int)))),((((0:Int)))),(([w10_13,w10_18]))⟩:Fm)) rfl (R_mv rfl ?_))))))
  refine Ops_seg 3 (fun T H=>T 7=(V.mp 7 1 0 0)∧T 8=(V.mp 8 1 0 0)∧T 9=(iV (0:Int))∧T 10=(V.mp 10 1 0 0)∧T 11=(iV (0:Int))∧T 12=(V.mp 12 1 0 0)∧T 13=(iV (0:Int))∧T 14=(V.bool true)∧T 15=(iV (0:Int))∧T 16=(V.bool false)∧T 17=(iV (0:Int))∧T 94=(V.bool ((w10_15&&decide ((0:Int)=(0:Int)))))∧H 1=w10_8∧H 2=w10_9∧H 3=w10_10∧H 4=w10_6∧H 6=w10_1∧H 7=w10_11∧H 8=w10_4∧H 10=w10_12∧H 12=w10_5∧True) ?_ ?_
  ·
   by_cases g1:w10_15=true
   ·
    refine G_yes (ebT g1 rfl) (R_mv t5 (G_yes (ebT g1 rfl) (R_eql rfl rfl (R_pickT (ebT g1 rfl) rfl ?_))))
    exact ⟨t7,t8,t9,t10,t11,t12,t13,t14,t15,rfl,rfl,(bandT g1),h1,h2,h3,h4,h6,h7,h8,h10,h12,trivial⟩
   ·
    refine G_n (ebF g1 rfl) (G_n (ebF g1 rfl) (R_pickF (ebF g1 rfl) rfl ?_))
    exact ⟨t7,t8,t9,t10,t11,t12,t13,t14,t15,rfl,rfl,(bandF g1),h1,h2,h3,h4,h6,h7,h8,h10,h12,trivial⟩
  intro T H ⟨t7,t8,t9,t10,t11,t12,t13,t14,t15,t16,t17,t94,h1,h2,h3,h4,h6,h7,h8,h10,h12,_⟩
  refine R_mv t94 ?_
  refine Ops_seg 4 (fun T H=>T 9=(iV (0:Int))∧T 10=(V.mp 10 1 0 0)∧T 11=(iV (0:Int))∧T 12=(V.mp 12 1 0 0)∧T 13=(iV (0:Int))∧T 14=(V.bool true)∧T 15=(iV (0:Int))∧T 16=(V.bool false)∧T 17=(iV (0:Int))∧T 99=(V.bool w10_7)∧H 1=w10_8∧H 2=w10_9∧H 3=w10_10∧H 4=w10_6∧H 6=w10_1∧H 7=w10_11∧H 8=w10_4∧H 10=w10_12∧H 12=w10_5∧True) ?_ ?_
  ·
   by_cases g2:((w10_15&&decide ((0:Int)=(0:Int))))=true
   ·
    have g2x:=g2
    simp only [Bool.and_eq_true,Bool.or_eq_true,Bool.not_eq_true',decide_eq_true_eq] at g2x
    refine G_yes (ebT g2 rfl) (R_lk t8 h8 rfl rfl (G_yes (ebT g2 rfl) (R_lk t7 h7 rfl rfl (G_yes (ebT g2 rfl) (R_callk (rsame_pure (⟨((10:Int)),((0:Int)),([Fm.nd 4 0 [Fm.nd 1 0 []],Fm.nd 6 0 [Fm.nd 3 1 [],Fm.nd 4 0 [Fm.nd 2 0 []]]])⟩:Fm) (⟨((((10:Int)))),((((0:Int)))),(w10_2)⟩:Fm)) rfl (R_pickT (ebT g2 rfl) rfl ?_))))))
    exact ⟨t9,t10,t11,t12,t13,t14,t15,t16,t17,(bandT g2),h1,h2,h3,h4,h6,h7,h8,h10,h12,trivial⟩
   ·
    have g2x:=g2
    simp only [Bool.and_eq_true,Bool.or_eq_true,Bool.not_eq_true',decide_eq_true_eq] at g2x
    refine G_n (ebF g2 rfl) (G_n (ebF g2 rfl) (G_n (ebF g2 rfl) (R_pickF (ebF g2 rfl) rfl ?_)))
    exact ⟨t9,t10,t11,t12,t13,t14,t15,t16,t17,(bandF g2),h1,h2,h3,h4,h6,h7,h8,h10,h12,trivial⟩
  intro T H ⟨t9,t10,t11,t12,t13,t14,t15,t16,t17,t99,h1,h2,h3,h4,h6,h7,h8,h10,h12,_⟩
  refine R_mv t99 ?_
  refine Ops_seg 3 (fun T H=>T 10=(V.mp 10 1 0 0)∧T 11=(iV (0:Int))∧T 12=(V.mp 12 1 0 0)∧T 13=(iV (0:Int))∧T 14=(V.bool true)∧T 15=(iV (0:Int))∧T 16=(V.bool false)∧T 17=(iV (0:Int))∧T 103=(V.bool ((w10_7&&decide ((0:Int)=(0:Int)))))∧H 1=w10_8∧H 2=w10_9∧H 3=w10_10∧H 4=w10_6∧H 6=w10_1∧H 7=w10_11∧H 8=w10_4∧H 10=w10_12∧H 12=w10_5∧True) ?_ ?_
  ·
   by_cases g3:w10_7=true
   ·
    have g3x:=g3
    simp only [Bool.and_eq_true,Bool.or_eq_true,Bool.not_eq_true',decide_eq_true_eq] at g3x
    refine G_yes (ebT g3 rfl) (R_mv t9 (G_yes (ebT g3 rfl) (R_eql rfl rfl (R_pickT (ebT g3 rfl) rfl ?_))))
    exact ⟨t10,t11,t12,t13,t14,t15,t16,t17,(bandT g3),h1,h2,h3,h4,h6,h7,h8,h10,h12,trivial⟩
   ·
    have g3x:=g3
    simp only [Bool.and_eq_true,Bool.or_eq_true,Bool.not_eq_true',decide_eq_true_eq] at g3x
    refine G_n (ebF g3 rfl) (G_n (ebF g3 rfl) (R_pickF (ebF g3 rfl) rfl ?_))
    exact ⟨t10,t11,t12,t13,t14,t15,t16,t17,(bandF g3),h1,h2,h3,h4,h6,h7,h8,h10,h12,trivial⟩
  intro T H ⟨t10,t11,t12,t13,t14,t15,t16,t17,t103,h1,h2,h3,h4,h6,h7,h8,h10,h12,_⟩
  refine R_mv t103 ?_
  refine Ops_seg 4 (fun T H=>T 11=(iV (0:Int))∧T 12=(V.mp 12 1 0 0)∧T 13=(iV (0:Int))∧T 14=(V.bool true)∧T 15=(iV (0:Int))∧T 16=(V.bool false)∧T 17=(iV (0:Int))∧T 108=(V.bool w10_0)∧H 1=w10_8∧H 2=w10_9∧H 3=w10_10∧H 4=w10_6∧H 6=w10_1∧H 7=w10_11∧H 8=w10_4∧H 10=w10_12∧H 12=w10_5∧True) ?_ ?_
  ·
   by_cases g4:((w10_7&&decide ((0:Int)=(0:Int))))=true
   ·
    have g4x:=g4
    simp only [Bool.and_eq_true,Bool.or_eq_true,Bool.not_eq_true',decide_eq_true_eq] at g4x
    refine G_yes (ebT g4 rfl) (R_lk t10 h10 rfl rfl (G_yes (ebT g4 rfl) (R_callk (lno_pure) rfl (G_yes (ebT g4 rfl) (R_callk (rsame_pure (⟨((4:Int)),((0:Int)),([Fm.nd 1 0 []])⟩:Fm) (⟨((4:Int)),((0:Int)),([Fm.nd 1 0 []])⟩:Fm)) rfl (R_pickT (ebT g4 rfl) rfl ?_))))))
    exact ⟨t11,t12,t13,t14,t15,t16,t17,(bandT g4),h1,h2,h3,h4,h6,h7,h8,h10,h12,trivial⟩
   ·
    have g4x:=g4
    simp only [Bool.and_eq_true,Bool.or_eq_true,Bool.not_eq_true',decide_eq_true_eq] at g4x
    refine G_n (ebF g4 rfl) (G_n (ebF g4 rfl) (G_n (ebF g4 rfl) (R_pickF (ebF g4 rfl) rfl ?_)))
    exact ⟨t11,t12,t13,t14,t15,t16,t17,(bandF g4),h1,h2,h3,h4,h6,h7,h8,h10,h12,trivial⟩
  intro T H ⟨t11,t12,t13,t14,t15,t16,t17,t108,h1,h2,h3,h4,h6,h7,h8,h10,h12,_⟩
  refine R_mv t108 ?_
  refine Ops_seg 3 (fun T H=>T 12=(V.mp 12 1 0 0)∧T 13=(iV (0:Int))∧T 14=(V.bool true)∧T 15=(iV (0:Int))∧T 16=(V.bool false)∧T 17=(iV (0:Int))∧T 112=(V.bool ((w10_0&&decide ((0:Int)=(0:Int)))))∧H 1=w10_8∧H 2=w10_9∧H 3=w10_10∧H 4=w10_6∧H 6=w10_1∧H 7=w10_11∧H 8=w10_4∧H 10=w10_12∧H 12=w10_5∧True) ?_ ?_
  ·
   by_cases g5:w10_0=true
   ·
    have g5x:=g5
    simp only [Bool.and_eq_true,Bool.or_eq_true,Bool.not_eq_true',decide_eq_true_eq] at g5x
    refine G_yes (ebT g5 rfl) (R_mv t11 (G_yes (ebT g5 rfl) (R_eql rfl rfl (R_pickT (ebT g5 rfl) rfl ?_))))
    exact ⟨t12,t13,t14,t15,t16,t17,(bandT g5),h1,h2,h3,h4,h6,h7,h8,h10,h12,trivial⟩
   ·
    have g5x:=g5
    simp only [Bool.and_eq_true,Bool.or_eq_true,Bool.not_eq_true',decide_eq_true_eq] at g5x
    refine G_n (ebF g5 rfl) (G_n (ebF g5 rfl) (R_pickF (ebF g5 rfl) rfl ?_))
    exact ⟨t12,t13,t14,t15,t16,t17,(bandF g5),h1,h2,h3,h4,h6,h7,h8,h10,h12,trivial⟩
  intro T H ⟨t12,t13,t14,t15,t16,t17,t112,h1,h2,h3,h4,h6,h7,h8,h10,h12,_⟩
  refine R_mv t112 ?_
  refine Ops_seg 8 (fun T H=>T 13=(iV (0:Int))∧T 14=(V.bool true)∧T 15=(iV (0:Int))∧T 16=(V.bool false)∧T 17=(iV (0:Int))∧T 121=(V.bool w10_3)∧H 1=w10_8∧H 2=w10_9∧H 3=w10_10∧H 4=w10_6∧H 6=w10_1∧H 7=w10_11∧H 8=w10_4∧H 10=w10_12∧H 12=w10_5∧True) ?_ ?_
  ·
   by_cases g6:((w10_0&&decide ((0:Int)=(0:Int))))=true
   ·
    have g6x:=g6
    simp only [Bool.and_eq_true,Bool.or_eq_true,Bool.not_eq_true',decide_eq_true_eq] at g6x
    refine G_yes (ebT g6 rfl) (R_lk t12 h12 rfl rfl (G_yes (ebT g6 rfl) (R_bslice rfl rfl (G_yes (ebT g6 rfl) (R_bslice rfl rfl (G_yes (ebT g6 rfl) (R_bslice rfl rfl ?_)))))))
    refine G_yes (ebT g6 rfl) (R_bslice rfl rfl (G_yes (ebT g6 rfl) (R_build rfl rfl (G_yes (ebT g6 rfl) (R_callk (dfsame_pure (⟨((6:Int)),((0:Int)),([[1,0,1,0,0,0],[1,1,1,1,1,1]]),([true,false])⟩:Df) (⟨((6:Int)),((0:Int)),([[1,0,1,0,0,0],[1,1,1,1,1,1]]),([true,false])⟩:Df)) rfl (R_pickT (ebT g6 rfl) rfl ?_))))))
    exact ⟨t13,t14,t15,t16,t17,(bandT g6),h1,h2,h3,h4,h6,h7,h8,h10,h12,trivial⟩
   ·
    have g6x:=g6
    simp only [Bool.and_eq_true,Bool.or_eq_true,Bool.not_eq_true',decide_eq_true_eq] at g6x
    refine G_n (ebF g6 rfl) (G_n (ebF g6 rfl) (G_n (ebF g6 rfl) (G_n (ebF g6 rfl) (G_n (ebF g6 rfl) (G_n (ebF g6 rfl) (G_n (ebF g6 rfl) (R_pickF (ebF g6 rfl) rfl ?_)))))))
    exact ⟨t13,t14,t15,t16,t17,(bandF g6),h1,h2,h3,h4,h6,h7,h8,h10,h12,trivial⟩
  intro T H ⟨t13,t14,t15,t16,t17,t121,h1,h2,h3,h4,h6,h7,h8,h10,h12,_⟩
  refine R_mv t121 ?_
  refine Ops_seg 3 (fun T H=>T 14=(V.bool true)∧T 15=(iV (0:Int))∧T 16=(V.bool false)∧T 17=(iV (0:Int))∧T 125=(V.bool ((w10_3&&decide ((0:Int)=(0:Int)))))∧H 1=w10_8∧H 2=w10_9∧H 3=w10_10∧H 4=w10_6∧H 6=w10_1∧H 7=w10_11∧H 8=w10_4∧H 10=w10_12∧H 12=w10_5∧True) ?_ ?_
  ·
   by_cases g7:w10_3=true
   ·
    have g7x:=g7
    simp only [Bool.and_eq_true,Bool.or_eq_true,Bool.not_eq_true',decide_eq_true_eq] at g7x
    refine G_yes (ebT g7 rfl) (R_mv t13 (G_yes (ebT g7 rfl) (R_eql rfl rfl (R_pickT (ebT g7 rfl) rfl ?_))))
    exact ⟨t14,t15,t16,t17,(bandT g7),h1,h2,h3,h4,h6,h7,h8,h10,h12,trivial⟩
   ·
    have g7x:=g7
    simp only [Bool.and_eq_true,Bool.or_eq_true,Bool.not_eq_true',decide_eq_true_eq] at g7x
    refine G_n (ebF g7 rfl) (G_n (ebF g7 rfl) (R_pickF (ebF g7 rfl) rfl ?_))
    exact ⟨t14,t15,t16,t17,(bandF g7),h1,h2,h3,h4,h6,h7,h8,h10,h12,trivial⟩
  intro T H ⟨t14,t15,t16,t17,t125,h1,h2,h3,h4,h6,h7,h8,h10,h12,_⟩
  refine R_mv t125 ?_
  refine Ops_seg 2 (fun T H=>T 15=(iV (0:Int))∧T 16=(V.bool false)∧T 17=(iV (0:Int))∧T 128=(V.bool ((((w10_3&&decide ((0:Int)=(0:Int))))||false)))∧H 1=w10_8∧H 2=w10_9∧H 3=w10_10∧H 4=w10_6∧H 6=w10_1∧H 7=w10_11∧H 8=w10_4∧H 10=w10_12∧H 12=w10_5∧True) ?_ ?_
  ·
   by_cases g8:((w10_3&&decide ((0:Int)=(0:Int))))=true
   ·
    have g8x:=g8
    simp only [Bool.and_eq_true,Bool.or_eq_true,Bool.not_eq_true',decide_eq_true_eq] at g8x
    refine G_yes (ebT g8 rfl) (R_mv t14 (R_pickT (ebT g8 rfl) rfl ?_))
    exact ⟨t15,t16,t17,(borT g8),h1,h2,h3,h4,h6,h7,h8,h10,h12,trivial⟩
   ·
    have g8x:=g8
    simp only [Bool.and_eq_true,Bool.or_eq_true,Bool.not_eq_true',decide_eq_true_eq] at g8x
    refine G_n (ebF g8 rfl) (R_pickF (ebF g8 rfl) rfl ?_)
    exact ⟨t15,t16,t17,(borF g8),h1,h2,h3,h4,h6,h7,h8,h10,h12,trivial⟩
  intro T H ⟨t15,t16,t17,t128,h1,h2,h3,h4,h6,h7,h8,h10,h12,_⟩
  refine R_mv t128 ?_
  refine Ops_seg 3 (fun T H=>T 16=(V.bool false)∧T 17=(iV (0:Int))∧T 132=(V.bool w10_14)∧H 1=w10_8∧H 2=w10_9∧H 3=w10_10∧H 4=w10_6∧H 6=w10_1∧H 7=w10_11∧H 8=w10_4∧H 10=w10_12∧H 12=w10_5∧True) ?_ ?_
  ·
   by_cases g9:((((w10_3&&decide ((0:Int)=(0:Int))))||false))=true
   ·
    have g9x:=g9
    simp only [Bool.and_eq_true,Bool.or_eq_true,Bool.not_eq_true',decide_eq_true_eq] at g9x
    refine G_yes (ebT g9 rfl) (R_mv t15 (G_yes (ebT g9 rfl) (R_eql rfl rfl (R_pickT (ebT g9 rfl) rfl ?_))))
    exact ⟨t16,t17,(bandT g9),h1,h2,h3,h4,h6,h7,h8,h10,h12,trivial⟩
   ·
    have g9x:=g9
    simp only [Bool.and_eq_true,Bool.or_eq_true,Bool.not_eq_true',decide_eq_true_eq] at g9x
    refine G_n (ebF g9 rfl) (G_n (ebF g9 rfl) (R_pickF (ebF g9 rfl) rfl ?_))
    exact ⟨t16,t17,(bandF g9),h1,h2,h3,h4,h6,h7,h8,h10,h12,trivial⟩
  intro T H ⟨t16,t17,t132,h1,h2,h3,h4,h6,h7,h8,h10,h12,_⟩
  refine R_mv t132 ?_
  refine Ops_seg 3 (fun T H=>T 17=(iV (0:Int))∧T 136=(V.bool ((w10_14||false)))∧H 1=w10_8∧H 2=w10_9∧H 3=w10_10∧H 4=w10_6∧H 6=w10_1∧H 7=w10_11∧H 8=w10_4∧H 10=w10_12∧H 12=w10_5∧True) ?_ ?_
  ·
   by_cases g10:w10_14=true
   ·
    have g10x:=g10
    simp only [Bool.and_eq_true,Bool.or_eq_true,Bool.not_eq_true',decide_eq_true_eq] at g10x
    refine G_yes (ebT g10 rfl) (R_mv t16 (G_yes (ebT g10 rfl) (R_notb rfl (R_pickT (ebT g10 rfl) rfl ?_))))
    exact ⟨t17,(borT g10),h1,h2,h3,h4,h6,h7,h8,h10,h12,trivial⟩
   ·
    have g10x:=g10
    simp only [Bool.and_eq_true,Bool.or_eq_true,Bool.not_eq_true',decide_eq_true_eq] at g10x
    refine G_n (ebF g10 rfl) (G_n (ebF g10 rfl) (R_pickF (ebF g10 rfl) rfl ?_))
    exact ⟨t17,(borF g10),h1,h2,h3,h4,h6,h7,h8,h10,h12,trivial⟩
  intro T H ⟨t17,t136,h1,h2,h3,h4,h6,h7,h8,h10,h12,_⟩
  refine R_mv t136 ?_
  refine Ops_seg 3 (fun T H=>T 140=(V.bool ((((w10_14||false))&&decide ((0:Int)=(0:Int)))))∧H 1=w10_8∧H 2=w10_9∧H 3=w10_10∧H 4=w10_6∧H 6=w10_1∧H 7=w10_11∧H 8=w10_4∧H 10=w10_12∧H 12=w10_5∧True) ?_ ?_
  ·
   by_cases g11:((w10_14||false))=true
   ·
    have g11x:=g11
    simp only [Bool.and_eq_true,Bool.or_eq_true,Bool.not_eq_true',decide_eq_true_eq] at g11x
    refine G_yes (ebT g11 rfl) (R_mv t17 (G_yes (ebT g11 rfl) (R_eql rfl rfl (R_pickT (ebT g11 rfl) rfl ?_))))
    exact ⟨(bandT g11),h1,h2,h3,h4,h6,h7,h8,h10,h12,trivial⟩
   ·
    have g11x:=g11
    simp only [Bool.and_eq_true,Bool.or_eq_true,Bool.not_eq_true',decide_eq_true_eq] at g11x
    refine G_n (ebF g11 rfl) (G_n (ebF g11 rfl) (R_pickF (ebF g11 rfl) rfl ?_))
    exact ⟨(bandF g11),h1,h2,h3,h4,h6,h7,h8,h10,h12,trivial⟩
  intro T H ⟨t140,h1,h2,h3,h4,h6,h7,h8,h10,h12,_⟩
  refine R_mv t140 ?_
  exact R_nil ⟨rfl,h1,h2,h3,h4,h6,h7,h8,h10,h12,trivial⟩
 intro T H ⟨t0,h1,h2,h3,h4,h6,h7,h8,h10,h12,_⟩
 refine W_ret ?_
 refine Ret_1 t0 (fz_bool ?_)
 · decide+kernel
end Go.Proofs.YteehaobohaecmaaGreatDoor
namespace Go.Proofs.YteehaobohaecmaaGreatDoor
open Go Go.Proofs
def r19_3:List SO:=[
 qM 25 1,
 qC 26 .lss 25 1,
 qM 27 26,
 ⟨some (27,false),some 28,.mv (.t 1)⟩,
 ⟨some (27,false),some 29,.bin .gtr (.t 28) (.c (.int .i64 64))⟩,
 sO 30 (.pick (.t 27) (.c (.bool true)) (.t 29)),
 qM 31 30,
 ⟨some (31,false),some 32,.mv (.t 2)⟩,
 ⟨some (31,false),some 33,.bin .lss (.t 32) (.c (.int .i64 1))⟩,
 sO 34 (.pick (.t 31) (.c (.bool true)) (.t 33)),
 qM 35 34,
 ⟨some (35,false),some 36,.mv (.t 2)⟩,
 ⟨some (35,false),some 37,.mv (.t 1)⟩,
 ⟨some (35,false),some 38,.bin .quo (.c (.int .i64 1024)) (.t 37)⟩,
 ⟨some (35,false),some 39,.bin .gtr (.t 36) (.t 38)⟩,
 sO 40 (.pick (.t 35) (.c (.bool true)) (.t 39))]
def r19_5:List SO:=[
 qL 43 3 3,
 sO 44 (.call false 12 [.t 43]),
 qM 42 44,
 qE 45 42 0,
 qE 46 42 1,
 sO 8 (.alloc 24 [.int .i64 0,.int .i64 0,.nilsl]),
 sN (.store 3 (.t 8) (.t 45)),
 qM 9 46]
def r19_17:List SO:=[
 qM 71 10,
 qM 72 12,
 qA 73 3 71 72,
 qL 74 3 73,
 qM 75 14,
 qM 76 2,
 qP 77 .quo 75 76,
 qM 78 14,
 qM 79 2,
 qP 80 .rem 78 79,
 sO 81 (.call false 14 [.t 74,.t 77,.t 80]),
 qM 70 81,
 qE 82 70 0,
 qE 83 70 1,
 sO 15 (.alloc 24 [.int .i64 0,.int .i64 0,.nilsl]),
 sN (.store 3 (.t 15) (.t 82)),
 qM 16 83]
def r19_24:List SO:=[
 qM 102 13,
 qM 103 10,
 qL 104 3 15,
 sO 105 (.call false 45 [.t 103,.t 104]),
 sO 106 (.bslice 3 1 false [.int .i64 0] 1 [(0,.t 105)]),
 sO 107 (.append 3 1 8 (.t 102) (.t 106)),
 qM 13 107]
def b19_1:SC:=.seq (.seq (.reg [qM 63 14,qM 64 1,qM 65 2,qP 66 .mul 64 65,qP 67 .lss 63 66]) (.cond (.t 67) (.skip) (.exit 2))) (.seq (.block 3 (.seq (.dreg [15] r19_17) (.seq (.seq (.reg [qM 84 16,qC 85 .neq 84 0]) (.cond (.t 85) (.seq (.reg [sO 86 (.build [.int .i64 0,.int .i64 0,.nilsl,.nilsl] []),qM 87 16,sN (.store 4 (.t 6) (.t 86)),qM 7 87]) (.ret)) (.skip))) (.seq (.seq (.reg [qM 88 10,qL 89 3 15,sO 90 (.call false 45 [.t 88,.t 89]),qM 91 10,qN 92 91,qP 93 .eql 90 92]) (.cond (.t 93) (.reg [qM 94 10,qL 95 3 15,sO 96 (.bslice 24 3 false [.int .i64 0,.int .i64 0,.nilsl] 1 [(0,.t 95)]),sO 97 (.append 24 3 40 (.t 94) (.t 96)),qM 10 97]) (.skip))) (.seq (.seq (.reg [qM 98 10,qN 99 98,qC 100 .gtr 99 128]) (.cond (.t 100) (.seq (.reg [sO 101 (.build [.int .i64 0,.int .i64 0,.nilsl,.nilsl] []),sN (.store 4 (.t 6) (.t 101)),qI 7 11]) (.ret)) (.skip))) (.reg r19_24)))))) (.reg [qM 68 14,qC 69 .add 68 1,qM 14 69]))
def r19_25:List SO:=[
 qM 109 10,
 qM 110 12,
 qA 111 3 109 110,
 qL 112 3 111,
 sO 113 (.call false 16 [.t 112]),
 qM 108 113,
 qE 114 108 0,
 qE 115 108 1,
 qM 17 114,
 qM 18 115]
def r19_26:List SO:=[
 qF 116 2 11,
 ql 117 116,
 qM 118 13,
 sO 119 (.bslice 52 1 false [.nilsl] 1 [(0,.t 118)]),
 sO 120 (.append 52 1 24 (.t 117) (.t 119)),
 qF 121 2 11,
 sN (.store 1 (.t 121) (.t 120))]
def r19_27:List SO:=[
 qF 122 3 11,
 ql 123 122,
 qM 124 17,
 sO 125 (.bslice 4 1 false [.bool false] 1 [(0,.t 124)]),
 sO 126 (.append 4 1 1 (.t 123) (.t 125)),
 qF 127 3 11,
 sN (.store 1 (.t 127) (.t 126))]
def b19_0:SC:=.seq (.seq (.reg [qM 57 12,qM 58 10,qN 59 58,qP 60 .lss 57 59]) (.cond (.t 60) (.skip) (.exit 0))) (.seq (.block 1 (.seq (.reg [sO 13 (.lazy 3 1)]) (.seq (.seq (.reg [qI 14 0]) (.block 2 (.loop b19_1))) (.seq (.reg r19_25) (.seq (.reg r19_26) (.reg r19_27)))))) (.reg [qM 61 12,qC 62 .add 61 1,qM 12 62]))
def s19:SF:=⟨129,[.cell 6 true 4,.tmp 7],.seq (.reg [sO 3 (.box 24 3 (.t 0)),sO 6 (.alloc 43 [.int .i64 0,.int .i64 0,.nilsl,.nilsl]),qI 7 0]) (.seq (.seq (.reg [qL 19 3 3,sO 20 (.call false 28 [.t 19]),qC 21 .neq 20 0]) (.cond (.t 21) (.seq (.reg [sO 22 (.build [.int .i64 0,.int .i64 0,.nilsl,.nilsl] []),qL 23 3 3,sO 24 (.call false 28 [.t 23]),sN (.store 4 (.t 6) (.t 22)),qM 7 24]) (.ret)) (.skip))) (.seq (.seq (.reg r19_3) (.cond (.t 40) (.seq (.reg [sO 41 (.build [.int .i64 0,.int .i64 0,.nilsl,.nilsl] []),sN (.store 4 (.t 6) (.t 41)),qI 7 2]) (.ret)) (.skip))) (.seq (.reg r19_5) (.seq (.seq (.reg [qM 47 9,qC 48 .neq 47 0]) (.cond (.t 48) (.seq (.reg [sO 49 (.build [.int .i64 0,.int .i64 0,.nilsl,.nilsl] []),qM 50 9,sN (.store 4 (.t 6) (.t 49)),qM 7 50]) (.ret)) (.skip))) (.seq (.reg [qL 51 3 8,sO 52 (.bslice 24 3 true [.int .i64 0,.int .i64 0,.nilsl] 1 [(0,.t 51)]),qM 10 52]) (.seq (.reg [qM 53 1,qM 54 2,qP 55 .mul 53 54,sO 56 (.build [.int .i64 0,.int .i64 0,.nilsl,.nilsl] [(0,1,.t 55)]),sO 11 (.alloc 43 [.int .i64 0,.int .i64 0,.nilsl,.nilsl]),sN (.store 4 (.t 11) (.t 56))]) (.seq (.seq (.reg [qI 12 0]) (.block 0 (.loop b19_0))) (.seq (.reg [qL 128 4 11,sN (.store 4 (.t 6) (.t 128)),qI 7 0]) (.ret)))))))))⟩
theorem s19_ok:slimF Tryz.prog ⟨[59,84,90,97,109,153,154,155,160],[13,52],[],[]⟩ Tryz.f19=some s19:=by kernel_rfl
def r12_3:List SO:=[
 qL 10 3 1,
 sO 11 (.call false 39 [.t 10,.c (.bool false)]),
 sO 12 (.call false 38 [.t 11]),
 qE 13 12 0,
 qE 14 12 1,
 sN (.store 3 (.t 2) (.t 13)),
 qM 3 14]
def s12:SF:=⟨15,[.cell 2 true 3,.tmp 3],.seq (.reg [sO 1 (.box 24 3 (.t 0)),sO 2 (.alloc 24 [.int .i64 0,.int .i64 0,.nilsl]),qI 3 0]) (.seq (.seq (.reg [qL 4 3 1,sO 5 (.call false 28 [.t 4]),qC 6 .neq 5 0]) (.cond (.t 6) (.seq (.reg [sO 7 (.build [.int .i64 0,.int .i64 0,.nilsl] []),qL 8 3 1,sO 9 (.call false 28 [.t 8]),sN (.store 3 (.t 2) (.t 7)),qM 3 9]) (.ret)) (.skip))) (.seq (.reg r12_3) (.ret)))⟩
theorem s12_ok:slimF Tryz.prog ⟨[59,84,90,97,109,153,154,155,160],[],[],[]⟩ Tryz.f12=some s12:=by kernel_rfl
def r28_1:List SO:=[
 qL 6 3 1,
 sO 7 (.call false 55 [.t 6,.c (.int .i64 1),.c (.int .i64 0)]),
 qM 5 7,
 qE 8 5 0,
 qE 9 5 1,
 qM 3 8,
 qM 4 9]
def s28:SF:=⟨11,[.tmp 2],.seq (.reg [sO 1 (.box 24 3 (.t 0)),qI 2 0]) (.seq (.reg r28_1) (.seq (.reg [qM 10 4,qM 2 10]) (.ret)))⟩
theorem s28_ok:slimF Tryz.prog ⟨[59,84,90,97,109,153,154,155,160],[],[],[]⟩ Tryz.f28=some s28:=by kernel_rfl
def r55_11:List SO:=[
 qF 37 2 3,
 ql 38 37,
 qM 39 9,
 qA 40 3 38 39,
 qL 41 3 40,
 qM 42 1,
 qC 43 .add 42 1,
 qM 44 8,
 sO 45 (.call false 55 [.t 41,.t 43,.t 44]),
 qM 36 45,
 qE 46 36 0,
 qE 47 36 1,
 qM 10 46,
 qM 11 47]
def b55_0:SC:=.seq (.seq (.reg [qM 29 9,qF 30 2 3,ql 31 30,qN 32 31,qP 33 .lss 29 32]) (.cond (.t 33) (.skip) (.exit 1))) (.seq (.block 2 (.seq (.reg r55_11) (.seq (.seq (.reg [qM 48 11,qC 49 .neq 48 0]) (.cond (.t 49) (.seq (.reg [qM 50 10,qM 51 11,qM 6 50,qM 7 51]) (.ret)) (.skip))) (.reg [qM 52 10,qM 8 52])))) (.reg [qM 34 9,qC 35 .add 34 1,qM 9 35]))
def s55:SF:=⟨54,[.tmp 6,.tmp 7],.seq (.reg [sO 3 (.box 24 3 (.t 0)),qI 6 0,qI 7 0]) (.seq (.reg [qM 12 2,qC 13 .add 12 1,qM 8 13]) (.seq (.block 0 (.seq (.reg [qM 15 8,qC 16 .gtr 15 4096,qM 14 16]) (.cond (.t 14) (.seq (.reg [qM 17 8,qM 6 17,qI 7 11]) (.ret)) (.seq (.reg [qM 19 1,qC 20 .gtr 19 64,qM 18 20]) (.cond (.t 18) (.seq (.reg [qM 21 8,qM 6 21,qI 7 16]) (.ret)) (.seq (.reg [qL 23 3 3,sO 24 (.call false 79 [.t 23]),qC 25 .neq 24 0,qM 22 25]) (.cond (.t 22) (.seq (.reg [qM 26 8,qL 27 3 3,sO 28 (.call false 79 [.t 27]),qM 6 26,qM 7 28]) (.ret)) (.skip)))))))) (.seq (.seq (.reg [qI 9 0]) (.block 1 (.loop b55_0))) (.seq (.reg [qM 53 8,qM 6 53,qI 7 0]) (.ret)))))⟩
theorem s55_ok:slimF Tryz.prog ⟨[59,84,90,97,109,153,154,155,160],[],[],[]⟩ Tryz.f55=some s55:=by kernel_rfl
def r79_18:List SO:=[
 qF 33 0 1,
 ql 34 33,
 qC 35 .eql 34 2,
 qM 36 35,
 ⟨some (36,false),some 37,.fld 0 (.t 1)⟩,
 ⟨some (36,false),some 38,.load false 1 (.t 37)⟩,
 ⟨some (36,false),some 39,.bin .eql (.t 38) (.c (.int .i64 3))⟩,
 sO 40 (.pick (.t 36) (.c (.bool true)) (.t 39)),
 qM 5 40]
def r79_19:List SO:=[
 qM 42 4,
 sO 43 (.un .not (.t 42)),
 qM 44 43,
 ⟨some (44,false),some 45,.mv (.t 5)⟩,
 ⟨some (44,false),some 46,.un .not (.t 45)⟩,
 ⟨some (44,false),some 47,.mv (.t 46)⟩,
 ⟨some (47,true),some 48,.fld 1 (.t 1)⟩,
 ⟨some (47,true),some 49,.load false 1 (.t 48)⟩,
 ⟨some (47,true),some 50,.bin .neq (.t 49) (.c (.int .i64 0))⟩,
 ⟨some (44,false),some 51,.pick (.t 47) (.t 50) (.c (.bool false))⟩,
 sO 52 (.pick (.t 44) (.c (.bool true)) (.t 51)),
 qM 41 52]
def r79_21:List SO:=[
 qF 54 0 1,
 ql 55 54,
 qC 56 .eql 55 2,
 qM 57 56,
 ⟨some (57,true),some 58,.fld 1 (.t 1)⟩,
 ⟨some (57,true),some 59,.load false 1 (.t 58)⟩,
 ⟨some (57,true),some 60,.bin .lss (.t 59) (.c (.int .i64 0))⟩,
 ⟨some (57,true),some 61,.mv (.t 60)⟩,
 ⟨some (61,false),some 62,.fld 1 (.t 1)⟩,
 ⟨some (61,false),some 63,.load false 1 (.t 62)⟩,
 ⟨some (61,false),some 64,.bin .geq (.t 63) (.c (.int .i64 64))⟩,
 ⟨some (57,true),some 65,.pick (.t 61) (.c (.bool true)) (.t 64)⟩,
 sO 66 (.pick (.t 57) (.t 65) (.c (.bool false))),
 qM 53 66]
def r79_22:List SO:=[
 qF 67 0 1,
 ql 68 67,
 qC 69 .eql 68 3,
 qM 70 69,
 ⟨some (70,true),some 71,.fld 1 (.t 1)⟩,
 ⟨some (70,true),some 72,.load false 1 (.t 71)⟩,
 ⟨some (70,true),some 73,.bin .lss (.t 72) (.c (.int .i64 0))⟩,
 ⟨some (70,true),some 74,.mv (.t 73)⟩,
 ⟨some (74,false),some 75,.fld 1 (.t 1)⟩,
 ⟨some (74,false),some 76,.load false 1 (.t 75)⟩,
 ⟨some (74,false),some 77,.bin .gtr (.t 76) (.c (.int .i64 1048576))⟩,
 ⟨some (70,true),some 78,.pick (.t 74) (.c (.bool true)) (.t 77)⟩,
 sO 79 (.pick (.t 70) (.t 78) (.c (.bool false))),
 qM 53 79]
def s79:SF:=⟨80,[.tmp 2],.seq (.reg [sO 1 (.box 24 3 (.t 0)),qI 2 0]) (.seq (.reg [qF 6 2 1,ql 7 6,qN 8 7,qM 3 8]) (.seq (.reg [sO 4 (.mv (.c (.bool false)))]) (.seq (.seq (.reg [qF 9 0 1,ql 10 9]) (.block 0 (.seq (.seq (.reg [qC 12 .eql 10 1,qM 11 12]) (.cond (.t 11) (.skip) (.seq (.reg [qC 13 .eql 10 2,qM 11 13]) (.cond (.t 11) (.skip) (.reg [qC 14 .eql 10 3,qM 11 14]))))) (.cond (.t 11) (.reg [qM 15 3,qC 16 .eql 15 0,qM 4 16]) (.seq (.seq (.reg [qC 18 .eql 10 4,qM 17 18]) (.cond (.t 17) (.skip) (.seq (.reg [qC 19 .eql 10 7,qM 17 19]) (.cond (.t 17) (.skip) (.reg [qC 20 .eql 10 9,qM 17 20]))))) (.cond (.t 17) (.reg [qM 21 3,qC 22 .eql 21 1,qM 4 22]) (.seq (.seq (.reg [qC 24 .eql 10 5,qM 23 24]) (.cond (.t 23) (.skip) (.reg [qC 25 .eql 10 6,qM 23 25]))) (.cond (.t 23) (.reg [qM 26 3,qC 27 .geq 26 2,qM 4 27]) (.seq (.seq (.reg [qC 29 .eql 10 8,qM 28 29]) (.cond (.t 28) (.skip) (.reg [qC 30 .eql 10 10,qM 28 30]))) (.cond (.t 28) (.reg [qM 31 3,qC 32 .eql 31 2,qM 4 32]) (.skip))))))))))) (.seq (.reg r79_18) (.seq (.block 1 (.seq (.reg r79_19) (.cond (.t 41) (.seq (.reg [qI 2 1]) (.ret)) (.seq (.seq (.reg r79_21) (.cond (.t 53) (.skip) (.reg r79_22))) (.cond (.t 53) (.seq (.reg [qI 2 2]) (.ret)) (.skip)))))) (.seq (.reg [qI 2 0]) (.ret)))))))⟩
theorem s79_ok:slimF Tryz.prog ⟨[59,84,90,97,109,153,154,155,160],[],[],[]⟩ Tryz.f79=some s79:=by kernel_rfl
end Go.Proofs.YteehaobohaecmaaGreatDoor
namespace Go.Proofs.YteehaobohaecmaaGreatDoor
open Go
def kokB (f:Fm):Bool:=if f.op=1∨f.op=2∨f.op=3 then decide ((f.kids.length:Int)=0) else if f.op=4∨f.op=7∨f.op=9 then decide ((f.kids.length:Int)=1) else if f.op=5∨f.op=6 then decide (2≤(f.kids.length:Int)) else if f.op=8∨f.op=10 then decide ((f.kids.length:Int)=2) else false
section
variable {f:Fm}
theorem kok_1 (h:f.op=1∨f.op=2∨f.op=3):kokB f=decide ((f.kids.length:Int)=0):=if_pos h
theorem kok_4 (h:f.op=4∨f.op=7∨f.op=9):kokB f=decide ((f.kids.length:Int)=1):=by unfold kokB; rw [if_neg (by omega),if_pos h]
theorem kok_5 (h:f.op=5∨f.op=6):kokB f=decide (2≤(f.kids.length:Int)):=by unfold kokB; rw [if_neg (by omega),if_neg (by omega),if_pos h]
theorem kok_8 (h:f.op=8∨f.op=10):kokB f=decide ((f.kids.length:Int)=2):=by unfold kokB; rw [if_neg (by omega),if_neg (by omega),if_neg (by omega),if_pos h]
theorem kok_n (h: ¬(1≤f.op∧f.op≤10)):kokB f=false:=by unfold kokB; rw [if_neg (by omega),if_neg (by omega),if_neg (by omega),if_neg (by omega)]
theorem kok_iff:kokB f=true↔ ¬(f.op < 1∨10 < f.op∨(f.kids.length:Int) < kLo f.op∨(0≤kHi f.op∧kHi f.op < f.kids.length)):=by
  by_cases h:1≤f.op∧f.op≤10
  · have hc:(f.op=1∨f.op=2∨f.op=3)∨(f.op=4∨f.op=7∨f.op=9)∨(f.op=5∨f.op=6)∨(f.op=8∨f.op=10):=by omega
    rcases hc with q|q|q|q
    · rw [kok_1 q,decide_eq_true_eq]; simp only [kLo,kHi]; repeat (first|omega|split)
    · rw [kok_4 q,decide_eq_true_eq]; simp only [kLo,kHi]; repeat (first|omega|split)
    · rw [kok_5 q,decide_eq_true_eq]; simp only [kLo,kHi]; repeat (first|omega|split)
    · rw [kok_8 q,decide_eq_true_eq]; simp only [kLo,kHi]; repeat (first|omega|split)
  · rw [kok_n h]
    constructor
    · intro e; cases e
    · intro e; exact absurd (by omega) e
theorem rgt_k1 (h:kokB f=false∨(¬(f.op=2∨f.op=3)∧f.arg≠0)):rgt f=1:=by
  unfold rgt
  rw [if_pos]
  rcases h with h|h
  · have: ¬kokB f=true:=by rw [h]; decide
    rw [kok_iff] at this
    have:=Decidable.of_not_not this
    omega
  · omega
theorem rgt_k2 (h: ¬(kokB f=false∨(¬(f.op=2∨f.op=3)∧f.arg≠0))):rgt f=if (f.op=2∧(f.arg < 0∨64≤f.arg))∨(f.op=3∧(f.arg < 0∨1048576 < f.arg)) then 2 else 0:=by
  unfold rgt
  rw [if_neg]
  have h1:kokB f=true:=by
    cases q:kokB f with
    |true=>rfl
    |false=>exact absurd (.inl q) h
  have:=kok_iff.1 h1
  have h2: ¬(¬(f.op=2∨f.op=3)∧f.arg≠0):=fun e=>h (.inr e)
  omega
end
end Go.Proofs.YteehaobohaecmaaGreatDoor
namespace Go.Proofs.YteehaobohaecmaaGreatDoor
open Go Go.Proofs
theorem rright_pure (f:Fm):PureC Tryz.prog 79 [(V.agg [(iV (f.op)),(iV (f.arg)),(V.sl (List.map cF (f.kids)))])] (iV (rgt f)):=by
 refine pW Tryz.func79 s79_ok fun hB=>?_
 unfold s79
 dsimp only
 refine W_r (R_box (i:=1) (n:=0) (m:=3) (cs:=[(iV (f.op)),(iV (f.arg)),(V.sl (List.map cF (f.kids)))]) rfl (congrArg Blk.ver rfl) rfl rfl rfl (R_mv rfl (R_e (W_r (R_fk rfl rfl (R_lk rfl rfl rfl rfl (R_len rfl ?_)))))))
 refine R_mv rfl (R_e (W_r (R_mv rfl (R_e (W_seq_seq (W_r (R_fk rfl rfl ?_)))))))
 refine R_lk rfl rfl rfl rfl (R_e ?_)
 refine W_seq_blockJ (fun T H=>T 1=(V.mp 1 1 0 0)∧T 4=(V.bool (kokB f))∧H 1=(bk 1 24 3 [[(iV (f.op)),(iV (f.arg)),(V.sl (List.map cF (f.kids)))]])∧True) (fun Q1 n1 x1 y1 z1=>?_) ?_
 ·
  refine W_seq_seq (W_r (R_eql rfl rfl (R_mv rfl (R_e ?_))))
  refine W_seq_if rfl (fun c2=>?_) fun c2=>?_
  ·
   refine W_seq_skip ?_
   refine W_if rfl (fun c3=>?_) fun c3=>?_
   ·
    refine W_t (R_mv rfl (R_eql rfl rfl (R_mv rfl (R_e ?_))))
    exact n1 _ _ ⟨rfl,(Eq.trans (@rfl V (V.bool (decide (((f.kids.length:Nat):Int)=(0:Int))))) (by first|rfl|(rw [kok_1 (by omega)]; done)|(rw [kok_4 (by omega)]; done)|(rw [kok_5 (by omega)]; done)|(rw [kok_8 (by omega)]; done)|(rw [kok_n (by omega)]; done)|simp)),rfl,trivial⟩
   · exact (c3 c2).elim
  refine W_seq_seq (W_r (R_eql rfl rfl (R_mv rfl (R_e ?_))))
  refine W_seq_if rfl (fun c4=>?_) fun c4=>?_
  ·
   refine W_seq_skip ?_
   refine W_if rfl (fun c5=>?_) fun c5=>?_
   ·
    refine W_t (R_mv rfl (R_eql rfl rfl (R_mv rfl (R_e ?_))))
    exact n1 _ _ ⟨rfl,(Eq.trans (@rfl V (V.bool (decide (((f.kids.length:Nat):Int)=(0:Int))))) (by first|rfl|(rw [kok_1 (by omega)]; done)|(rw [kok_4 (by omega)]; done)|(rw [kok_5 (by omega)]; done)|(rw [kok_8 (by omega)]; done)|(rw [kok_n (by omega)]; done)|simp)),rfl,trivial⟩
   · exact (c5 c4).elim
  refine W_r (R_eql rfl rfl (R_mv rfl (R_e ?_)))
  refine W_if rfl (fun c6=>?_) fun c6=>?_
  ·
   refine W_t (R_mv rfl (R_eql rfl rfl (R_mv rfl (R_e ?_))))
   exact n1 _ _ ⟨rfl,(Eq.trans (@rfl V (V.bool (decide (((f.kids.length:Nat):Int)=(0:Int))))) (by first|rfl|(rw [kok_1 (by omega)]; done)|(rw [kok_4 (by omega)]; done)|(rw [kok_5 (by omega)]; done)|(rw [kok_8 (by omega)]; done)|(rw [kok_n (by omega)]; done)|simp)),rfl,trivial⟩
  refine W_seq_seq (W_r (R_eql rfl rfl (R_mv rfl (R_e ?_))))
  refine W_seq_if rfl (fun c7=>?_) fun c7=>?_
  ·
   refine W_seq_skip ?_
   refine W_if rfl (fun c8=>?_) fun c8=>?_
   ·
    refine W_t (R_mv rfl (R_eql rfl rfl (R_mv rfl (R_e ?_))))
    exact n1 _ _ ⟨rfl,(Eq.trans (@rfl V (V.bool (decide (((f.kids.length:Nat):Int)=(1:Int))))) (by first|rfl|(rw [kok_1 (by omega)]; done)|(rw [kok_4 (by omega)]; done)|(rw [kok_5 (by omega)]; done)|(rw [kok_8 (by omega)]; done)|(rw [kok_n (by omega)]; done)|simp)),rfl,trivial⟩
   · exact (c8 c7).elim
  refine W_seq_seq (W_r (R_eql rfl rfl (R_mv rfl (R_e ?_))))
  refine W_seq_if rfl (fun c9=>?_) fun c9=>?_
  ·
   refine W_seq_skip ?_
   refine W_if rfl (fun c10=>?_) fun c10=>?_
   ·
    refine W_t (R_mv rfl (R_eql rfl rfl (R_mv rfl (R_e ?_))))
    exact n1 _ _ ⟨rfl,(Eq.trans (@rfl V (V.bool (decide (((f.kids.length:Nat):Int)=(1:Int))))) (by first|rfl|(rw [kok_1 (by omega)]; done)|(rw [kok_4 (by omega)]; done)|(rw [kok_5 (by omega)]; done)|(rw [kok_8 (by omega)]; done)|(rw [kok_n (by omega)]; done)|simp)),rfl,trivial⟩
   · exact (c10 c9).elim
  refine W_r (R_eql rfl rfl (R_mv rfl (R_e ?_)))
  refine W_if rfl (fun c11=>?_) fun c11=>?_
  ·
   refine W_t (R_mv rfl (R_eql rfl rfl (R_mv rfl (R_e ?_))))
   exact n1 _ _ ⟨rfl,(Eq.trans (@rfl V (V.bool (decide (((f.kids.length:Nat):Int)=(1:Int))))) (by first|rfl|(rw [kok_1 (by omega)]; done)|(rw [kok_4 (by omega)]; done)|(rw [kok_5 (by omega)]; done)|(rw [kok_8 (by omega)]; done)|(rw [kok_n (by omega)]; done)|simp)),rfl,trivial⟩
  refine W_seq_seq (W_r (R_eql rfl rfl (R_mv rfl (R_e ?_))))
  refine W_seq_if rfl (fun c12=>?_) fun c12=>?_
  ·
   refine W_seq_skip ?_
   refine W_if rfl (fun c13=>?_) fun c13=>?_
   ·
    refine W_t (R_mv rfl (R_geq rfl rfl (R_mv rfl (R_e ?_))))
    exact n1 _ _ ⟨rfl,(Eq.trans (@rfl V (V.bool (decide ((2:Int)≤((f.kids.length:Nat):Int))))) (by first|rfl|(rw [kok_1 (by omega)]; done)|(rw [kok_4 (by omega)]; done)|(rw [kok_5 (by omega)]; done)|(rw [kok_8 (by omega)]; done)|(rw [kok_n (by omega)]; done)|simp)),rfl,trivial⟩
   · exact (c13 c12).elim
  refine W_r (R_eql rfl rfl (R_mv rfl (R_e ?_)))
  refine W_if rfl (fun c14=>?_) fun c14=>?_
  ·
   refine W_t (R_mv rfl (R_geq rfl rfl (R_mv rfl (R_e ?_))))
   exact n1 _ _ ⟨rfl,(Eq.trans (@rfl V (V.bool (decide ((2:Int)≤((f.kids.length:Nat):Int))))) (by first|rfl|(rw [kok_1 (by omega)]; done)|(rw [kok_4 (by omega)]; done)|(rw [kok_5 (by omega)]; done)|(rw [kok_8 (by omega)]; done)|(rw [kok_n (by omega)]; done)|simp)),rfl,trivial⟩
  refine W_seq_seq (W_r (R_eql rfl rfl (R_mv rfl (R_e ?_))))
  refine W_seq_if rfl (fun c15=>?_) fun c15=>?_
  ·
   refine W_seq_skip ?_
   refine W_if rfl (fun c16=>?_) fun c16=>?_
   ·
    refine W_t (R_mv rfl (R_eql rfl rfl (R_mv rfl (R_e ?_))))
    exact n1 _ _ ⟨rfl,(Eq.trans (@rfl V (V.bool (decide (((f.kids.length:Nat):Int)=(2:Int))))) (by first|rfl|(rw [kok_1 (by omega)]; done)|(rw [kok_4 (by omega)]; done)|(rw [kok_5 (by omega)]; done)|(rw [kok_8 (by omega)]; done)|(rw [kok_n (by omega)]; done)|simp)),rfl,trivial⟩
   · exact (c16 c15).elim
  refine W_r (R_eql rfl rfl (R_mv rfl (R_e ?_)))
  refine W_if rfl (fun c17=>?_) fun c17=>?_
  ·
   refine W_t (R_mv rfl (R_eql rfl rfl (R_mv rfl (R_e ?_))))
   exact n1 _ _ ⟨rfl,(Eq.trans (@rfl V (V.bool (decide (((f.kids.length:Nat):Int)=(2:Int))))) (by first|rfl|(rw [kok_1 (by omega)]; done)|(rw [kok_4 (by omega)]; done)|(rw [kok_5 (by omega)]; done)|(rw [kok_8 (by omega)]; done)|(rw [kok_n (by omega)]; done)|simp)),rfl,trivial⟩
  refine W_skip ?_
  exact n1 _ _ ⟨rfl,(Eq.trans (@rfl V (V.bool false)) (by first|rfl|(rw [kok_1 (by omega)]; done)|(rw [kok_4 (by omega)]; done)|(rw [kok_5 (by omega)]; done)|(rw [kok_8 (by omega)]; done)|(rw [kok_n (by omega)]; done)|simp)),rfl,trivial⟩
 intro T H ⟨t1,t4,h1,_⟩
 refine W_r (R_fk t1 h1 (R_lk rfl h1 rfl rfl (R_eql rfl rfl (R_mv rfl ?_))))
 refine Ops_seg 4 (fun T H=>T 1=(V.mp 1 1 0 0)∧T 4=(V.bool (kokB f))∧T 40=(V.bool (decide (((f.op)=(2:Int))∨((f.op)=(3:Int)))))∧H 1=(bk 1 24 3 [[(iV (f.op)),(iV (f.arg)),(V.sl (List.map cF (f.kids)))]])∧True) ?_ ?_
 ·
  by_cases g18:(f.op)=(2:Int)
  ·
   refine G_n (edT g18 rfl) (G_n (edT g18 rfl) (G_n (edT g18 rfl) (R_pickT (edT g18 rfl) rfl ?_)))
   exact ⟨t1,t4,(dec_orT g18),h1,trivial⟩
  ·
   refine G_yes (edF g18 rfl) (R_fk t1 h1 (G_yes (edF g18 rfl) (R_lk rfl h1 rfl rfl (G_yes (edF g18 rfl) (R_eql rfl rfl (R_pickF (edF g18 rfl) rfl ?_))))))
   exact ⟨t1,t4,(dec_orF g18),h1,trivial⟩
 intro T H ⟨t1,t4,t40,h1,_⟩
 refine R_mv t40 (R_e (W_seq_blockg fun Q19 n19 x19 y19 z19=>(W_r (R_mv t4 (R_notb rfl (R_mv rfl ?_))))))
 refine Ops_seg 8 (fun T H=>T 1=(V.mp 1 1 0 0)∧T 52=(V.bool ((((!kokB f))||decide ((¬(((f.op)=(2:Int))∨((f.op)=(3:Int))))∧((f.arg)≠(0:Int))))))∧H 1=(bk 1 24 3 [[(iV (f.op)),(iV (f.arg)),(V.sl (List.map cF (f.kids)))]])∧True) ?_ ?_
 ·
  by_cases g20:((!kokB f))=true
  ·
   refine G_n (ebT g20 rfl) (G_n (ebT g20 rfl) (G_n (ebT g20 rfl) (G_raw (@rfl V (V.raw undef)) (G_raw (@rfl V (V.raw undef)) (G_raw (@rfl V (V.raw undef)) (G_n (ebT g20 rfl) (R_pickT (ebT g20 rfl) rfl ?_)))))))
   exact ⟨t1,(borT g20),h1,trivial⟩
  ·
   refine G_yes (ebF g20 rfl) (R_mv rfl (G_yes (ebF g20 rfl) (R_not rfl (G_yes (ebF g20 rfl) (R_mv rfl ?_)))))
   refine Ops_seg 4 (fun T H=>T 1=(V.mp 1 1 0 0)∧T 44=(V.bool false)∧T 51=(V.bool (decide ((¬(((f.op)=(2:Int))∨((f.op)=(3:Int))))∧((f.arg)≠(0:Int)))))∧H 1=(bk 1 24 3 [[(iV (f.op)),(iV (f.arg)),(V.sl (List.map cF (f.kids)))]])∧True) ?_ ?_
   ·
    by_cases g21: ¬(((f.op)=(2:Int))∨((f.op)=(3:Int)))
    ·
     refine G_yes (edT g21 rfl) (R_fk t1 h1 (G_yes (edT g21 rfl) (R_lk rfl h1 rfl rfl (G_yes (edT g21 rfl) (R_neq rfl rfl (G_yes (ebF g20 rfl) (R_pickT (edT g21 rfl) rfl ?_)))))))
     exact ⟨t1,(ebF g20 rfl),(dec_andT g21),h1,trivial⟩
    ·
     refine G_n (edF g21 rfl) (G_n (edF g21 rfl) (G_n (edF g21 rfl) (G_yes (ebF g20 rfl) (R_pickF (edF g21 rfl) rfl ?_))))
     exact ⟨t1,(ebF g20 rfl),(dec_andF g21),h1,trivial⟩
   intro T H ⟨t1,t44,t51,h1,_⟩
   refine R_pickF t44 t51 ?_
   exact ⟨t1,(borF g20),h1,trivial⟩
 intro T H ⟨t1,t52,h1,_⟩
 refine R_mv t52 (R_e ?_)
 refine W_ifb rfl (fun c22=>?_) (fun c22=>?_)
 ·
  have d1:=rgt_k1 (f:=f) (by simpa using c22)
  refine W_r (R_mv rfl (R_e (W_ret (y19 _ _ ?_))))
  refine Ret_1 (@rfl V (iV (1:Int))) (fz_int ?_)
  · exact d1.symm
 have d1:=rgt_k2 (f:=f) (by simpa using c22)
 refine W_seq_seq (W_r (R_fk t1 h1 (R_lk rfl h1 rfl rfl (R_eql rfl rfl (R_mv rfl ?_)))))
 refine Ops_seg 9 (fun T H=>T 1=(V.mp 1 1 0 0)∧T 66=(V.bool (decide (((f.op)=(2:Int))∧(((f.arg) < (0:Int))∨((64:Int)≤(f.arg))))))∧H 1=(bk 1 24 3 [[(iV (f.op)),(iV (f.arg)),(V.sl (List.map cF (f.kids)))]])∧True) ?_ ?_
 ·
  by_cases g23:(f.op)=(2:Int)
  ·
   refine G_yes (edT g23 rfl) (R_fk t1 h1 (G_yes (edT g23 rfl) (R_lk rfl h1 rfl rfl (G_yes (edT g23 rfl) (R_lss rfl rfl (G_yes (edT g23 rfl) (R_mv rfl ?_)))))))
   refine Ops_seg 4 (fun T H=>T 1=(V.mp 1 1 0 0)∧T 57=(V.bool true)∧T 65=(V.bool (decide (((f.arg) < (0:Int))∨((64:Int)≤(f.arg)))))∧H 1=(bk 1 24 3 [[(iV (f.op)),(iV (f.arg)),(V.sl (List.map cF (f.kids)))]])∧True) ?_ ?_
   ·
    by_cases g24:(f.arg) < (0:Int)
    ·
     refine G_n (edT g24 rfl) (G_n (edT g24 rfl) (G_n (edT g24 rfl) (G_yes (edT g23 rfl) (R_pickT (edT g24 rfl) rfl ?_))))
     exact ⟨t1,(edT g23 rfl),(dec_orT g24),h1,trivial⟩
    ·
     refine G_yes (edF g24 rfl) (R_fk t1 h1 (G_yes (edF g24 rfl) (R_lk rfl h1 rfl rfl (G_yes (edF g24 rfl) (R_geq rfl rfl (G_yes (edT g23 rfl) (R_pickF (edF g24 rfl) rfl ?_)))))))
     exact ⟨t1,(edT g23 rfl),(dec_orF g24),h1,trivial⟩
   intro T H ⟨t1,t57,t65,h1,_⟩
   refine R_pickT t57 t65 ?_
   exact ⟨t1,(dec_andT g23),h1,trivial⟩
  ·
   refine G_n (edF g23 rfl) (G_n (edF g23 rfl) (G_n (edF g23 rfl) (G_n (edF g23 rfl) (G_raw (@rfl V (V.raw undef)) (G_raw (@rfl V (V.raw undef)) (G_raw (@rfl V (V.raw undef)) (G_n (edF g23 rfl) ?_)))))))
   refine R_pickF (edF g23 rfl) rfl ?_
   exact ⟨t1,(dec_andF g23),h1,trivial⟩
 intro T H ⟨t1,t66,h1,_⟩
 refine R_mv t66 (R_e ?_)
 refine W_seq_if rfl (fun c25=>?_) fun c25=>?_
 ·
  try rw [if_pos (by omega)] at d1
  refine W_seq_skip ?_
  refine W_if rfl (fun c26=>?_) fun c26=>?_
  ·
   try rw [if_pos (by omega)] at d1
   refine W_r (R_mv rfl (R_e (W_ret (y19 _ _ ?_))))
   refine Ret_1 (@rfl V (iV (2:Int))) (fz_int ?_)
   · exact d1.symm
  · exact (c26 c25).elim
 try rw [if_neg (by omega)] at d1
 refine W_r (R_fk t1 h1 (R_lk rfl h1 rfl rfl (R_eql rfl rfl (R_mv rfl ?_))))
 refine Ops_seg 9 (fun T H=>T 53=(V.bool (decide (((f.op)=(2:Int))∧(((f.arg) < (0:Int))∨((64:Int)≤(f.arg))))))∧T 79=(V.bool (decide (((f.op)=(3:Int))∧(((f.arg) < (0:Int))∨((1048576:Int) < (f.arg))))))∧H 1=(bk 1 24 3 [[(iV (f.op)),(iV (f.arg)),(V.sl (List.map cF (f.kids)))]])∧True) ?_ ?_
 ·
  by_cases g27:(f.op)=(3:Int)
  ·
   refine G_yes (edT g27 rfl) (R_fk t1 h1 (G_yes (edT g27 rfl) (R_lk rfl h1 rfl rfl (G_yes (edT g27 rfl) (R_lss rfl rfl (G_yes (edT g27 rfl) (R_mv rfl ?_)))))))
   refine Ops_seg 4 (fun T H=>T 53=(V.bool (decide (((f.op)=(2:Int))∧(((f.arg) < (0:Int))∨((64:Int)≤(f.arg))))))∧T 70=(V.bool true)∧T 78=(V.bool (decide (((f.arg) < (0:Int))∨((1048576:Int) < (f.arg)))))∧H 1=(bk 1 24 3 [[(iV (f.op)),(iV (f.arg)),(V.sl (List.map cF (f.kids)))]])∧True) ?_ ?_
   ·
    by_cases g28:(f.arg) < (0:Int)
    ·
     refine G_n (edT g28 rfl) (G_n (edT g28 rfl) (G_n (edT g28 rfl) (G_yes (edT g27 rfl) (R_pickT (edT g28 rfl) rfl ?_))))
     exact ⟨rfl,(edT g27 rfl),(dec_orT g28),h1,trivial⟩
    ·
     refine G_yes (edF g28 rfl) (R_fk t1 h1 (G_yes (edF g28 rfl) (R_lk rfl h1 rfl rfl (G_yes (edF g28 rfl) (R_gtr rfl rfl (G_yes (edT g27 rfl) (R_pickF (edF g28 rfl) rfl ?_)))))))
     exact ⟨rfl,(edT g27 rfl),(dec_orF g28),h1,trivial⟩
   intro T H ⟨t53,t70,t78,h1,_⟩
   refine R_pickT t70 t78 ?_
   exact ⟨t53,(dec_andT g27),h1,trivial⟩
  ·
   refine G_n (edF g27 rfl) (G_n (edF g27 rfl) (G_n (edF g27 rfl) (G_n (edF g27 rfl) (G_raw (@rfl V (V.raw undef)) (G_raw (@rfl V (V.raw undef)) (G_raw (@rfl V (V.raw undef)) (G_n (edF g27 rfl) ?_)))))))
   refine R_pickF (edF g27 rfl) rfl ?_
   exact ⟨rfl,(dec_andF g27),h1,trivial⟩
 intro T H ⟨t53,t79,h1,_⟩
 refine R_mv t79 (R_e ?_)
 refine W_if rfl (fun c29=>?_) fun c29=>?_
 ·
  try rw [if_pos (by omega)] at d1
  refine W_r (R_mv rfl (R_e (W_ret (y19 _ _ ?_))))
  refine Ret_1 (@rfl V (iV (2:Int))) (fz_int ?_)
  · exact d1.symm
 try rw [if_neg (by omega)] at d1
 refine W_skip (n19 _ _ (.done (W_r (R_mv rfl (R_e (W_ret ?_))))))
 refine Ret_1 (@rfl V (iV (0:Int))) (fz_int ?_)
 · exact d1.symm
theorem rexam_pure_step (f:Fm) (lv b:Int) (hb:0≤b∧b≤4096) (hl:0≤lv∧lv≤65) (ih: ∀ (g:Fm) (lv b:Int),g.sz < f.sz→0≤b∧b≤4096→0≤lv∧lv≤65→PureC Tryz.prog 55 [(V.agg [(iV (g.op)),(iV (g.arg)),(V.sl (List.map cF (g.kids)))]),(iV (lv)),(iV (b))] (V.tup [(iV ((exm g lv b).1)),(iV ((exm g lv b).2))])):PureC Tryz.prog 55 [(V.agg [(iV (f.op)),(iV (f.arg)),(V.sl (List.map cF (f.kids)))]),(iV (lv)),(iV (b))] (V.tup [(iV ((exm f lv b).1)),(iV ((exm f lv b).2))]):=by
 refine pW Tryz.func55 s55_ok fun hB=>?_
 unfold s55
 dsimp only
 refine W_r (R_box (i:=3) (n:=0) (m:=3) (cs:=[(iV (f.op)),(iV (f.arg)),(V.sl (List.map cF (f.kids)))]) rfl (congrArg Blk.ver rfl) rfl rfl rfl (R_mv rfl (R_mv rfl (R_e (W_r (R_mv rfl (R_add rfl rfl (by omega) (by omega) ?_)))))))
 refine R_mv rfl (R_e (W_seq_blockg fun Q1 n1 x1 y1 z1=>(W_r (R_mv rfl (R_gtr rfl rfl (R_mv rfl (R_e ?_)))))))
 refine W_if rfl (fun c2=>?_) fun c2=>?_
 ·
  refine W_r (R_mv rfl (R_mv rfl (R_mv rfl (R_e (W_ret (y1 _ _ ?_))))))
  refine Ret_2 (@rfl V (iV ((b)+(1:Int)))) (@rfl V (iV (11:Int))) (fz_int ?_) (fz_int ?_)
  · rw [exm_eq,if_pos (by omega)]
  · rw [exm_eq,if_pos (by omega)]
 refine W_r (R_mv rfl (R_gtr rfl rfl (R_mv rfl (R_e ?_))))
 refine W_if rfl (fun c3=>?_) fun c3=>?_
 ·
  refine W_r (R_mv rfl (R_mv rfl (R_mv rfl (R_e (W_ret (y1 _ _ ?_))))))
  refine Ret_2 (@rfl V (iV ((b)+(1:Int)))) (@rfl V (iV (16:Int))) (fz_int ?_) (fz_int ?_)
  · rw [exm_eq,if_neg (by omega),if_pos (by omega)]
  · rw [exm_eq,if_neg (by omega),if_pos (by omega)]
 refine W_r (R_lk rfl rfl rfl rfl (R_callk (rright_pure f) rfl (R_neq rfl rfl (R_mv rfl (R_e ?_)))))
 refine W_if rfl (fun c4=>?_) fun c4=>?_
 ·
  refine W_r (R_mv rfl (R_lk rfl rfl rfl rfl (R_callk (rright_pure f) rfl (R_mv rfl (R_mv rfl (R_e (W_ret ?_)))))))
  refine y1 _ _ ?_
  refine Ret_2 (@rfl V (iV ((b)+(1:Int)))) (@rfl V (iV (rgt f))) (fz_int ?_) (fz_int ?_)
  · rw [exm_eq,if_neg (by omega),if_neg (by omega),if_pos (by omega)]
  · rw [exm_eq,if_neg (by omega),if_neg (by omega),if_pos (by omega)]
 refine W_skip (n1 _ _ (.done (W_seq_seq (W_r (R_mv rfl (R_e (W_seq_blockg fun Q5 n5 x5 y5 z5=>?_)))))))
 refine W_loop (fun mm T H=> ∃ (k:Nat) (n:Int),mm=f.kids.length - k∧T 1=(iV (lv))∧T 3=(V.mp 3 1 0 0)∧T 8=(iV (n))∧T 9=(iV ((k:Nat):Int))∧H 3=(bk 1 24 3 [[(iV (f.op)),(iV (f.arg)),(V.sl (List.map cF (f.kids)))]])∧(k≤f.kids.length)∧(0≤n∧n≤4096)∧(exm f lv b=exmL (f.kids.drop k) (lv+1) n)) ?_ ?_
 ·
  refine ⟨_,0,b+1,rfl,rfl,rfl,(Eq.trans (@rfl V (iV ((b)+(1:Int)))) (by rfl)),(Eq.trans (@rfl V (iV (0:Int))) rfl),rfl,?_,?_,?_⟩
  · omega
  · omega
  · rw [exm_eq,if_neg (by omega),if_neg (by omega),if_neg (by omega)]; rfl
 intro mm T H ⟨k,n,hmm,t1,t3,t8,t9,h3,hk,hn,hc⟩ Q6 p16 p26 p36
 unfold b55_0
 refine W_seq_seq (W_r (R_mv t9 (R_fk t3 h3 (R_lk rfl h3 rfl rfl (R_len rfl (R_lss rfl rfl (R_e ?_)))))))
 refine W_seq_if rfl (fun c7=>?_) fun c7=>?_
 ·
  refine W_seq_skip (W_seq_blockg fun Q8 n8 x8 y8 z8=>(W_r (R_fk t3 h3 (R_lk rfl h3 rfl rfl (R_mv t9 (R_idxu (i:=k) (@rfl V (V.sl (List.map cF (f.kids)))) (@rfl V (iV ((k:Nat):Int))) (by omega) (cF_eq _) rfl (R_load_pp rfl rfl ?_)))))))
  refine R_mv t1 (R_add rfl rfl (by omega) (by omega) (R_mv t8 (R_callk (ih (((nth (f.kids) (k)))) (((lv)+(1:Int))) ((n)) (Fm.sz_kid (by omega)) (by omega) (by omega)) rfl (R_mv rfl (R_ext rfl rfl (R_ext rfl rfl (R_mv rfl ?_)))))))
  refine R_mv rfl (R_e (W_seq_seq (W_r (R_mv rfl (R_neq rfl rfl (R_e ?_))))))
  refine W_seq_if rfl (fun c9=>?_) fun c9=>?_
  ·
   have q0:=exm_rng (nth f.kids k) (lv+1) n
   refine W_seq_seq (W_r (R_mv rfl (R_mv rfl (R_mv rfl (R_mv rfl (R_e (W_seq_ret ?_)))))))
   refine y8 _ _ (p26 _ _ (y5 _ _ ?_))
   refine Ret_2 (@rfl V (iV ((exm (((nth (f.kids) (k)))) (((lv)+(1:Int))) ((n))).1))) (@rfl V (iV ((exm (((nth (f.kids) (k)))) (((lv)+(1:Int))) ((n))).2))) (fz_int ?_) (fz_int ?_)
   · rw [hc,exmL_yes (by omega) (by omega)]
   · rw [hc,exmL_yes (by omega) (by omega)]
  have q0:=exm_rng (nth f.kids k) (lv+1) n
  refine W_seq_skip (W_t (R_mv rfl (R_mv rfl (R_e (n8 _ _ (.done (W_t ?_)))))))
  refine R_mv t9 (R_addN rfl (@rfl V (iV ((1:Nat):Int))) (by omega) (R_mv rfl (R_e ?_)))
  refine p16 _ _ _ ?_ ⟨(k+1),(exm (nth f.kids k) (lv+1) n).1,rfl,t1,t3,(Eq.trans (@rfl V (iV ((exm (((nth (f.kids) (k)))) (((lv)+(1:Int))) ((n))).1))) (by rfl)),(Eq.trans (@rfl V (iV ((k+1:Nat):Int))) (by rfl)),h3,?_,?_,?_⟩
  · omega
  · omega
  · exact ⟨by omega,q0.2 (by omega)⟩
  · rw [hc,exmL_no (by omega) (by omega)]
 refine W_seq_exit (p36 _ _ _ (x5 _ _ (.done (W_r (R_mv t8 (R_mv rfl (R_mv rfl ?_)))))))
 refine R_e (W_ret ?_)
 refine Ret_2 (@rfl V (iV (n))) (@rfl V (iV (0:Int))) (fz_int ?_) (fz_int ?_)
 · rw [hc,exmL_end (by omega)]
 · rw [hc,exmL_end (by omega)]
theorem rexam_pure (f:Fm) (lv b:Int) (hb:0≤b∧b≤4096) (hl:0≤lv∧lv≤65):PureC Tryz.prog 55 [(V.agg [(iV (f.op)),(iV (f.arg)),(V.sl (List.map cF (f.kids)))]),(iV (lv)),(iV (b))] (V.tup [(iV ((exm f lv b).1)),(iV ((exm f lv b).2))]):=by
  have key: ∀ (mm:Nat) (f:Fm) (lv b:Int),f.sz < mm→0≤b∧b≤4096→0≤lv∧lv≤65→PureC Tryz.prog 55 [(V.agg [(iV (f.op)),(iV (f.arg)),(V.sl (List.map cF (f.kids)))]),(iV (lv)),(iV (b))] (V.tup [(iV ((exm f lv b).1)),(iV ((exm f lv b).2))]):=by
    intro mm
    induction mm with
    |zero=>intro f lv b hlt; exact absurd hlt (Nat.not_lt_zero _)
    | succ mm ih =>
      intro f lv b hlt hb hl
      exact rexam_pure_step f lv b hb hl fun f2 lv2 b2 hlt2=>ih f2 lv2 b2 (by omega)
  exact key (f.sz+1) f lv b (Nat.lt_succ_self _) hb hl
theorem rfvalid_pure (f:Fm):PureC Tryz.prog 28 [(V.agg [(iV (f.op)),(iV (f.arg)),(V.sl (List.map cF (f.kids)))])] (iV (fval f)):=by
 refine pW Tryz.func28 s28_ok fun hB=>?_
 unfold s28
 dsimp only
 refine W_r (R_box (i:=1) (n:=0) (m:=3) (cs:=[(iV (f.op)),(iV (f.arg)),(V.sl (List.map cF (f.kids)))]) rfl (congrArg Blk.ver rfl) rfl rfl rfl (R_mv rfl (R_e (W_r (R_lk rfl rfl rfl rfl (R_callk (rexam_pure f ((1:Int)) ((0:Int)) (by omega) (by omega)) rfl (R_mv rfl ?_)))))))
 refine R_ext rfl rfl (R_ext rfl rfl (R_mv rfl (R_mv rfl (R_e (W_r (R_mv rfl (R_mv rfl ?_)))))))
 refine R_e (W_ret ?_)
 refine Ret_1 (@rfl V (iV ((exm f ((1:Int)) ((0:Int))).2))) (fz_int ?_)
 · rfl
def r38_1:List SO:=[
 qL 7 3 1,
 sO 8 (.call false 64 [.t 7]),
 qM 6 8,
 qE 9 6 0,
 qE 10 6 1,
 sO 4 (.alloc 24 [.int .i64 0,.int .i64 0,.nilsl]),
 sN (.store 3 (.t 4) (.t 9)),
 qM 5 10]
def s38:SF:=⟨21,[.cell 2 true 3,.tmp 3],.seq (.reg [sO 1 (.box 24 3 (.t 0)),sO 2 (.alloc 24 [.int .i64 0,.int .i64 0,.nilsl]),qI 3 0]) (.seq (.reg r38_1) (.seq (.seq (.reg [qM 11 5,sO 12 (.un .not (.t 11))]) (.cond (.t 12) (.seq (.reg [sO 13 (.build [.int .i64 0,.int .i64 0,.nilsl] []),sN (.store 3 (.t 2) (.t 13)),qI 3 11]) (.ret)) (.skip))) (.seq (.seq (.reg [qL 14 3 4,sO 15 (.call false 28 [.t 14]),qC 16 .neq 15 0]) (.cond (.t 16) (.seq (.reg [sO 17 (.build [.int .i64 0,.int .i64 0,.nilsl] []),qL 18 3 4,sO 19 (.call false 28 [.t 18]),sN (.store 3 (.t 2) (.t 17)),qM 3 19]) (.ret)) (.skip))) (.seq (.reg [qL 20 3 4,sN (.store 3 (.t 2) (.t 20)),qI 3 0]) (.ret)))))⟩
theorem s38_ok:slimF Tryz.prog ⟨[59,84,90,97,109,153,154,155,160],[],[],[]⟩ Tryz.f38=some s38:=by kernel_rfl
def r64_1:List SO:=[
 qL 10 3 1,
 sO 11 (.call false 92 [.t 10]),
 qM 9 11,
 qE 12 9 0,
 qE 13 9 1,
 qM 4 12,
 qM 5 13]
def r64_13:List SO:=[
 qM 37 7,
 qM 38 4,
 qM 39 8,
 qA 40 1 38 39,
 ql 41 40,
 sO 42 (.call false 94 [.c (.int .i64 5),.t 41]),
 sO 43 (.call false 93 [.t 37,.t 42]),
 qM 7 43]
def b64_0:SC:=.seq (.seq (.reg [qM 24 8,qM 25 4,qN 26 25,qP 27 .lss 24 26]) (.cond (.t 27) (.skip) (.exit 0))) (.seq (.block 1 (.seq (.seq (.reg [qM 30 4,qM 31 8,qA 32 1 30 31,ql 33 32,qN 34 33,qC 35 .eql 34 0]) (.cond (.t 35) (.seq (.reg [qL 36 3 6,sN (.store 3 (.t 2) (.t 36)),sO 3 (.mv (.c (.bool true)))]) (.ret)) (.skip))) (.reg r64_13))) (.reg [qM 28 8,qC 29 .add 28 1,qM 8 29]))
def s64:SF:=⟨46,[.cell 2 true 3,.tmp 3],.seq (.reg [sO 1 (.box 24 3 (.t 0)),sO 2 (.alloc 24 [.int .i64 0,.int .i64 0,.nilsl]),sO 3 (.mv (.c (.bool false)))]) (.seq (.reg r64_1) (.seq (.seq (.reg [qM 14 5,sO 15 (.un .not (.t 14))]) (.cond (.t 15) (.seq (.reg [sO 16 (.build [.int .i64 0,.int .i64 0,.nilsl] []),sN (.store 3 (.t 2) (.t 16)),sO 3 (.mv (.c (.bool false)))]) (.ret)) (.skip))) (.seq (.reg [sO 17 (.build [.int .i64 0,.int .i64 0,.nilsl] [(0,1,.c (.int .i64 1))]),sO 6 (.alloc 24 [.int .i64 0,.int .i64 0,.nilsl]),sN (.store 3 (.t 6) (.t 17))]) (.seq (.seq (.reg [qM 18 4,qN 19 18,qC 20 .eql 19 0]) (.cond (.t 20) (.seq (.reg [qL 21 3 6,sO 22 (.bslice 24 3 false [.int .i64 0,.int .i64 0,.nilsl] 1 [(0,.t 21)]),sO 23 (.build [.int .i64 0,.int .i64 0,.nilsl] [(0,1,.c (.int .i64 4)),(2,1,.t 22)]),sN (.store 3 (.t 2) (.t 23)),sO 3 (.mv (.c (.bool true)))]) (.ret)) (.skip))) (.seq (.reg [sO 7 (.mv (.c (.nilsl)))]) (.seq (.seq (.reg [qI 8 0]) (.block 0 (.loop b64_0))) (.seq (.reg [qM 44 7,sO 45 (.call false 94 [.c (.int .i64 6),.t 44]),sN (.store 3 (.t 2) (.t 45)),sO 3 (.mv (.c (.bool true)))]) (.ret))))))))⟩
theorem s64_ok:slimF Tryz.prog ⟨[59,84,90,97,109,153,154,155,160],[],[],[]⟩ Tryz.f64=some s64:=by kernel_rfl
def r93_6:List SO:=[
 qL 15 3 3,
 qM 16 0,
 qM 17 7,
 qA 18 3 16 17,
 qL 19 3 18,
 sO 20 (.call false 115 [.t 15,.t 19]),
 qM 8 20]
def r93_11:List SO:=[
 qM 33 5,
 qM 34 0,
 qM 35 7,
 qA 36 3 34 35,
 qL 37 3 36,
 sO 38 (.bslice 24 3 false [.int .i64 0,.int .i64 0,.nilsl] 1 [(0,.t 37)]),
 sO 39 (.append 24 3 40 (.t 33) (.t 38)),
 qM 5 39]
def b93_0:SC:=.seq (.seq (.reg [qM 9 7,qM 10 0,qN 11 10,qP 12 .lss 9 11]) (.cond (.t 12) (.skip) (.exit 0))) (.seq (.block 1 (.seq (.reg r93_6) (.seq (.seq (.reg [qM 21 8,qC 22 .leq 21 0,qM 23 22,⟨some (23,true),some 24,.mv (.t 6)⟩,⟨some (23,true),some 25,.un .not (.t 24)⟩,sO 26 (.pick (.t 23) (.t 25) (.c (.bool false)))]) (.cond (.t 26) (.seq (.reg [qM 27 5,qL 28 3 3,sO 29 (.bslice 24 3 false [.int .i64 0,.int .i64 0,.nilsl] 1 [(0,.t 28)]),sO 30 (.append 24 3 40 (.t 27) (.t 29)),qM 5 30]) (.reg [sO 6 (.mv (.c (.bool true)))])) (.skip))) (.seq (.reg [qM 31 8,qC 32 .neq 31 0]) (.cond (.t 32) (.reg r93_11) (.skip)))))) (.reg [qM 13 7,qC 14 .add 13 1,qM 7 14]))
def s93:SF:=⟨47,[.tmp 4],.seq (.reg [sO 3 (.box 24 3 (.t 1)),sO 4 (.mv (.c (.nilsl)))]) (.seq (.reg [sO 5 (.lazy 24 3)]) (.seq (.reg [sO 6 (.mv (.c (.bool false)))]) (.seq (.seq (.reg [qI 7 0]) (.block 0 (.loop b93_0))) (.seq (.seq (.reg [qM 40 6,sO 41 (.un .not (.t 40))]) (.cond (.t 41) (.reg [qM 42 5,qL 43 3 3,sO 44 (.bslice 24 3 false [.int .i64 0,.int .i64 0,.nilsl] 1 [(0,.t 43)]),sO 45 (.append 24 3 40 (.t 42) (.t 44)),qM 5 45]) (.skip))) (.seq (.reg [qM 46 5,qM 4 46]) (.ret))))))⟩
theorem s93_ok:slimF Tryz.prog ⟨[59,84,90,97,109,153,154,155,160],[5],[],[]⟩ Tryz.f93=some s93:=by kernel_rfl
def r115_1:List SO:=[
 qF 10 0 2,
 ql 11 10,
 qF 12 1 2,
 ql 13 12,
 qF 14 2 2,
 ql 15 14,
 qN 16 15,
 sO 17 (.build [.int .i64 0,.int .i64 0,.int .i64 0] [(0,1,.t 11),(1,1,.t 13),(2,1,.t 16)]),
 sO 5 (.alloc 179 [.int .i64 0,.int .i64 0,.int .i64 0]),
 sN (.store 3 (.t 5) (.t 17))]
def r115_2:List SO:=[
 qF 18 0 3,
 ql 19 18,
 qF 20 1 3,
 ql 21 20,
 qF 22 2 3,
 ql 23 22,
 qN 24 23,
 sO 25 (.build [.int .i64 0,.int .i64 0,.int .i64 0] [(0,1,.t 19),(1,1,.t 21),(2,1,.t 24)]),
 sO 6 (.alloc 179 [.int .i64 0,.int .i64 0,.int .i64 0]),
 sN (.store 3 (.t 6) (.t 25))]
def r115_6:List SO:=[
 qM 30 7,
 sO 31 (.apos 1 3 (.t 5) (.t 30)),
 ql 32 31,
 qM 33 7,
 sO 34 (.apos 1 3 (.t 6) (.t 33)),
 ql 35 34,
 qP 36 .lss 32 35]
def r115_8:List SO:=[
 qM 37 7,
 sO 38 (.apos 1 3 (.t 5) (.t 37)),
 ql 39 38,
 qM 40 7,
 sO 41 (.apos 1 3 (.t 6) (.t 40)),
 ql 42 41,
 qP 43 .gtr 39 42]
def b115_0:SC:=.seq (.seq (.reg [qM 26 7,qC 27 .lss 26 3]) (.cond (.t 27) (.skip) (.exit 0))) (.seq (.block 1 (.seq (.seq (.reg r115_6) (.cond (.t 36) (.seq (.reg [sO 4 (.mv (.c (.int .i64 (-1))))]) (.ret)) (.skip))) (.seq (.reg r115_8) (.cond (.t 43) (.seq (.reg [qI 4 1]) (.ret)) (.skip))))) (.reg [qM 28 7,qC 29 .add 28 1,qM 7 29]))
def r115_13:List SO:=[
 qF 51 2 2,
 ql 52 51,
 qM 53 8,
 qA 54 3 52 53,
 qL 55 3 54,
 qF 56 2 3,
 ql 57 56,
 qM 58 8,
 qA 59 3 57 58,
 qL 60 3 59,
 sO 61 (.call false 115 [.t 55,.t 60]),
 qM 9 61]
def b115_1:SC:=.seq (.seq (.reg [qM 44 8,qF 45 2 2,ql 46 45,qN 47 46,qP 48 .lss 44 47]) (.cond (.t 48) (.skip) (.exit 2))) (.seq (.block 3 (.seq (.reg r115_13) (.seq (.reg [qM 62 9,qC 63 .neq 62 0]) (.cond (.t 63) (.seq (.reg [qM 64 9,qM 4 64]) (.ret)) (.skip))))) (.reg [qM 49 8,qC 50 .add 49 1,qM 8 50]))
def s115:SF:=⟨65,[.tmp 4],.seq (.reg [sO 2 (.box 24 3 (.t 0)),sO 3 (.box 24 3 (.t 1)),qI 4 0]) (.seq (.reg r115_1) (.seq (.reg r115_2) (.seq (.seq (.reg [qI 7 0]) (.block 0 (.loop b115_0))) (.seq (.seq (.reg [qI 8 0]) (.block 2 (.loop b115_1))) (.seq (.reg [qI 4 0]) (.ret))))))⟩
theorem s115_ok:slimF Tryz.prog ⟨[59,84,90,97,109,153,154,155,160],[],[],[]⟩ Tryz.f115=some s115:=by kernel_rfl
end Go.Proofs.YteehaobohaecmaaGreatDoor
namespace Go.Proofs.YteehaobohaecmaaGreatDoor
open Go
theorem ord3_lt {f h:Fm} {k:Nat} (hk:k < 3) (he: ∀ j,j < k→nth [f.op,f.arg,(f.kids.length:Int)] j=nth [h.op,h.arg,(h.kids.length:Int)] j) (hl:nth [f.op,f.arg,(f.kids.length:Int)] k < nth [h.op,h.arg,(h.kids.length:Int)] k):ordF f h= -1:=by
  have e0:0 < k→f.op=h.op:=fun q=>he 0 q
  have e1:1 < k→f.arg=h.arg:=fun q=>he 1 q
  rw [ordF_eq]
  match k,hk with
  | 0, _ =>
    have hl':f.op < h.op:=hl
    simp [cp3,cmpI,hl']
  | 1, _ =>
    have hl':f.arg < h.arg:=hl
    rw [e0 (by omega)]
    simp [cp3,cmpI,hl']
  | 2, _ =>
    have hl':(f.kids.length:Int) < h.kids.length:=hl
    rw [e0 (by omega),e1 (by omega)]
    have:f.kids.length < h.kids.length:=by omega
    simp [cp3,cmpI,this]
theorem ord3_gt {f h:Fm} {k:Nat} (hk:k < 3) (he: ∀ j,j < k→nth [f.op,f.arg,(f.kids.length:Int)] j=nth [h.op,h.arg,(h.kids.length:Int)] j) (hl:nth [h.op,h.arg,(h.kids.length:Int)] k < nth [f.op,f.arg,(f.kids.length:Int)] k):ordF f h=1:=by
  have:=ord3_lt hk (fun j hj=>(he j hj).symm) hl
  rw [ordF_swap,this]; rfl
theorem ord3_eq {f h:Fm} {k:Nat} (hk:3≤k) (he: ∀ j,j < k→nth [f.op,f.arg,(f.kids.length:Int)] j=nth [h.op,h.arg,(h.kids.length:Int)] j):f.kids.length=h.kids.length∧ordF f h=ordL f.kids h.kids:=by
  have e0:f.op=h.op:=he 0 (by omega)
  have e1:f.arg=h.arg:=he 1 (by omega)
  have e2:(f.kids.length:Int)=h.kids.length:=he 2 (by omega)
  refine ⟨by omega,?_⟩
  rw [ordF_eq,e0,e1,show f.kids.length=h.kids.length by omega]
  simp [cp3,cmpI]
  exact fun q=>q.symm
def rW (f:Fm):Bool→List Fm→List Fm
  |dn,[]=>if dn=true then [] else [f]
  |dn,g::l=>(if ordF f g≤0∧dn=false then [f] else [])++((if ordF f g≠0 then [g] else [])++rW f (dn||decide (ordF f g≤0)) l)
section
variable {f:Fm} {l:List Fm} {k:Nat} {dn:Bool}
theorem rW_step (h:k < l.length):rW f dn (l.drop k)=(if ordF f (nth l k)≤0∧dn=false then [f] else [])++((if ordF f (nth l k)≠0 then [nth l k] else [])++rW f (dn||decide (ordF f (nth l k)≤0)) (l.drop (k+1))):=by
  rw [nth_drop h,rW]
theorem rW_end (h:l.length≤k):rW f dn (l.drop k)=if dn=true then [] else [f]:=by rw [List.drop_eq_nil_of_le h,rW]
end
theorem rW_true {f:Fm}: ∀ {l:List Fm},(∀ g∈l,ordF f g < 0)→rW f true l=l
  |[],_=>rfl
  | g :: l, h => by
    have hg:=h g (List.mem_cons_self ..)
    rw [rW,if_neg (by simp),if_pos (by omega),Bool.true_or,rW_true fun x hx=>h x (List.mem_cons_of_mem _ hx)]; rfl
theorem rW_ins {f : Fm} : ∀ {l : List Fm}, SrtF l → rW f false l = insF f l
  |[],_=>rfl
  | g :: l, h => by
    obtain ⟨h1,h2⟩:=List.pairwise_cons.1 h
    rw [rW,insF]
    by_cases q:ordF f g < 0
    · rw [if_pos ⟨by omega,rfl⟩,if_pos (by omega),if_pos q,Bool.false_or,decide_eq_true (by omega),rW_true fun x hx=>ordF_trans q (h1 x hx)]; rfl
    · by_cases q0:ordF f g=0
      · have e:=ordF_zero f g q0
        subst e
        rw [if_pos ⟨by omega,rfl⟩,if_neg (by omega),if_neg q,if_pos q0,Bool.false_or,decide_eq_true (by omega),rW_true fun x hx=>h1 x hx]; rfl
      · rw [if_neg (by omega),if_pos q0,if_neg q,if_neg q0,Bool.false_or,decide_eq_false (by omega),rW_ins h2]; rfl
section
variable {c d:Cl} {s:List Cl} {k:Nat}
theorem con_no (h:k < d.length) (e:(c.any fun y=>sameF y (nth d k))=false):conB c (d.drop k)=false:=by
  rw [nth_drop h]; unfold conB; rw [List.all_cons,e,Bool.false_and]
theorem con_go (h:k < d.length) (e:(c.any fun y=>sameF y (nth d k))=true):conB c (d.drop k)=conB c (d.drop (k+1)):=by
  rw [nth_drop h]; unfold conB; rw [List.all_cons,e,Bool.true_and]
theorem con_end (h:d.length≤k):conB c (d.drop k)=true:=by rw [List.drop_eq_nil_of_le h]; rfl
theorem anyF_step {p:Fm→Bool} (h:k < c.length):(c.take (k+1)).any p=((c.take k).any p||p (nth c k)):=by
  rw [take_succ_nth h,List.any_append]; simp
theorem put_old (h:k < s.length) (e:conB c (nth s k)=true):s=wth s c:=by
  unfold wth
  rw [if_pos (List.any_eq_true.2 ⟨_,nth_mem h,e⟩)]
theorem put_new (h: ∀ i,i < s.length→conB c (nth s i)=false):s.filter (fun d=> !conB d c)++[c]=wth s c:=by
  unfold wth
  rw [if_neg fun q=>by
    obtain ⟨d,hd,e⟩:=List.any_eq_true.1 q
    obtain ⟨i,hi,rfl⟩:=mem_nth hd
    rw [h i hi] at e; cases e]
end
theorem un_step {c d:List Fm} {j:Nat} (h:j < d.length):unF c (d.take (j+1))=insF (nth d j) (unF c (d.take j)):=by
  unfold unF; rw [take_succ_nth h,List.foldl_append]; rfl
def djO : List Fm → List Cl → Option (List Cl)
  |[],out=>some out
  | f :: l, out => match cls f with
    |none=>none
    |some s=>djO l (wths out s)
theorem djL_O: ∀ (l:List Fm) (out:List Cl),djL l out=match djO l out with
    |none=>none
    |some o=>if 64 < o.length then none else some o
  |[],out=>by rw [djL,djO]
  | f :: l, out => by
    rw [djL,djO]
    cases cls f with
    |none=>rfl
    |some s=>exact djL_O l _
def rsV (f:Fm):List Cl:=if f.op=6 then cVal (djO f.kids []) else cVal (cls f)
def clB (f:Fm):Bool:=(cls f).isSome
section
variable {f:Fm} {l:List Fm} {k:Nat} {out:List Cl}
theorem djO_end (h:l.length≤k):djO (l.drop k) out=some out:=by rw [List.drop_eq_nil_of_le h,djO]
theorem djO_no (h:k < l.length) (e:cls (nth l k)=none):djO (l.drop k) out=none:=by rw [nth_drop h,djO,e]
theorem djO_go {s:List Cl} (h:k < l.length) (e:cls (nth l k)=some s):djO (l.drop k) out=djO (l.drop (k+1)) (wths out s):=by rw [nth_drop h,djO,e]
theorem rsV_ok (h:clB f=true):rsV f=cVal (cls f):=by
  unfold rsV
  by_cases q:f.op=6
  · rw [if_pos q]
    unfold clB at h
    rw [cls_6 q,djL_O] at h ⊢
    cases e:djO f.kids [] with
    |none=>rfl
    | some o =>
      rw [e] at h
      simp only at h ⊢
      by_cases q2:64 < o.length
      · rw [if_pos q2] at h; cases h
      · rw [if_neg q2]
  · rw [if_neg q]
theorem clB_some (h:clB f=true):cls f=some (rsV f):=by
  rw [rsV_ok h]
  unfold clB at h
  cases e:cls f with
  |none=>rw [e] at h; cases h
  |some s=>rfl
theorem clB_none (h:clB f=false):cls f=none:=by
  unfold clB at h
  cases e:cls f with
  |none=>rfl
  |some s=>rw [e] at h; cases h
end
theorem unF_sF: ∀ {l:List Fm},l.Nodup→unF [] l=sF l:=fun {l} h=>
  srtF_uniq (unF_srt List.Pairwise.nil) (sF_srt h) fun x=>by rw [mem_unF,mem_sF]; simp
theorem unF_nodup_len {l:List Fm} (h:l.Nodup):(unF [] l).length=l.length:=by rw [unF_sF h,sF_len]
def canB (f:Fm):Bool:=(can f).isSome
theorem canB_cl (f:Fm):canB f=clB f:=by unfold canB clB can; cases cls f <;> rfl
theorem good_clF {s:List Cl} (h:GdS s):(s.map clF).Nodup:=mapCl_nodup h.ant.nodup h.at_.ats
end Go.Proofs.YteehaobohaecmaaGreatDoor
namespace Go.Proofs.YteehaobohaecmaaGreatDoor
theorem ld3 {ver ty k:Nat} {x y z:Int} (hk:k < 3):ldB false 1 (bk ver ty 3 [[iV x,iV y,iV z]]) ver 0 k=some (iV (nth [x,y,z] k)):=by
  refine lB oB rfl ?_
  match k,hk with
  |0,_=>rfl
  |1,_=>rfl
  |2,_=>rfl
end Go.Proofs.YteehaobohaecmaaGreatDoor
namespace Go.Proofs.YteehaobohaecmaaGreatDoor
open Go
section
variable {f:Fm} {k:Nat} {out s X:List Cl}
structure Rs5 (f:Fm) (k:Nat) (X:List Cl):Prop where
  e:cjL f.kids [[]]=if 64 < X.length then none else cjL (f.kids.drop (k+1)) X
  g: ¬64 < X.length→GdS X∧CLen (Fm.szs (f.kids.take (k+1))) X
theorem rs_kid (hok:okF f=true) (hk:k < f.kids.length) (h:clB (nth f.kids k)=true):cls (nth f.kids k)=some (rsV (nth f.kids k))∧GdS (rsV (nth f.kids k))∧CLen (nth f.kids k).sz (rsV (nth f.kids k)):=
  ⟨clB_some h,cls_good _ ((okF_parts hok).2 k hk) _ (clB_some h),cls_clen _ _ (clB_some h)⟩
theorem rs5_first (hok:okF f=true) (hk:k < f.kids.length) (h0:k=0) (h:clB (nth f.kids k)=true):Rs5 f k (rsV (nth f.kids k)):=by
  subst h0
  obtain ⟨h1,h2,h3⟩:=rs_kid hok hk h
  have hn: ¬64 < (rsV (nth f.kids 0)).length:=Nat.not_lt.2 h2.len
  refine ⟨?_,fun _=>⟨h2,?_⟩⟩
  · rw [if_neg hn]
    have:=cjL_go (out:=[[]]) hk h1 (by rw [prd_unit h2.ant]; exact hn)
    rw [prd_unit h2.ant] at this
    exact this
  · exact CLen.mono h3 (by rw [szs_take hk]; omega)
theorem rs5_step (hok:okF f=true) (hk:k < f.kids.length) (hG:GdS out) (hL:CLen (Fm.szs (f.kids.take k)) out) (hc:cjL f.kids [[]]=cjL (f.kids.drop k) out) (h:clB (nth f.kids k)=true):Rs5 f k (prd out (rsV (nth f.kids k))):=by
  obtain ⟨h1,h2,h3⟩:=rs_kid hok hk h
  refine ⟨?_,fun hn=>⟨cj_good hG h2 hn,cj_clen hk hL h3⟩⟩
  by_cases q:64 < (prd out (rsV (nth f.kids k))).length
  · rw [if_pos q,hc,cjL_lim hk h1 q]
  · rw [if_neg q,hc,cjL_go hk h1 q]
theorem rs5_next (h:Rs5 f k X) (hn: ¬64 < X.length):GdS X∧CLen (Fm.szs (f.kids.take (k+1))) X∧cjL f.kids [[]]=cjL (f.kids.drop (k+1)) X:=
  ⟨(h.g hn).1,(h.g hn).2,by rw [h.e,if_neg hn]⟩
theorem rs6_first (hok:okF f=true) (hk:k < f.kids.length) (h0:k=0) (h:clB (nth f.kids k)=true):djO f.kids []=djO (f.kids.drop (k+1)) (rsV (nth f.kids k)):=by
  subst h0
  obtain ⟨h1,h2,_⟩:=rs_kid hok hk h
  have:=djO_go (out:=[]) hk h1
  rw [wths_self (s:=[]) (by exact h2.ant)] at this
  exact this
theorem rs6_step (hk:k < f.kids.length) (hc:djO f.kids []=djO (f.kids.drop k) out) (h:clB (nth f.kids k)=true):djO f.kids []=djO (f.kids.drop (k+1)) (wths out (rsV (nth f.kids k))):=by
  rw [hc,djO_go hk (clB_some h)]
theorem rs5_fail (h5:f.op=5) (h:Rs5 f k X) (hl:64 < X.length):cls f=none:=by rw [cls_5 h5,h.e,if_pos hl]
theorem rs_bad5 (h5:f.op=5) (hk:k < f.kids.length) (h0:k=0∨cjL f.kids [[]]=cjL (f.kids.drop k) out) (h:clB (nth f.kids k)=false):cls f=none:=by
  rw [cls_5 h5]
  rcases h0 with q|q
  · subst q; exact cjL_no hk (clB_none h)
  · rw [q]; exact cjL_no hk (clB_none h)
theorem rs_bad6 (h6:f.op=6) (hk:k < f.kids.length) (hc:djO f.kids []=djO (f.kids.drop k) out) (h:clB (nth f.kids k)=false):cls f=none∧djO f.kids []=none:=by
  have e:djO f.kids []=none:=by rw [hc]; exact djO_no hk (clB_none h)
  refine ⟨?_,e⟩
  rw [cls_6 h6,djL_O,e]
theorem rs_none (h:cls f=none) (h2:f.op=6→djO f.kids []=none):rsV f=[]∧clB f=false:=by
  refine ⟨?_,by unfold clB; rw [h]; rfl⟩
  unfold rsV
  by_cases q:f.op=6
  · rw [if_pos q,h2 q]; rfl
  · rw [if_neg q,h]; rfl
theorem rs_some (h6:f.op≠6) (h:cls f=some s):rsV f=s∧clB f=true:=by
  refine ⟨?_,by unfold clB; rw [h]; rfl⟩
  unfold rsV; rw [if_neg h6,h]; rfl
theorem rs_end5 (h5:f.op=5) (hc:cjL f.kids [[]]=cjL (f.kids.drop k) out) (hk:f.kids.length≤k) (hG:GdS out):rsV f=out∧clB f=decide (out.length≤64):=by
  have e:cls f=some out:=by rw [cls_5 h5,hc,cjL_end hk]
  obtain ⟨e1,e2⟩:=rs_some (by omega) e
  exact ⟨e1,by rw [e2,decide_eq_true hG.len]⟩
theorem rs_end6 (h6:f.op=6) (hc:djO f.kids []=djO (f.kids.drop k) out) (hk:f.kids.length≤k):rsV f=out∧clB f=decide (out.length≤64):=by
  have e:djO f.kids []=some out:=by rw [hc,djO_end hk]
  refine ⟨by unfold rsV; rw [if_pos h6,e]; rfl,?_⟩
  unfold clB
  rw [cls_6 h6,djL_O,e]
  simp only
  by_cases q:64 < out.length
  · rw [if_pos q,decide_eq_false (by omega)]; rfl
  · rw [if_neg q,decide_eq_true (by omega)]; rfl
end
def jnd (o:Int) (l:List Fm):Fm:=if l.length=1 then nth l 0 else .nd o 0 l
theorem jnd_1 {o:Int} {l:List Fm} (h:l.length=1):jnd o l=nth l 0:=if_pos h
theorem jnd_n {o:Int} {l:List Fm} (h:l.length≠1):jnd o l=.nd o 0 l:=if_neg h
theorem fin_j {s:List Cl} (h:GdS s) (hn: ∀ i,i < s.length→(nth s i).length≠0) (h0:s.length≠0):fin s=jnd 6 (unF [] (s.map clF)):=by
  have hd:=good_clF h
  have hl:(unF [] (s.map clF)).length=s.length:=by rw [unF_nodup_len hd,List.length_map]
  by_cases h1:s.length=1
  · rw [jnd_1 (by omega),fin_1 hn h1]
    match s,h1 with
    |[c],_=>rfl
  · rw [jnd_n (by omega),fin_n hn h0 h1,unF_sF hd]
theorem unM_step {s:List Cl} {k:Nat} (h:k < s.length):unF [] ((s.take (k+1)).map clF)=insF (clF (nth s k)) (unF [] ((s.take k).map clF)):=by
  rw [mapTake h]; unfold unF; rw [List.foldl_append]; rfl
theorem kid4 {f:Fm} (hok:okF f=true) (hn:nnf f=true) (h4:f.op=4) (h1:(nth f.kids 0).op=1) (a o:Int):f=mst f a o:=by
  have hr:=rgt_ok (okF_parts hok).1
  have hk:okF (nth f.kids 0)=true:=(okF_parts hok).2 0 (by omega)
  have hr2:=rgt_ok (okF_parts hk).1
  rw [mst_4 h4]
  have e:ntB (nth f.kids 0) a o=false:=by unfold ntB; exact decide_eq_false (by omega)
  rw [e]
  have a0:f.arg=0:=hr.2.2.2.2.2.2.1 (by omega)
  have kl:f.kids.length=1:=by omega
  have b0:(nth f.kids 0).arg=0:=hr2.2.2.2.2.2.2.1 (by omega)
  have bk:(nth f.kids 0).kids=[]:=List.length_eq_zero_iff.1 (hr2.2.2.1 (.inl h1))
  have eta: ∀ g:Fm,g=.nd g.op g.arg g.kids:=fun g=>by cases g; rfl
  have eg:nth f.kids 0=.nd 1 0 []:=by rw [eta (nth f.kids 0),h1,b0,bk]
  have one: ∀ l:List Fm,l.length=1→l=[nth l 0]:=fun l h=>by
    match l,h with
    |[g],_=>rfl
  have ek:f.kids=[.nd 1 0 []]:=(one _ kl).trans (congrArg (fun g=>[g]) eg)
  exact (eta f).trans (by rw [h4,a0,ek]; rfl)
end Go.Proofs.YteehaobohaecmaaGreatDoor
namespace Go.Proofs.YteehaobohaecmaaGreatDoor
section
variable {f:Fm} {k:Nat} {out s:List Cl}
theorem rs_bad (ho:f.op=5∨f.op=6) (hk:k < f.kids.length) (h5:f.op=5→0 < k→GdS out∧CLen (Fm.szs (f.kids.take k)) out∧cjL f.kids [[]]=cjL (f.kids.drop k) out) (h6:f.op=6→djO f.kids []=djO (f.kids.drop k) out) (h:clB (nth f.kids k)=false):rsV f=[]∧clB f=false:=by
  rcases ho with q|q
  · refine rs_none (rs_bad5 (out:=out) q hk ?_ h) fun e=>absurd e (by omega)
    by_cases k0:k=0
    · exact .inl k0
    · exact .inr (h5 q (by omega)).2.2
  · obtain ⟨e1,e2⟩:=rs_bad6 q hk (h6 q) h
    exact rs_none e1 fun _=>e2
theorem rs_end (hr:1≤f.op∧f.op≤10∧((f.op=1∨f.op=2∨f.op=3)→f.kids.length=0)∧((f.op=4∨f.op=7∨f.op=9)→f.kids.length=1)∧((f.op=5∨f.op=6)→2≤f.kids.length)∧
    ((f.op=8∨f.op=10)→f.kids.length=2)∧(¬(f.op=2∨f.op=3)→f.arg=0)∧(f.op=2→0≤f.arg∧f.arg < 64)∧(f.op=3→0≤f.arg∧f.arg≤1048576)) (ho:f.op=5∨f.op=6) (h5:f.op=5→0 < k→GdS out∧CLen (Fm.szs (f.kids.take k)) out∧cjL f.kids [[]]=cjL (f.kids.drop k) out) (h6:f.op=6→djO f.kids []=djO (f.kids.drop k) out) (hk:f.kids.length≤k):rsV f=out∧clB f=decide (out.length≤64):=by
  rcases ho with q|q
  · obtain ⟨g1,_,g3⟩:=h5 q (by have:=hr.2.2.2.2.1 (.inl q); omega)
    exact rs_end5 q g3 hk g1
  · exact rs_end6 q (h6 q) hk
theorem prd_len64 {a b:List Cl} (ha:a.length≤64) (hb:b.length≤64):(prd a b).length≤4096:=by
  have h:=prdF_len b a []
  have h2:a.length*b.length≤64*64:=Nat.mul_le_mul ha hb
  show (prdF [] a b).length≤4096
  simp only [List.length_nil,Nat.zero_add] at h
  omega
theorem cEB_no {g:Fm} (h:canB g=false):cErr (can g)≠0:=by
  unfold canB at h
  cases q:can g with
  |none=>exact (show (11:Int)≠0 by decide)
  |some x=>rw [q] at h; cases h
theorem cEB_yes {g:Fm} (h:canB g=true): ¬cErr (can g)≠0:=by
  unfold canB at h
  cases q:can g with
  |none=>rw [q] at h; cases h
  |some x=>exact fun e=>e rfl
end
end Go.Proofs.YteehaobohaecmaaGreatDoor
namespace Go.Proofs.YteehaobohaecmaaGreatDoor
theorem rs_gen {f:Fm} {k:Nat} {g:List Fm} (hr:1≤f.op∧f.op≤10∧((f.op=1∨f.op=2∨f.op=3)→f.kids.length=0)∧((f.op=4∨f.op=7∨f.op=9)→f.kids.length=1)∧((f.op=5∨f.op=6)→2≤f.kids.length)∧
    ((f.op=8∨f.op=10)→f.kids.length=2)∧(¬(f.op=2∨f.op=3)→f.arg=0)∧(f.op=2→0≤f.arg∧f.arg < 64)∧(f.op=3→0≤f.arg∧f.arg≤1048576)) (hn: ¬(f.op=1∨f.op=4∨f.op=5∨f.op=6)) (hg:g.length=k) (hk:k≤f.kids.length)
    (hc:canL f.kids=(canL (f.kids.drop k)).map fun r=>g++r) (hk2:f.kids.length≤k):rsV f=[[.nd f.op f.arg g]]∧clB f=true:=by
  by_cases h2:f.op=2∨f.op=3
  · have k0:f.kids=[]:=List.length_eq_zero_iff.1 (hr.2.2.1 (.inr h2))
    have g0:g=[]:=List.length_eq_zero_iff.1 (by rw [k0] at hk; simp at hk; omega)
    obtain ⟨e1,e2⟩:=rs_some (f:=f) (by omega) (cls_23 h2)
    refine ⟨?_,e2⟩
    rw [e1,g0]
    cases f
    simp only [Fm.kids] at k0
    subst k0; rfl
  · obtain ⟨e1,e2⟩:=rs_some (f:=f) (by omega) (cls_tend (by omega) hc hk2)
    refine ⟨?_,e2⟩
    rw [e1,hr.2.2.2.2.2.2.1 h2]
end Go.Proofs.YteehaobohaecmaaGreatDoor
namespace Go.Proofs.YteehaobohaecmaaGreatDoor
theorem kid4b {f:Fm} (hok:okF f=true) (hn:nnf f=true) (h4:f.op=4) (h1: ¬(nth f.kids 0).op=1) (a o:Int):decide ((mst (nth f.kids 0) a o).op≠1)=ntB (nth f.kids 0) a o:=by
  have hr:=rgt_ok (okF_parts hok).1
  have hr2:=rgt_ok (okF_parts ((okF_parts hok).2 0 (by omega))).1
  have h3:=(nnf_kid hn (k:=0) (by omega)).2 h4
  have tr: ∀ b:Bool,decide ((trF b).op≠1)= !b:=fun b=>by cases b <;> rfl
  unfold ntB
  rcases (show (nth f.kids 0).op=2∨(nth f.kids 0).op=3 by omega) with q|q
  · rw [mst_2 q,tr,← decide_not]
    exact decide_eq_decide.2 (by omega)
  · rw [mst_3 q,tr,← decide_not]
    exact decide_eq_decide.2 (by omega)
section
variable {l:List Fm} {f:Fm} {k:Nat}
theorem plc_yes (h:(decide (((k:Nat):Int) < ((l.length:Nat):Int))&& !sameF (nth l k) f)=true):k < l.length∧nth l k≠f:=by
  rw [Bool.and_eq_true,decide_eq_true_eq] at h
  refine ⟨by omega,fun e=>?_⟩
  have:=(sameF_iff _ _).2 e
  rw [this] at h; cases h.2
theorem plc_no (h:(decide (((k:Nat):Int) < ((l.length:Nat):Int))&& !sameF (nth l k) f)=false): ¬(k < l.length∧nth l k≠f):=fun ⟨h1,h2⟩=>by
  have e:sameF (nth l k) f=false:=by
    cases q:sameF (nth l k) f with
    |false=>rfl
    |true=>exact absurd ((sameF_iff _ _).1 q) h2
  rw [e,decide_eq_true (by omega)] at h; cases h
theorem plc_go (h:k < l.length) (hn:nth l k≠f):plc (l.drop k) f=plc (l.drop (k+1)) f+1:=by
  rw [nth_drop h,plc,if_neg hn]
theorem plc_end (hk:k≤l.length) (h: ¬(k < l.length∧nth l k≠f)):plc (l.drop k) f=0:=by
  by_cases q:k < l.length
  · rw [nth_drop q,plc,if_pos (Decidable.of_not_not fun e=>h ⟨q,e⟩)]
  · rw [List.drop_eq_nil_of_le (by omega)]; rfl
end
end Go.Proofs.YteehaobohaecmaaGreatDoor
namespace Go.Proofs.YteehaobohaecmaaGreatDoor
theorem kids2 {x y z:Fm} {p:Int}:V.sl [[iV x.op,iV x.arg,.sl (x.kids.map cF)],[iV p,iV 0,.sl [[iV y.op,iV y.arg,.sl (y.kids.map cF)],[iV z.op,iV z.arg,.sl (z.kids.map cF)]]]]=.sl (List.map cF [x,.nd p 0 [y,z]]):=by
  show _=V.sl [cF x,cF (.nd p 0 [y,z])]
  rw [cF_eq x,show cF (.nd p 0 [y,z])=[iV p,iV 0,.sl [cF y,cF z]] from cF_eq _,cF_eq y,cF_eq z]
end Go.Proofs.YteehaobohaecmaaGreatDoor
namespace Go.Proofs.YteehaobohaecmaaGreatDoor
theorem plc_snoc {g:Fm}: ∀ {l:List Fm},¬plc l g < l.length→plc (l++[g]) g=l.length
  |[],_=>by rw [List.nil_append,plc,if_pos rfl]; rfl
  | h :: l, q => by
    rw [plc] at q
    by_cases e:h=g
    · rw [if_pos e] at q; simp at q
    · rw [if_neg e] at q
      rw [List.cons_append,plc,if_neg e,plc_snoc (l:=l) (by simpa using q),List.length_cons]
theorem aRow_old2 {cur:Fm} {o n k:Nat} {l:List Fm} {r:List Int} (h:k < n) (e: ¬(stM cur ((k / o:Nat):Int) ((k % o:Nat):Int)).2≠0) (hp:plc l (stM cur ((k / o:Nat):Int) ((k % o:Nat):Int)).1 < l.length):
    aRow cur o (n - k) k l r=aRow cur o (n - (k+1)) (k+1) l (r++[((plc l (stM cur ((k / o:Nat):Int) ((k % o:Nat):Int)).1:Nat):Int)]):=by
  have:=aRow_old (r:=r) h e hp
  unfold lkV at this
  rw [if_pos hp] at this
  exact this
theorem hoB0 {g:Fm} (h:fval g=0):hoB t0 g=sat t0 g 0:=hoB_ok h (by decide) rfl
end Go.Proofs.YteehaobohaecmaaGreatDoor
namespace Go.Proofs.YteehaobohaecmaaGreatDoor
open Go Go.Proofs
theorem rord_pure_step (f h:Fm) (ih: ∀ (g h:Fm),g.sz < f.sz→PureC Tryz.prog 115 [(V.agg [(iV (g.op)),(iV (g.arg)),(V.sl (List.map cF (g.kids)))]),(V.agg [(iV (h.op)),(iV (h.arg)),(V.sl (List.map cF (h.kids)))])] (iV (ordF g h))):PureC Tryz.prog 115 [(V.agg [(iV (f.op)),(iV (f.arg)),(V.sl (List.map cF (f.kids)))]),(V.agg [(iV (h.op)),(iV (h.arg)),(V.sl (List.map cF (h.kids)))])] (iV (ordF f h)):=by
 refine pW Tryz.func115 s115_ok fun hB=>?_
 unfold s115
 dsimp only
 refine W_r (R_box (i:=2) (n:=0) (m:=3) (cs:=[(iV (f.op)),(iV (f.arg)),(V.sl (List.map cF (f.kids)))]) rfl (congrArg Blk.ver rfl) rfl rfl rfl (R_box (i:=3) (n:=0) (m:=3) (cs:=[(iV (h.op)),(iV (h.arg)),(V.sl (List.map cF (h.kids)))]) rfl (congrArg Blk.ver rfl) rfl rfl rfl (R_mv rfl (R_e (W_r (R_fk rfl rfl (R_lk rfl rfl rfl rfl ?_)))))))
 refine R_fk rfl rfl (R_lk rfl rfl rfl rfl (R_fk rfl rfl (R_lk rfl rfl rfl rfl (R_len rfl (R_build rfl rfl (R_alloc (i:=5) (n:=0) (m:=3) rfl (congrArg Blk.ver rfl) rfl (R_sk rfl rfl rfl rfl rfl rfl rfl rfl rfl ?_)))))))
 refine R_e (W_r (R_fk rfl rfl (R_lk rfl rfl rfl rfl (R_fk rfl rfl (R_lk rfl rfl rfl rfl (R_fk rfl rfl (R_lk rfl rfl rfl rfl ?_)))))))
 refine R_len rfl (R_build rfl rfl (R_alloc (i:=6) (n:=0) (m:=3) rfl (congrArg Blk.ver rfl) rfl (R_sk rfl rfl rfl rfl rfl rfl rfl rfl rfl (R_e (W_seq_seq (W_r (R_mv rfl ?_)))))))
 refine R_e (W_seq_blockg fun Q1 n1 x1 y1 z1=>?_)
 refine W_loop (fun mm T H=> ∃ (k:Nat),mm=3 - k∧T 2=(V.mp 2 1 0 0)∧T 3=(V.mp 3 1 0 0)∧T 5=(V.mp 5 1 0 0)∧T 6=(V.mp 6 1 0 0)∧T 7=(iV ((k:Nat):Int))∧H 2=(bk 1 24 3 [[(iV (f.op)),(iV (f.arg)),(V.sl (List.map cF (f.kids)))]])∧H 3=(bk 1 24 3 [[(iV (h.op)),(iV (h.arg)),(V.sl (List.map cF (h.kids)))]])∧H 5=(bk 1 179 3 [[(iV (f.op)),(iV (f.arg)),(iV ((f.kids.length:Nat):Int))]])∧H 6=(bk 1 179 3 [[(iV (h.op)),(iV (h.arg)),(iV ((h.kids.length:Nat):Int))]])∧(k≤3)∧(∀ j,j < k→nth [f.op,f.arg,(f.kids.length:Int)] j=nth [h.op,h.arg,(h.kids.length:Int)] j)) ?_ ?_
 ·
  refine ⟨_,0,rfl,rfl,rfl,rfl,rfl,(Eq.trans (@rfl V (iV (0:Int))) rfl),rfl,rfl,rfl,rfl,?_,?_⟩
  · omega
  · intro j hj; omega
 intro mm T H ⟨k,hmm,t2,t3,t5,t6,t7,h2,h3,h5,h6,hk,he⟩ Q2 p12 p22 p32
 unfold b115_0
 refine W_seq_seq (W_r (R_mv t7 (R_lss rfl rfl (R_e ?_))))
 refine W_seq_if rfl (fun c3=>?_) fun c3=>?_
 ·
  refine W_seq_skip (W_seq_blockg fun Q4 n4 x4 y4 z4=>(W_seq_seq (W_r (R_mv t7 (R_apos_mp (i:=k) (o':=k) t5 (@rfl V (iV ((k:Nat):Int))) h5 oB (by omega) (by omega) (R_load_mp (v:=(iV ((nth [f.op,f.arg,(f.kids.length:Int)] k)))) rfl h5 (ld3 (by omega)) (R_mv t7 ?_)))))))
  refine R_apos_mp (i:=k) (o':=k) t6 (@rfl V (iV ((k:Nat):Int))) h6 oB (by omega) (by omega) (R_load_mp (v:=(iV ((nth [h.op,h.arg,(h.kids.length:Int)] k)))) rfl h6 (ld3 (by omega)) (R_lss rfl rfl (R_e ?_)))
  refine W_seq_if rfl (fun c5=>?_) fun c5=>?_
  ·
   refine W_seq_seq (W_r (R_mv rfl (R_e (W_seq_ret (y4 _ _ (p22 _ _ (y1 _ _ ?_)))))))
   refine Ret_1 (@rfl V (iV (-1:Int))) (fz_int ?_)
   · exact (ord3_lt (by omega) he (by assumption)).symm
  refine W_seq_skip (W_r (R_mv t7 (R_apos_mp (i:=k) (o':=k) t5 (@rfl V (iV ((k:Nat):Int))) h5 oB (by omega) (by omega) (R_load_mp (v:=(iV ((nth [f.op,f.arg,(f.kids.length:Int)] k)))) rfl h5 (ld3 (by omega)) (R_mv t7 (R_apos_mp (i:=k) (o':=k) t6 (@rfl V (iV ((k:Nat):Int))) h6 oB (by omega) (by omega) (R_load_mp (v:=(iV ((nth [h.op,h.arg,(h.kids.length:Int)] k)))) rfl h6 (ld3 (by omega)) ?_)))))))
  refine R_gtr rfl rfl (R_e ?_)
  refine W_if rfl (fun c6=>?_) fun c6=>?_
  ·
   refine W_r (R_mv rfl (R_e (W_ret (y4 _ _ (p22 _ _ (y1 _ _ ?_))))))
   refine Ret_1 (@rfl V (iV (1:Int))) (fz_int ?_)
   · exact (ord3_gt (by omega) he (by assumption)).symm
  refine W_skip (n4 _ _ (.done (W_t (R_mv t7 (R_addN rfl (@rfl V (iV ((1:Nat):Int))) (by omega) (R_mv rfl (R_e ?_)))))))
  refine p12 _ _ _ ?_ ⟨(k+1),rfl,t2,t3,t5,t6,(Eq.trans (@rfl V (iV ((k+1:Nat):Int))) (by rfl)),h2,h3,h5,h6,?_,?_⟩
  · omega
  · omega
  · intro j hj
    by_cases e:j=k
    · subst e; omega
    · exact he j (by omega)
 refine W_seq_exit (p32 _ _ _ (x1 _ _ (.done (W_seq_seq (W_r (R_mv rfl (R_e ?_)))))))
 refine W_seq_blockg fun Q7 n7 x7 y7 z7=>?_
 refine W_loop (fun mm T H=> ∃ (k:Nat),mm=f.kids.length - k∧T 2=(V.mp 2 1 0 0)∧T 3=(V.mp 3 1 0 0)∧T 8=(iV ((k:Nat):Int))∧H 2=(bk 1 24 3 [[(iV (f.op)),(iV (f.arg)),(V.sl (List.map cF (f.kids)))]])∧H 3=(bk 1 24 3 [[(iV (h.op)),(iV (h.arg)),(V.sl (List.map cF (h.kids)))]])∧H 5=(bk 1 179 3 [[(iV (f.op)),(iV (f.arg)),(iV ((f.kids.length:Nat):Int))]])∧H 6=(bk 1 179 3 [[(iV (h.op)),(iV (h.arg)),(iV ((h.kids.length:Nat):Int))]])∧(f.kids.length=h.kids.length)∧(ordF f h=ordL (f.kids.drop k) (h.kids.drop k))) ?_ ?_
 ·
  refine ⟨_,0,rfl,t2,t3,(Eq.trans (@rfl V (iV (0:Int))) rfl),h2,h3,h5,h6,?_,?_⟩
  · exact (ord3_eq (by omega) he).1
  · exact (ord3_eq (by omega) he).2
 intro mm T H ⟨k,hmm,t2,t3,t8,h2,h3,h5,h6,hl,hc⟩ Q8 p18 p28 p38
 unfold b115_1
 refine W_seq_seq (W_r (R_mv t8 (R_fk t2 h2 (R_lk rfl h2 rfl rfl (R_len rfl (R_lss rfl rfl (R_e ?_)))))))
 refine W_seq_if rfl (fun c9=>?_) fun c9=>?_
 ·
  refine W_seq_skip (W_seq_blockg fun Q10 n10 x10 y10 z10=>(W_r (R_fk t2 h2 (R_lk rfl h2 rfl rfl (R_mv t8 (R_idxu (i:=k) (@rfl V (V.sl (List.map cF (f.kids)))) (@rfl V (iV ((k:Nat):Int))) (by omega) (cF_eq _) rfl (R_load_pp rfl rfl ?_)))))))
  refine R_fk t3 h3 (R_lk rfl h3 rfl rfl (R_mv t8 (R_idxu (i:=k) (@rfl V (V.sl (List.map cF (h.kids)))) (@rfl V (iV ((k:Nat):Int))) (by omega) (cF_eq _) rfl (R_load_pp rfl rfl (R_callk (ih (((nth (f.kids) (k)))) (((nth (h.kids) (k)))) (Fm.sz_kid (by omega))) rfl (R_mv rfl (R_e ?_)))))))
  refine W_r (R_mv rfl (R_neq rfl rfl (R_e ?_)))
  refine W_if rfl (fun c11=>?_) fun c11=>?_
  ·
   have d1:ordF (nth f.kids k) (nth h.kids k)≠0:=c11
   refine W_r (R_mv rfl (R_mv rfl (R_e (W_ret (y10 _ _ (p28 _ _ (y7 _ _ ?_)))))))
   refine Ret_1 (@rfl V (iV (ordF (((nth (f.kids) (k)))) (((nth (h.kids) (k))))))) (fz_int ?_)
   · rw [hc,ordL_yes (by omega) (by omega) d1]
  have d1: ¬ordF (nth f.kids k) (nth h.kids k)≠0:=c11
  refine W_skip (n10 _ _ (.done (W_t (R_mv t8 (R_addN rfl (@rfl V (iV ((1:Nat):Int))) (by omega) (R_mv rfl (R_e ?_)))))))
  refine p18 _ _ _ ?_ ⟨(k+1),rfl,t2,t3,(Eq.trans (@rfl V (iV ((k+1:Nat):Int))) (by rfl)),h2,h3,h5,h6,?_,?_⟩
  · omega
  · omega
  · rw [hc,ordL_no (by omega) (by omega) d1]
 refine W_seq_exit (p38 _ _ _ (x7 _ _ (.done (W_r (R_mv rfl (R_e (W_ret ?_)))))))
 refine Ret_1 (@rfl V (iV (0:Int))) (fz_int ?_)
 · rw [hc,ordL_end (by omega)]
theorem rord_pure (f h:Fm):PureC Tryz.prog 115 [(V.agg [(iV (f.op)),(iV (f.arg)),(V.sl (List.map cF (f.kids)))]),(V.agg [(iV (h.op)),(iV (h.arg)),(V.sl (List.map cF (h.kids)))])] (iV (ordF f h)):=by
  have key: ∀ (mm:Nat) (f h:Fm),f.sz < mm→PureC Tryz.prog 115 [(V.agg [(iV (f.op)),(iV (f.arg)),(V.sl (List.map cF (f.kids)))]),(V.agg [(iV (h.op)),(iV (h.arg)),(V.sl (List.map cF (h.kids)))])] (iV (ordF f h)):=by
    intro mm
    induction mm with
    |zero=>intro f h hlt; exact absurd hlt (Nat.not_lt_zero _)
    | succ mm ih =>
      intro f h hlt
      exact rord_pure_step f h fun f2 h2 hlt2=>ih f2 h2 (by omega)
  exact key (f.sz+1) f h (Nat.lt_succ_self _)
theorem rwith_pure (l:List Fm) (f:Fm) (hs:SrtF l) (hl:l.length≤4294967296):PureC Tryz.prog 93 [(V.sl (List.map cF (l))),(V.agg [(iV (f.op)),(iV (f.arg)),(V.sl (List.map cF (f.kids)))])] (V.sl (List.map cF (insF f l))):=by
 refine pW Tryz.func93 s93_ok fun hB=>?_
 unfold s93
 dsimp only
 refine W_r (R_box (i:=3) (n:=0) (m:=3) (cs:=[(iV (f.op)),(iV (f.arg)),(V.sl (List.map cF (f.kids)))]) rfl (congrArg Blk.ver rfl) rfl rfl rfl (R_mv rfl (R_e (W_r (R_lazy (i:=5) (n:=0) rfl (congrArg Blk.ver rfl) (R_e (W_r ?_)))))))
 refine R_mv rfl (R_e (W_seq_seq (W_r (R_mv rfl (R_e (W_seq_blockg fun Q1 n1 x1 y1 z1=>?_))))))
 refine W_loop (fun mm T H=> ∃ (k:Nat) (out:List Fm) (dn:Bool) (v:Nat),mm=l.length - k∧T 0=(V.sl (List.map cF (l)))∧T 3=(V.mp 3 1 0 0)∧T 5=(V.ms 5 v 0 (out.length))∧T 6=(V.bool dn)∧T 7=(iV ((k:Nat):Int))∧H 3=(bk 1 24 3 [[(iV (f.op)),(iV (f.arg)),(V.sl (List.map cF (f.kids)))]])∧H 5=(bz v 24 3 (List.map cF (out)))∧(k≤l.length)∧(out.length≤2*k)∧(rW f false l=out++rW f dn (l.drop k))) ?_ ?_
 ·
  refine ⟨_,0,[],false,1,rfl,rfl,rfl,(Eq.trans (@rfl V (V.ms 5 1 0 (0))) (by rfl)),rfl,(Eq.trans (@rfl V (iV (0:Int))) rfl),rfl,(Eq.trans (@rfl Blk (bz 1 24 3 [])) (by rfl)),?_,?_,?_⟩
  · omega
  · exact Nat.zero_le _
  · rfl
 intro mm T H ⟨k,out,dn,v,hmm,t0,t3,t5,t6,t7,h3,h5,hk,hn,hc⟩ Q2 p12 p22 p32
 unfold b93_0
 refine W_seq_seq (W_r (R_mv t7 (R_mv t0 (R_len rfl (R_lss rfl rfl (R_e ?_))))))
 refine W_seq_if rfl (fun c3=>?_) fun c3=>?_
 ·
  refine W_seq_skip (W_seq_blockg fun Q4 n4 x4 y4 z4=>(W_r (R_lk t3 h3 rfl rfl (R_mv t0 (R_mv t7 (R_idxu (i:=k) (@rfl V (V.sl (List.map cF (l)))) (@rfl V (iV ((k:Nat):Int))) (by omega) (cF_eq _) rfl (R_load_pp rfl rfl ?_)))))))
  refine R_callk (rord_pure f (((nth (l) (k))))) rfl (R_mv rfl (R_e (W_seq_seq (W_r (R_mv rfl (R_leq rfl rfl (R_mv rfl ?_)))))))
  refine Ops_seg 3 (fun T H=>T 0=(V.sl (List.map cF (l)))∧T 3=(V.mp 3 1 0 0)∧T 5=(V.ms 5 v 0 (out.length))∧T 6=(V.bool dn)∧T 7=(iV ((k:Nat):Int))∧T 8=(iV (ordF f (((nth (l) (k))))))∧T 26=(V.bool ((decide ((ordF f (((nth (l) (k)))))≤(0:Int))&&((!dn)))))∧H 3=(bk 1 24 3 [[(iV (f.op)),(iV (f.arg)),(V.sl (List.map cF (f.kids)))]])∧H 5=(bz v 24 3 (List.map cF (out)))∧True) ?_ ?_
  ·
   by_cases g5:(ordF f (((nth (l) (k)))))≤(0:Int)
   ·
    refine G_yes (edT g5 rfl) (R_mv t6 (G_yes (edT g5 rfl) (R_notb rfl (R_pickT (edT g5 rfl) rfl ?_))))
    exact ⟨t0,t3,t5,t6,t7,rfl,(dbandT g5),h3,h5,trivial⟩
   ·
    refine G_n (edF g5 rfl) (G_n (edF g5 rfl) (R_pickF (edF g5 rfl) rfl ?_))
    exact ⟨t0,t3,t5,t6,t7,rfl,(dbandF g5),h3,h5,trivial⟩
  intro T H ⟨t0,t3,t5,t6,t7,t8,t26,h3,h5,_⟩
  refine R_e ?_
  refine W_seq_ifb t26 (fun c6=>?_) (fun c6=>?_)
  ·
   have q:=c6
   rw [Bool.and_eq_true,decide_eq_true_eq] at q
   have d1:=q.1
   have d2:dn=false:=by simpa using q.2
   refine W_seq_seq (W_r (R_mv t5 (R_lk t3 h3 rfl rfl (R_bslice rfl rfl (R_append1 (l:=out) (f:=cF) (x:=f) (@rfl V (V.ms 5 v 0 (out.length))) h5 (by rfl) (row_F1 (x:=f) (@rfl V (V.sl [[(iV (f.op)),(iV (f.arg)),(V.sl (List.map cF (f.kids)))]]))) (cF_len _) (cF_one _) (by omega) (by omega) (R_mv rfl (R_e ?_)))))))
   refine W_r (R_mv rfl (R_e (W_r (R_mv t8 (R_neq rfl rfl (R_e ?_))))))
   refine W_if rfl (fun c7=>?_) fun c7=>?_
   ·
    have d3:ordF f (nth l k)≠0:=c7
    refine W_t (R_mv rfl (R_mv t0 (R_mv t7 (R_idxu (i:=k) (@rfl V (V.sl (List.map cF (l)))) (@rfl V (iV ((k:Nat):Int))) (by omega) (cF_eq _) rfl (R_load_pp rfl rfl (R_bslice rfl rfl (R_append1 (l:=(out++[f])) (f:=cF) (x:=(((nth (l) (k))))) (@rfl V (V.ms 5 (v+1) 0 (out.length+1))) (@rfl Blk (bz (v+1) 24 3 (List.map cF (out++[f])))) (by simp) (row_F1 (x:=(((nth (l) (k))))) (@rfl V (V.sl [[(iV (((nth (l) (k))).op)),(iV (((nth (l) (k))).arg)),(V.sl (List.map cF (((nth (l) (k))).kids)))]]))) (cF_len _) (cF_one _) (by omega) (by omega) ?_)))))))
    refine R_mv rfl (R_e (n4 _ _ (.done (W_t (R_mv t7 (R_addN rfl (@rfl V (iV ((1:Nat):Int))) (by omega) (R_mv rfl ?_)))))))
    refine R_e ?_
    refine p12 _ _ _ ?_ ⟨(k+1),(out++[f]++[((nth (l) (k)))]),true,(v+2),rfl,t0,t3,(Eq.trans (@rfl V (V.ms 5 (v+2) 0 (out.length+2))) (by simp)),rfl,(Eq.trans (@rfl V (iV ((k+1:Nat):Int))) (by rfl)),h3,(Eq.trans (@rfl Blk (bz (v+2) 24 3 (List.map cF (out++[f]++[((nth (l) (k)))])))) (by rfl)),?_,?_,?_⟩
    · omega
    · omega
    · first|omega|(simp only [List.length_append,List.length_cons,List.length_nil]; omega)
    · rw [hc,rW_step (by omega)]; first|(rw [if_pos ⟨d1,d2⟩,if_pos d3]; simp [d1]; done)|(rw [if_pos ⟨d1,d2⟩,if_neg d3]; simp [d1]; done)|(rw [if_neg d1,if_pos d3]; simp [d4]; done)|(rw [if_neg d1,if_neg d3]; simp [d4]; done)
   have d3: ¬ordF f (nth l k)≠0:=c7
   refine W_skip (n4 _ _ (.done (W_t (R_mv t7 (R_addN rfl (@rfl V (iV ((1:Nat):Int))) (by omega) (R_mv rfl (R_e ?_)))))))
   refine p12 _ _ _ ?_ ⟨(k+1),(out++[f]),true,(v+1),rfl,t0,t3,(Eq.trans (@rfl V (V.ms 5 (v+1) 0 (out.length+1))) (by simp)),rfl,(Eq.trans (@rfl V (iV ((k+1:Nat):Int))) (by rfl)),h3,(Eq.trans (@rfl Blk (bz (v+1) 24 3 (List.map cF (out++[f])))) (by rfl)),?_,?_,?_⟩
   · omega
   · omega
   · first|omega|(simp only [List.length_append,List.length_cons,List.length_nil]; omega)
   · rw [hc,rW_step (by omega)]; first|(rw [if_pos ⟨d1,d2⟩,if_pos d3]; simp [d1]; done)|(rw [if_pos ⟨d1,d2⟩,if_neg d3]; simp [d1]; done)|(rw [if_neg d1,if_pos d3]; simp [d4]; done)|(rw [if_neg d1,if_neg d3]; simp [d4]; done)
  have d1: ¬(ordF f (nth l k)≤0∧dn=false):=fun q=>by have c:=c6; rw [decide_eq_true q.1,q.2] at c; cases c
  have d4:(dn||decide (ordF f (nth l k)≤0))=dn:=by cases q:dn with
    |true=>rfl
    |false=>rw [decide_eq_false fun e=>d1 ⟨e,q⟩]; rfl
  refine W_seq_skip (W_r (R_mv t8 (R_neq rfl rfl (R_e ?_))))
  refine W_if rfl (fun c8=>?_) fun c8=>?_
  ·
   have d3:ordF f (nth l k)≠0:=c8
   refine W_t (R_mv t5 (R_mv t0 (R_mv t7 (R_idxu (i:=k) (@rfl V (V.sl (List.map cF (l)))) (@rfl V (iV ((k:Nat):Int))) (by omega) (cF_eq _) rfl (R_load_pp rfl rfl (R_bslice rfl rfl (R_append1 (l:=out) (f:=cF) (x:=(((nth (l) (k))))) (@rfl V (V.ms 5 v 0 (out.length))) h5 (by rfl) (row_F1 (x:=(((nth (l) (k))))) (@rfl V (V.sl [[(iV (((nth (l) (k))).op)),(iV (((nth (l) (k))).arg)),(V.sl (List.map cF (((nth (l) (k))).kids)))]]))) (cF_len _) (cF_one _) (by omega) (by omega) ?_)))))))
   refine R_mv rfl (R_e (n4 _ _ (.done (W_t (R_mv t7 (R_addN rfl (@rfl V (iV ((1:Nat):Int))) (by omega) (R_mv rfl ?_)))))))
   refine R_e ?_
   refine p12 _ _ _ ?_ ⟨(k+1),(out++[((nth (l) (k)))]),dn,(v+1),rfl,t0,t3,(Eq.trans (@rfl V (V.ms 5 (v+1) 0 (out.length+1))) (by simp)),t6,(Eq.trans (@rfl V (iV ((k+1:Nat):Int))) (by rfl)),h3,(Eq.trans (@rfl Blk (bz (v+1) 24 3 (List.map cF (out++[((nth (l) (k)))])))) (by rfl)),?_,?_,?_⟩
   · omega
   · omega
   · first|omega|(simp only [List.length_append,List.length_cons,List.length_nil]; omega)
   · rw [hc,rW_step (by omega)]; first|(rw [if_pos ⟨d1,d2⟩,if_pos d3]; simp [d1]; done)|(rw [if_pos ⟨d1,d2⟩,if_neg d3]; simp [d1]; done)|(rw [if_neg d1,if_pos d3]; simp [d4]; done)|(rw [if_neg d1,if_neg d3]; simp [d4]; done)
  have d3: ¬ordF f (nth l k)≠0:=c8
  refine W_skip (n4 _ _ (.done (W_t (R_mv t7 (R_addN rfl (@rfl V (iV ((1:Nat):Int))) (by omega) (R_mv rfl (R_e ?_)))))))
  refine p12 _ _ _ ?_ ⟨(k+1),out,dn,v,rfl,t0,t3,t5,t6,(Eq.trans (@rfl V (iV ((k+1:Nat):Int))) (by rfl)),h3,h5,?_,?_,?_⟩
  · omega
  · omega
  · first|omega|(simp only [List.length_append,List.length_cons,List.length_nil]; omega)
  · rw [hc,rW_step (by omega)]; first|(rw [if_pos ⟨d1,d2⟩,if_pos d3]; simp [d1]; done)|(rw [if_pos ⟨d1,d2⟩,if_neg d3]; simp [d1]; done)|(rw [if_neg d1,if_pos d3]; simp [d4]; done)|(rw [if_neg d1,if_neg d3]; simp [d4]; done)
 refine W_seq_exit (p32 _ _ _ (x1 _ _ (.done (W_seq_seq (W_r (R_mv t6 (R_notb rfl ?_)))))))
 refine R_e ?_
 refine W_seq_ifb rfl (fun c9=>?_) (fun c9=>?_)
 ·
  refine W_r (R_mv t5 (R_lk t3 h3 rfl rfl (R_bslice rfl rfl (R_append1 (l:=out) (f:=cF) (x:=f) (@rfl V (V.ms 5 v 0 (out.length))) h5 (by rfl) (row_F1 (x:=f) (@rfl V (V.sl [[(iV (f.op)),(iV (f.arg)),(V.sl (List.map cF (f.kids)))]]))) (cF_len _) (cF_one _) (by omega) (by omega) (R_mv rfl (R_e (W_r ?_)))))))
  refine R_mv rfl (R_mv rfl (R_e (W_ret ?_)))
  refine Ret_1 (@rfl V (V.ms 5 (v+1) 0 (out.length+1))) (fz_ms (@rfl Blk (bz (v+1) 24 3 (List.map cF (out++[f])))) (by simp) (l:=(out++[f])) rfl (by simp) (fun _=>by simp) ?_)
  · rw [← rW_ins hs,hc,rW_end (by omega)]; simp_all
 refine W_seq_skip (W_r (R_mv t5 (R_mv rfl (R_e (W_ret ?_)))))
 refine Ret_1 (@rfl V (V.ms 5 v 0 (out.length))) (fz_ms h5 (by simp) (l:=out) rfl (by rfl) (fun _=>by simp) ?_)
 · rw [← rW_ins hs,hc,rW_end (by omega)]; simp_all
def s94:SF:=⟨14,[.cell 4 true 3],.seq (.reg [sO 4 (.alloc 24 [.int .i64 0,.int .i64 0,.nilsl])]) (.seq (.seq (.reg [qM 5 1,qN 6 5,qC 7 .eql 6 1]) (.cond (.t 7) (.seq (.reg [qM 8 1,sO 9 (.idx 3 (.t 8) (.c (.int .i64 0))),qL 10 3 9,sN (.store 3 (.t 4) (.t 10))]) (.ret)) (.skip))) (.seq (.reg [qM 11 0,qM 12 1,sO 13 (.build [.int .i64 0,.int .i64 0,.nilsl] [(0,1,.t 11),(2,1,.t 12)]),sN (.store 3 (.t 4) (.t 13))]) (.ret)))⟩
theorem s94_ok:slimF Tryz.prog ⟨[59,84,90,97,109,153,154,155,160],[],[],[]⟩ Tryz.f94=some s94:=by kernel_rfl
theorem rjoin_pure (o:Int) (l:List Fm):PureC Tryz.prog 94 [(iV (o)),(V.sl (List.map cF (l)))] (V.agg [(iV ((jnd o l).op)),(iV ((jnd o l).arg)),(V.sl (List.map cF ((jnd o l).kids)))]):=by
 refine pW Tryz.func94 s94_ok fun hB=>?_
 unfold s94
 dsimp only
 refine W_r (R_alloc (i:=4) (n:=0) (m:=3) rfl (congrArg Blk.ver rfl) rfl (R_e (W_seq_seq (W_r (R_mv rfl (R_len rfl (R_eql rfl rfl ?_)))))))
 refine R_e ?_
 refine W_seq_if rfl (fun c1=>?_) fun c1=>?_
 ·
  refine W_seq_seq (W_r (R_mv rfl (R_idxu (i:=0) (@rfl V (V.sl (List.map cF (l)))) (@rfl V (iV ((0:Nat):Int))) (by omega) (cF_eq _) rfl (R_load_pp rfl rfl (R_sk rfl rfl rfl rfl rfl rfl rfl rfl rfl (R_e (W_seq_ret ?_)))))))
  refine RetC_1 (resV_c (u:=(V.agg [(iV (((nth (l) (0))).op)),(iV (((nth (l) (0))).arg)),(V.sl (List.map cF (((nth (l) (0))).kids)))])) rfl (@rfl Blk (bk 1 24 3 [[(iV (((nth (l) (0))).op)),(iV (((nth (l) (0))).arg)),(V.sl (List.map cF (((nth (l) (0))).kids)))]])) (lB oB rfl rfl)) (fz_agg3 (fz_int ?_) (fz_int ?_) (fz_sl ?_ (fun _=>by simp)))
  · rw [jnd_1 (by omega)]
  · rw [jnd_1 (by omega)]
  · rw [jnd_1 (by omega)]
 refine W_seq_skip (W_r (R_mv rfl (R_mv rfl (R_build rfl rfl (R_sk rfl rfl rfl rfl rfl rfl rfl rfl rfl (R_e (W_ret ?_)))))))
 refine RetC_1 (resV_c (u:=(V.agg [(iV (o)),(iV (0:Int)),(V.sl (List.map cF (l)))])) rfl (@rfl Blk (bk 1 24 3 [[(iV (o)),(iV (0:Int)),(V.sl (List.map cF (l)))]])) (lB oB rfl rfl)) (fz_agg3 (fz_int ?_) (fz_int ?_) (fz_sl ?_ (fun _=>by simp)))
 · rw [jnd_n (by omega)]; try rfl
 · rw [jnd_n (by omega)]; try rfl
 · rw [jnd_n (by omega)]; try rfl
theorem rcan_pure (f:Fm) (hok:okF f=true) (hz:f.sz≤268435456) (hq:PureC Tryz.prog 92 [(V.agg [(iV (f.op)),(iV (f.arg)),(V.sl (List.map cF (f.kids)))])] (V.tup [(V.sl (List.map cCl (rsV f))),(V.bool (clB f))])):PureC Tryz.prog 64 [(V.agg [(iV (f.op)),(iV (f.arg)),(V.sl (List.map cF (f.kids)))])] (V.tup [(V.agg [(iV ((fVal (can f)).op)),(iV ((fVal (can f)).arg)),(V.sl (List.map cF ((fVal (can f)).kids)))]),(V.bool (canB f))]):=by
 refine pW Tryz.func64 s64_ok fun hB=>?_
 unfold s64
 dsimp only
 refine W_r (R_box (i:=1) (n:=0) (m:=3) (cs:=[(iV (f.op)),(iV (f.arg)),(V.sl (List.map cF (f.kids)))]) rfl (congrArg Blk.ver rfl) rfl rfl rfl (R_alloc (i:=2) (n:=0) (m:=3) rfl (congrArg Blk.ver rfl) rfl (R_mv rfl (R_e (W_r (R_lk rfl rfl rfl rfl (R_callk (hq) rfl ?_)))))))
 refine R_mv rfl (R_ext rfl rfl (R_ext rfl rfl (R_mv rfl (R_mv rfl (R_e (W_seq_seq (W_r ?_)))))))
 refine R_mv rfl (R_notb rfl (R_e ?_))
 refine W_seq_ifb rfl (fun c1=>?_) (fun c1=>?_)
 ·
  have d0:clB f=false:=by simpa using c1
  have d1:can f=none:=by unfold can; rw [clB_none d0]; rfl
  refine W_seq_seq (W_r (R_build rfl rfl (R_sk rfl rfl rfl rfl rfl rfl rfl rfl rfl (R_mv rfl (R_e (W_seq_ret ?_))))))
  refine RetC_2 (resV_c (u:=(V.agg [(iV (0:Int)),(iV (0:Int)),V.nilsl])) rfl (@rfl Blk (bk 1 24 3 [[(iV (0:Int)),(iV (0:Int)),V.nilsl]])) (lB oB rfl rfl)) (resV_t (@rfl V (V.bool false))) (fz_agg3 (fz_int ?_) (fz_int ?_) (fz_nil ?_)) (fz_bool ?_)
  · rw [d1]; rfl
  · rw [d1]; rfl
  · rw [d1]; rfl
  · rw [canB_cl,d0]
 have d0:=clB_some (f:=f) (by simpa using c1)
 have db:clB f=true:=by simpa using c1
 have d1:can f=some (fin (rsV f)):=by unfold can; rw [d0]; rfl
 have g1:=cls_good f hok _ d0
 have g2:=cls_clen f _ d0
 have g3:=g1.len
 refine W_seq_skip ?_
 refine W_seq_g (fun T H=>T 2=(V.mp 2 1 0 0)∧T 4=(V.sl (List.map cCl ((rsV f))))∧T 6=(V.mp 6 1 0 0)∧H 1=(bk 1 24 3 [[(iV (f.op)),(iV (f.arg)),(V.sl (List.map cF (f.kids)))]])∧H 2=(bk 1 24 3 [[(iV (0:Int)),(iV (0:Int)),V.nilsl]])∧H 6=(bk 1 24 3 [[(iV (1:Int)),(iV (0:Int)),V.nilsl]])∧True) ?_ ?_
 ·
  refine R_build rfl rfl (R_alloc (i:=6) (n:=0) (m:=3) rfl (congrArg Blk.ver rfl) rfl (R_sk rfl rfl rfl rfl rfl rfl rfl rfl rfl ?_))
  exact R_nil ⟨rfl,rfl,rfl,rfl,rfl,rfl,trivial⟩
 intro T H ⟨t2,t4,t6,h1,h2,h6,_⟩
 refine nz_one (r':=[(iV (1:Int)),(iV (0:Int)),(V.sl (List.map cF ([])))]) h6 rfl (.done ?_)
 refine fork_ (R:=fun T H=>T 2=(V.mp 2 1 0 0)∧T 4=(V.sl (List.map cCl ((rsV f))))∧T 6=(V.mp 6 1 0 0)∧H 1=(bk 1 24 3 [[(iV (f.op)),(iV (f.arg)),(V.sl (List.map cF (f.kids)))]])∧H 2=(bk 1 24 3 [[(iV (0:Int)),(iV (0:Int)),V.nilsl]])∧H 6=(bk 1 24 3 [[(iV (1:Int)),(iV (0:Int)),(V.sl (List.map cF ([])))]])∧True) ⟨t2,t4,t6,((upd_ne _ _ (by decide)).trans h1),((upd_ne _ _ (by decide)).trans h2),(upd_same _ _ _),trivial⟩ ?_
 intro T H ⟨t2,t4,t6,h1,h2,h6,_⟩
 refine W_seq_seq (W_r (R_mv t4 (R_len rfl (R_eql rfl rfl (R_e ?_)))))
 refine W_seq_if rfl (fun c2=>?_) fun c2=>?_
 ·
  rw [fin_0 (by omega)] at d1
  refine W_seq_seq (W_r (R_lk t6 h6 rfl rfl (R_bslice rfl rfl (R_build rfl rfl (R_sk t2 rfl rfl h2 rfl rfl rfl rfl rfl (R_mv rfl (R_e ?_)))))))
  refine W_seq_ret ?_
  refine RetC_2 (resV_c (u:=(V.agg [(iV (4:Int)),(iV (0:Int)),(V.sl [[(iV (1:Int)),(iV (0:Int)),(V.sl (List.map cF ([])))]])])) t2 (@rfl Blk (bk 1 24 3 [[(iV (4:Int)),(iV (0:Int)),(V.sl [[(iV (1:Int)),(iV (0:Int)),(V.sl (List.map cF ([])))]])]])) (lB oB rfl rfl)) (resV_t (@rfl V (V.bool true))) (fz_agg3 (fz_int ?_) (fz_int ?_) (fz_canon (by simp) (Eq.trans (sl_F1 (x:=((Fm.nd (1:Int) (0:Int) []))) rfl) (congrArg (fun l=>V.sl (List.map cF l)) ?_)))) (fz_bool ?_)
  · rw [d1]; rfl
  · rw [d1]; rfl
  · rw [d1]; rfl
  · rw [canB_cl,db]
 refine W_seq_skip (W_r (R_mv rfl (R_e (W_seq_seq ?_))))
 refine W_seq_g (fun T H=>T 2=(V.mp 2 1 0 0)∧T 4=(V.sl (List.map cCl ((rsV f))))∧T 6=(V.mp 6 1 0 0)∧T 7=V.nilsl∧T 8=(iV (0:Int))∧H 1=(bk 1 24 3 [[(iV (f.op)),(iV (f.arg)),(V.sl (List.map cF (f.kids)))]])∧H 2=(bk 1 24 3 [[(iV (0:Int)),(iV (0:Int)),V.nilsl]])∧H 6=(bk 1 24 3 [[(iV (1:Int)),(iV (0:Int)),(V.sl (List.map cF ([])))]])∧True) ?_ ?_
 ·
  refine R_mv rfl ?_
  exact R_nil ⟨t2,t4,t6,rfl,rfl,h1,h2,h6,trivial⟩
 intro T H ⟨t2,t4,t6,t7,t8,h1,h2,h6,_⟩
 refine G_nil t7 (fork_ (R:=fun T H=>T 2=(V.mp 2 1 0 0)∧T 4=(V.sl (List.map cCl ((rsV f))))∧T 6=(V.mp 6 1 0 0)∧T 7=(V.sl [])∧T 8=(iV (0:Int))∧H 1=(bk 1 24 3 [[(iV (f.op)),(iV (f.arg)),(V.sl (List.map cF (f.kids)))]])∧H 2=(bk 1 24 3 [[(iV (0:Int)),(iV (0:Int)),V.nilsl]])∧H 6=(bk 1 24 3 [[(iV (1:Int)),(iV (0:Int)),(V.sl (List.map cF ([])))]])∧True) ⟨((upd_ne _ _ (by decide)).trans t2),((upd_ne _ _ (by decide)).trans t4),((upd_ne _ _ (by decide)).trans t6),(upd_same _ _ _),((upd_ne _ _ (by decide)).trans t8),h1,h2,h6,trivial⟩ ?_)
 intro T H ⟨t2,t4,t6,t7,t8,h1,h2,h6,_⟩
 refine W_seq_blockg fun Q3 n3 x3 y3 z3=>?_
 refine W_loop (fun mm T H=> ∃ (k:Nat),mm=(rsV f).length - k∧T 2=(V.mp 2 1 0 0)∧T 4=(V.sl (List.map cCl ((rsV f))))∧T 6=(V.mp 6 1 0 0)∧T 7=(V.sl (List.map cF (unF [] (((rsV f).take k).map clF))))∧T 8=(iV ((k:Nat):Int))∧H 1=(bk 1 24 3 [[(iV (f.op)),(iV (f.arg)),(V.sl (List.map cF (f.kids)))]])∧H 2=(bk 1 24 3 [[(iV (0:Int)),(iV (0:Int)),V.nilsl]])∧H 6=(bk 1 24 3 [[(iV (1:Int)),(iV (0:Int)),(V.sl (List.map cF ([])))]])∧(k≤(rsV f).length)∧(∀ i,i < k→(nth (rsV f) i).length≠0)) ?_ ?_
 ·
  refine ⟨_,0,rfl,t2,t4,t6,(Eq.trans t7 (by rfl)),(Eq.trans t8 rfl),h1,h2,h6,?_,?_⟩
  · omega
  · intro i hi; omega
 intro mm T H ⟨k,hmm,t2,t4,t6,t7,t8,h1,h2,h6,hk,hn⟩ Q4 p14 p24 p34
 unfold b64_0
 have hU:=unF_len (((rsV f).take k).map clF) []
 have hU2:(((rsV f).take k).map clF).length=k:=by rw [List.length_map,List.length_take]; omega
 have hU3:([]:List Fm).length=0:=rfl
 refine W_seq_seq (W_r (R_mv t8 (R_mv t4 (R_len rfl (R_lss rfl rfl (R_e ?_))))))
 refine W_seq_if rfl (fun c5=>?_) fun c5=>?_
 ·
  refine W_seq_skip (W_seq_blockg fun Q6 n6 x6 y6 z6=>(W_seq_seq (W_r (R_mv t4 (R_mv t8 (R_idx (i:=k) (@rfl V (V.sl (List.map cCl ((rsV f))))) (@rfl V (iV ((k:Nat):Int))) (by omega) rfl (R_load_pp rfl rfl ?_)))))))
  refine R_len rfl (R_eql rfl rfl (R_e ?_))
  refine W_seq_if rfl (fun c7=>?_) fun c7=>?_
  ·
   rw [fin_y (k:=k) (by omega) (by omega)] at d1
   refine W_seq_seq (W_r (R_lk t6 h6 rfl rfl (R_sk t2 rfl rfl h2 rfl rfl rfl rfl rfl (R_mv rfl (R_e (W_seq_ret (y6 _ _ ?_)))))))
   refine p24 _ _ (y3 _ _ ?_)
   refine RetC_2 (resV_c (u:=(V.agg [(iV (1:Int)),(iV (0:Int)),(V.sl (List.map cF ([])))])) t2 (@rfl Blk (bk 1 24 3 [[(iV (1:Int)),(iV (0:Int)),(V.sl (List.map cF ([])))]])) (lB oB rfl rfl)) (resV_t (@rfl V (V.bool true))) (fz_agg3 (fz_int ?_) (fz_int ?_) (fz_sl ?_ (fun _=>by simp))) (fz_bool ?_)
   · rw [d1]; rfl
   · rw [d1]; rfl
   · rw [d1]; rfl
   · rw [canB_cl,db]
  have d2:(nth (rsV f) k).length≠0:=by omega
  refine W_seq_skip (W_t (R_mv t7 (R_mv t4 (R_mv t8 (R_idx (i:=k) (@rfl V (V.sl (List.map cCl ((rsV f))))) (@rfl V (iV ((k:Nat):Int))) (by omega) rfl (R_load_pp rfl rfl (R_callk (rjoin_pure ((5:Int)) ((nth ((rsV f)) (k)))) rfl ?_)))))))
  refine R_callk (rwith_pure (unF [] (((rsV f).take k).map clF)) ((jnd ((5:Int)) ((nth ((rsV f)) (k))))) (unF_srt List.Pairwise.nil) (by omega)) rfl (R_mv rfl (R_e (n6 _ _ (.done (W_t (R_mv t8 (R_addN rfl (@rfl V (iV ((1:Nat):Int))) (by omega) ?_)))))))
  refine R_mv rfl (R_e ?_)
  refine p14 _ _ _ ?_ ⟨(k+1),rfl,t2,t4,t6,(Eq.trans (@rfl V (V.sl (List.map cF (insF ((jnd ((5:Int)) ((nth ((rsV f)) (k))))) (unF [] (((rsV f).take k).map clF)))))) (by (rw [unM_step (by omega)]; rfl))),(Eq.trans (@rfl V (iV ((k+1:Nat):Int))) (by rfl)),h1,h2,h6,?_,?_⟩
  · omega
  · omega
  · intro i hi
    by_cases e:i=k
    · subst e; exact d2
    · exact hn i (by omega)
 rw [fin_j g1 (fun i hi=>hn i (by omega)) (by omega)] at d1
 have hk2:(rsV f).take k=(rsV f):=by rw [show k=(rsV f).length by omega,List.take_length]
 refine W_seq_exit (p34 _ _ _ (x3 _ _ (.done (W_r (R_mv t7 (R_callk (rjoin_pure ((6:Int)) (unF [] (((rsV f).take k).map clF))) rfl (R_sk t2 rfl rfl h2 rfl rfl rfl rfl rfl ?_)))))))
 refine R_mv rfl (R_e (W_ret ?_))
 refine RetC_2 (resV_c (u:=(V.agg [(iV ((jnd ((6:Int)) (unF [] (((rsV f).take k).map clF))).op)),(iV ((jnd ((6:Int)) (unF [] (((rsV f).take k).map clF))).arg)),(V.sl (List.map cF ((jnd ((6:Int)) (unF [] (((rsV f).take k).map clF))).kids)))])) t2 (@rfl Blk (bk 1 24 3 [[(iV ((jnd ((6:Int)) (unF [] (((rsV f).take k).map clF))).op)),(iV ((jnd ((6:Int)) (unF [] (((rsV f).take k).map clF))).arg)),(V.sl (List.map cF ((jnd ((6:Int)) (unF [] (((rsV f).take k).map clF))).kids)))]])) (lB oB rfl rfl)) (resV_t (@rfl V (V.bool true))) (fz_agg3 (fz_int ?_) (fz_int ?_) (fz_sl ?_ (fun _=>by simp))) (fz_bool ?_)
 · rw [d1,hk2]; rfl
 · rw [d1,hk2]; rfl
 · rw [d1,hk2]; rfl
 · rw [canB_cl,db]
def r92_14:List SO:=[
 qF 40 2 1,
 ql 41 40,
 qM 42 5,
 qA 43 3 41 42,
 qL 44 3 43,
 sO 45 (.call false 92 [.t 44]),
 qM 39 45,
 qE 46 39 0,
 qE 47 39 1,
 qM 6 46,
 qM 7 47]
def r92_24:List SO:=[
 qM 65 4,
 qM 66 6,
 qM 67 8,
 qA 68 1 66 67,
 ql 69 68,
 sO 70 (.call false 114 [.t 65,.t 69]),
 qM 4 70]
def b92_1:SC:=.seq (.seq (.reg [qM 59 8,qM 60 6,qN 61 60,qP 62 .lss 59 61]) (.cond (.t 62) (.skip) (.exit 3))) (.seq (.block 4 (.reg r92_24)) (.reg [qM 63 8,qC 64 .add 63 1,qM 8 64]))
def r92_25:List SO:=[
 qF 71 0 1,
 ql 72 71,
 qC 73 .eql 72 5,
 qM 74 73,
 ⟨some (74,true),some 75,.mv (.t 4)⟩,
 ⟨some (74,true),some 76,.len (.t 75)⟩,
 ⟨some (74,true),some 77,.bin .gtr (.t 76) (.c (.int .i64 64))⟩,
 sO 78 (.pick (.t 74) (.t 77) (.c (.bool false)))]
def b92_0:SC:=.seq (.seq (.reg [qM 32 5,qF 33 2 1,ql 34 33,qN 35 34,qP 36 .lss 32 35]) (.cond (.t 36) (.skip) (.exit 1))) (.seq (.block 2 (.seq (.reg r92_14) (.seq (.seq (.reg [qM 48 7,sO 49 (.un .not (.t 48))]) (.cond (.t 49) (.seq (.reg [sO 2 (.mv (.c (.nilsl))),sO 3 (.mv (.c (.bool false)))]) (.ret)) (.skip))) (.seq (.seq (.reg [qM 50 5,qC 51 .eql 50 0]) (.cond (.t 51) (.reg [qM 52 6,qM 4 52]) (.seq (.reg [qF 53 0 1,ql 54 53,qC 55 .eql 54 5]) (.cond (.t 55) (.reg [qM 56 4,qM 57 6,sO 58 (.call false 113 [.t 56,.t 57]),qM 4 58]) (.seq (.reg [qI 8 0]) (.block 3 (.loop b92_1))))))) (.seq (.reg r92_25) (.cond (.t 78) (.seq (.reg [sO 2 (.mv (.c (.nilsl))),sO 3 (.mv (.c (.bool false)))]) (.ret)) (.skip))))))) (.reg [qM 37 5,qC 38 .add 37 1,qM 5 38]))
def r92_28:List SO:=[
 qF 83 0 1,
 ql 84 83,
 qF 85 1 1,
 ql 86 85,
 sO 87 (.build [.int .i64 0,.int .i64 0,.nilsl] [(0,1,.t 84),(1,1,.t 86)]),
 sO 9 (.alloc 24 [.int .i64 0,.int .i64 0,.nilsl]),
 sN (.store 3 (.t 9) (.t 87))]
def r92_32:List SO:=[
 qF 96 2 1,
 ql 97 96,
 qM 98 10,
 qA 99 3 97 98,
 qL 100 3 99,
 sO 101 (.call false 64 [.t 100]),
 qM 95 101,
 qE 102 95 0,
 qE 103 95 1,
 sO 11 (.alloc 24 [.int .i64 0,.int .i64 0,.nilsl]),
 sN (.store 3 (.t 11) (.t 102)),
 qM 12 103]
def r92_35:List SO:=[
 qF 106 2 9,
 ql 107 106,
 qL 108 3 11,
 sO 109 (.bslice 24 3 false [.int .i64 0,.int .i64 0,.nilsl] 1 [(0,.t 108)]),
 sO 110 (.append 24 3 40 (.t 107) (.t 109)),
 qF 111 2 9,
 sN (.store 1 (.t 111) (.t 110))]
def b92_2:SC:=.seq (.seq (.reg [qM 88 10,qF 89 2 1,ql 90 89,qN 91 90,qP 92 .lss 88 91]) (.cond (.t 92) (.skip) (.exit 5))) (.seq (.block 6 (.seq (.reg r92_32) (.seq (.seq (.reg [qM 104 12,sO 105 (.un .not (.t 104))]) (.cond (.t 105) (.seq (.reg [sO 2 (.mv (.c (.nilsl))),sO 3 (.mv (.c (.bool false)))]) (.ret)) (.skip))) (.reg r92_35)))) (.reg [qM 93 10,qC 94 .add 93 1,qM 10 94]))
def s92:SF:=⟨115,[.tmp 2,.tmp 3],.seq (.reg [sO 1 (.box 24 3 (.t 0)),sO 2 (.mv (.c (.nilsl))),sO 3 (.mv (.c (.bool false)))]) (.seq (.seq (.reg [qF 13 0 1,ql 14 13]) (.block 0 (.seq (.reg [qC 16 .eql 14 1,qM 15 16]) (.cond (.t 15) (.seq (.reg [sO 17 (.bslice 22 1 false [.nilsl] 1 [(0,.c (.nilsl))]),qM 2 17,sO 3 (.mv (.c (.bool true)))]) (.ret)) (.seq (.reg [qC 19 .eql 14 4,qM 18 19]) (.cond (.t 18) (.seq (.seq (.reg [qF 20 2 1,ql 21 20,sO 22 (.idx 3 (.t 21) (.c (.int .i64 0))),qF 23 0 22,ql 24 23,qC 25 .eql 24 1]) (.cond (.t 25) (.seq (.reg [sO 2 (.mv (.c (.nilsl))),sO 3 (.mv (.c (.bool true)))]) (.ret)) (.skip))) (.seq (.reg [qL 26 3 1,sO 27 (.bslice 24 3 false [.int .i64 0,.int .i64 0,.nilsl] 1 [(0,.t 26)]),sO 28 (.bslice 22 1 false [.nilsl] 1 [(0,.t 27)]),qM 2 28,sO 3 (.mv (.c (.bool true)))]) (.ret))) (.seq (.seq (.reg [qC 30 .eql 14 5,qM 29 30]) (.cond (.t 29) (.skip) (.reg [qC 31 .eql 14 6,qM 29 31]))) (.cond (.t 29) (.seq (.reg [sO 4 (.mv (.c (.nilsl)))]) (.seq (.seq (.reg [qI 5 0]) (.block 1 (.loop b92_0))) (.seq (.reg [qM 79 4,qM 80 4,qN 81 80,qC 82 .leq 81 64,qM 2 79,qM 3 82]) (.ret)))) (.skip))))))))) (.seq (.reg r92_28) (.seq (.seq (.reg [qI 10 0]) (.block 5 (.loop b92_2))) (.seq (.reg [qL 112 3 9,sO 113 (.bslice 24 3 false [.int .i64 0,.int .i64 0,.nilsl] 1 [(0,.t 112)]),sO 114 (.bslice 22 1 false [.nilsl] 1 [(0,.t 113)]),qM 2 114,sO 3 (.mv (.c (.bool true)))]) (.ret)))))⟩
theorem s92_ok:slimF Tryz.prog ⟨[59,84,90,97,109,153,154,155,160],[],[],[]⟩ Tryz.f92=some s92:=by kernel_rfl
def r113_8:List SO:=[
 sO 22 (.lazy 24 3),
 qM 23 0,
 qM 24 6,
 qA 25 1 23 24,
 ql 26 25,
 sO 27 (.append 24 3 40 (.t 22) (.t 26)),
 qM 8 27]
def r113_10:List SO:=[
 qM 28 9,
 qM 29 1,
 qM 30 7,
 qA 31 1 29 30,
 ql 32 31,
 qN 33 32,
 qP 34 .lss 28 33]
def r113_12:List SO:=[
 qM 37 8,
 qM 38 1,
 qM 39 7,
 qA 40 1 38 39,
 ql 41 40,
 qM 42 9,
 qA 43 3 41 42,
 qL 44 3 43,
 sO 45 (.call false 93 [.t 37,.t 44]),
 qM 8 45]
def b113_2:SC:=.seq (.seq (.reg r113_10) (.cond (.t 34) (.skip) (.exit 4))) (.seq (.block 5 (.reg r113_12)) (.reg [qM 35 9,qC 36 .add 35 1,qM 9 36]))
def b113_1:SC:=.seq (.seq (.reg [qM 16 7,qM 17 1,qN 18 17,qP 19 .lss 16 18]) (.cond (.t 19) (.skip) (.exit 2))) (.seq (.block 3 (.seq (.reg r113_8) (.seq (.seq (.reg [qI 9 0]) (.block 4 (.loop b113_2))) (.reg [qM 46 5,qM 47 8,sO 48 (.call false 114 [.t 46,.t 47]),qM 5 48])))) (.reg [qM 20 7,qC 21 .add 20 1,qM 7 21]))
def b113_0:SC:=.seq (.seq (.reg [qM 10 6,qM 11 0,qN 12 11,qP 13 .lss 10 12]) (.cond (.t 13) (.skip) (.exit 0))) (.seq (.block 1 (.seq (.reg [qI 7 0]) (.block 2 (.loop b113_1)))) (.reg [qM 14 6,qC 15 .add 14 1,qM 6 15]))
def s113:SF:=⟨50,[.tmp 4],.seq (.reg [sO 4 (.mv (.c (.nilsl)))]) (.seq (.reg [sO 5 (.mv (.c (.nilsl)))]) (.seq (.seq (.reg [qI 6 0]) (.block 0 (.loop b113_0))) (.seq (.reg [qM 49 5,qM 4 49]) (.ret))))⟩
theorem s113_ok:slimF Tryz.prog ⟨[59,84,90,97,109,153,154,155,160],[22],[],[]⟩ Tryz.f113=some s113:=by kernel_rfl
def r114_7:List SO:=[
 qM 20 0,
 qM 21 6,
 qA 22 1 20 21,
 ql 23 22,
 qM 24 1,
 sO 25 (.call false 133 [.t 23,.t 24]),
 sO 26 (.un .not (.t 25))]
def r114_8:List SO:=[
 qM 27 5,
 qM 28 0,
 qM 29 6,
 qA 30 1 28 29,
 ql 31 30,
 sO 32 (.bslice 22 1 false [.nilsl] 1 [(0,.t 31)]),
 sO 33 (.append 22 1 24 (.t 27) (.t 32)),
 qM 5 33]
def b114_0:SC:=.seq (.seq (.reg [qM 7 6,qM 8 0,qN 9 8,qP 10 .lss 7 9]) (.cond (.t 10) (.skip) (.exit 0))) (.seq (.block 1 (.seq (.seq (.reg [qM 13 1,qM 14 0,qM 15 6,qA 16 1 14 15,ql 17 16,sO 18 (.call false 133 [.t 13,.t 17])]) (.cond (.t 18) (.seq (.reg [qM 19 0,qM 4 19]) (.ret)) (.skip))) (.seq (.reg r114_7) (.cond (.t 26) (.reg r114_8) (.skip))))) (.reg [qM 11 6,qC 12 .add 11 1,qM 6 12]))
def s114:SF:=⟨38,[.tmp 4],.seq (.reg [sO 4 (.mv (.c (.nilsl)))]) (.seq (.reg [sO 5 (.lazy 22 1)]) (.seq (.seq (.reg [qI 6 0]) (.block 0 (.loop b114_0))) (.seq (.reg [qM 34 5,qM 35 1,sO 36 (.bslice 22 1 false [.nilsl] 1 [(0,.t 35)]),sO 37 (.append 22 1 24 (.t 34) (.t 36)),qM 4 37]) (.ret))))⟩
theorem s114_ok:slimF Tryz.prog ⟨[59,84,90,97,109,153,154,155,160],[5],[],[]⟩ Tryz.f114=some s114:=by kernel_rfl
def r133_8:List SO:=[
 qM 20 6,
 qM 21 20,
 ⟨some (21,false),some 22,.mv (.t 0)⟩,
 ⟨some (21,false),some 23,.mv (.t 7)⟩,
 ⟨some (21,false),some 24,.idx 3 (.t 22) (.t 23)⟩,
 ⟨some (21,false),some 25,.load true 3 (.t 24)⟩,
 ⟨some (21,false),some 26,.mv (.t 1)⟩,
 ⟨some (21,false),some 27,.mv (.t 5)⟩,
 ⟨some (21,false),some 28,.idx 3 (.t 26) (.t 27)⟩,
 ⟨some (21,false),some 29,.load true 3 (.t 28)⟩,
 ⟨some (21,false),some 30,.call false 17 [.t 25,.t 29]⟩,
 sO 31 (.pick (.t 21) (.c (.bool true)) (.t 30)),
 qM 6 31]
def b133_1:SC:=.seq (.seq (.reg [qM 14 7,qM 15 0,qN 16 15,qP 17 .lss 14 16]) (.cond (.t 17) (.skip) (.exit 2))) (.seq (.block 3 (.reg r133_8)) (.reg [qM 18 7,qC 19 .add 18 1,qM 7 19]))
def b133_0:SC:=.seq (.seq (.reg [qM 8 5,qM 9 1,qN 10 9,qP 11 .lss 8 10]) (.cond (.t 11) (.skip) (.exit 0))) (.seq (.block 1 (.seq (.reg [sO 6 (.mv (.c (.bool false)))]) (.seq (.seq (.reg [qI 7 0]) (.block 2 (.loop b133_1))) (.seq (.reg [qM 32 6,sO 33 (.un .not (.t 32))]) (.cond (.t 33) (.seq (.reg [sO 4 (.mv (.c (.bool false)))]) (.ret)) (.skip)))))) (.reg [qM 12 5,qC 13 .add 12 1,qM 5 13]))
def s133:SF:=⟨34,[.tmp 4],.seq (.reg [sO 4 (.mv (.c (.bool false)))]) (.seq (.seq (.reg [qI 5 0]) (.block 0 (.loop b133_0))) (.seq (.reg [sO 4 (.mv (.c (.bool true)))]) (.ret)))⟩
theorem s133_ok:slimF Tryz.prog ⟨[59,84,90,97,109,153,154,155,160],[],[],[]⟩ Tryz.f133=some s133:=by kernel_rfl
theorem rcont_pure (c d:Cl):PureC Tryz.prog 133 [(V.sl (List.map cF (c))),(V.sl (List.map cF (d)))] (V.bool (conB c d)):=by
 refine pW Tryz.func133 s133_ok fun hB=>?_
 unfold s133
 dsimp only
 refine W_r (R_mv rfl (R_e (W_seq_seq (W_r (R_mv rfl (R_e (W_seq_blockg fun Q1 n1 x1 y1 z1=>?_)))))))
 refine W_loop (fun mm T H=> ∃ (k:Nat),mm=d.length - k∧T 0=(V.sl (List.map cF (c)))∧T 1=(V.sl (List.map cF (d)))∧T 5=(iV ((k:Nat):Int))∧(k≤d.length)∧(conB c d=conB c (d.drop k))) ?_ ?_
 ·
  refine ⟨_,0,rfl,rfl,rfl,(Eq.trans (@rfl V (iV (0:Int))) rfl),?_,?_⟩
  · omega
  · rfl
 intro mm T H ⟨k,hmm,t0,t1,t5,hk,hc⟩ Q2 p12 p22 p32
 unfold b133_0
 refine W_seq_seq (W_r (R_mv t5 (R_mv t1 (R_len rfl (R_lss rfl rfl (R_e ?_))))))
 refine W_seq_if rfl (fun c3=>?_) fun c3=>?_
 ·
  refine W_seq_skip (W_seq_blockg fun Q4 n4 x4 y4 z4=>(W_r (R_mv rfl (R_e (W_seq_seq (W_r (R_mv rfl ?_)))))))
  refine R_e (W_seq_blockg fun Q5 n5 x5 y5 z5=>?_)
  refine W_loop (fun mm T H=> ∃ (j:Nat) (x:Bool),mm=c.length - j∧T 0=(V.sl (List.map cF (c)))∧T 1=(V.sl (List.map cF (d)))∧T 5=(iV ((k:Nat):Int))∧T 6=(V.bool x)∧T 7=(iV ((j:Nat):Int))∧(j≤c.length)∧(x=(c.take j).any fun y=>sameF y (nth d k))) ?_ ?_
  ·
   refine ⟨_,0,false,rfl,t0,t1,t5,rfl,(Eq.trans (@rfl V (iV (0:Int))) rfl),?_,?_⟩
   · omega
   · simp
  intro mm T H ⟨j,x,hmm,t0,t1,t5,t6,t7,hj,hx⟩ Q6 p16 p26 p36
  unfold b133_1
  refine W_seq_seq (W_r (R_mv t7 (R_mv t0 (R_len rfl (R_lss rfl rfl (R_e ?_))))))
  refine W_seq_if rfl (fun c7=>?_) fun c7=>?_
  ·
   refine W_seq_skip (W_seq_blockg fun Q8 n8 x8 y8 z8=>(W_t (R_mv t6 (R_mv rfl ?_))))
   refine Ops_seg 10 (fun T H=>T 0=(V.sl (List.map cF (c)))∧T 1=(V.sl (List.map cF (d)))∧T 5=(iV ((k:Nat):Int))∧T 6=(V.bool x)∧T 7=(iV ((j:Nat):Int))∧T 31=(V.bool ((x||(sameF (((nth (c) (j)))) (((nth (d) (k))))))))∧True) ?_ ?_
   ·
    by_cases g9:x=true
    ·
     refine G_n (ebT g9 rfl) (G_n (ebT g9 rfl) (G_n (ebT g9 rfl) (G_n (ebT g9 rfl) (G_n (ebT g9 rfl) (G_n (ebT g9 rfl) (G_n (ebT g9 rfl) (G_n (ebT g9 rfl) ?_)))))))
     refine G_n (ebT g9 rfl) (R_pickT (ebT g9 rfl) rfl ?_)
     exact ⟨t0,t1,t5,t6,t7,(borT g9),trivial⟩
    ·
     refine G_yes (ebF g9 rfl) (R_mv t0 (G_yes (ebF g9 rfl) (R_mv t7 (G_yes (ebF g9 rfl) (R_idxu (i:=j) (@rfl V (V.sl (List.map cF (c)))) (@rfl V (iV ((j:Nat):Int))) (by omega) (cF_eq _) rfl (G_yes (ebF g9 rfl) (R_load_pp rfl rfl ?_)))))))
     refine G_yes (ebF g9 rfl) (R_mv t1 (G_yes (ebF g9 rfl) (R_mv t5 (G_yes (ebF g9 rfl) (R_idxu (i:=k) (@rfl V (V.sl (List.map cF (d)))) (@rfl V (iV ((k:Nat):Int))) (by omega) (cF_eq _) rfl (G_yes (ebF g9 rfl) (R_load_pp rfl rfl ?_)))))))
     refine G_yes (ebF g9 rfl) (R_callk (rsame_pure (((nth (c) (j)))) (((nth (d) (k))))) rfl (R_pickF (ebF g9 rfl) rfl ?_))
     exact ⟨t0,t1,t5,t6,t7,(borF g9),trivial⟩
   intro T H ⟨t0,t1,t5,t6,t7,t31,_⟩
   refine R_mv t31 (R_e (n8 _ _ (.done (W_t (R_mv t7 (R_addN rfl (@rfl V (iV ((1:Nat):Int))) (by omega) (R_mv rfl ?_)))))))
   refine R_e ?_
   refine p16 _ _ _ ?_ ⟨(j+1),(x||sameF (nth c j) (nth d k)),rfl,t0,t1,t5,(Eq.trans (@rfl V (V.bool ((x||(sameF (((nth (c) (j)))) (((nth (d) (k))))))))) (by rfl)),(Eq.trans (@rfl V (iV ((j+1:Nat):Int))) (by rfl)),?_,?_⟩
   · omega
   · omega
   · rw [anyF_step (by omega),← hx]
  have hx2:x=c.any fun y=>sameF y (nth d k):=by rw [hx,show j=c.length by omega,List.take_length]
  refine W_seq_exit (p36 _ _ _ (x5 _ _ (.done (W_r (R_mv t6 (R_notb rfl (R_e ?_)))))))
  refine W_ifb rfl (fun c10=>?_) (fun c10=>?_)
  ·
   have d1:(c.any fun y=>sameF y (nth d k))=false:=by rw [← hx2]; simpa using c10
   refine W_r (R_mv rfl (R_e (W_ret (y4 _ _ (p22 _ _ (y1 _ _ ?_))))))
   refine Ret_1 (@rfl V (V.bool false)) (fz_bool ?_)
   · rw [hc,con_no (by omega) d1]
  have d1:(c.any fun y=>sameF y (nth d k))=true:=by rw [← hx2]; simpa using c10
  refine W_skip (n4 _ _ (.done (W_t (R_mv t5 (R_addN rfl (@rfl V (iV ((1:Nat):Int))) (by omega) (R_mv rfl (R_e ?_)))))))
  refine p12 _ _ _ ?_ ⟨(k+1),rfl,t0,t1,(Eq.trans (@rfl V (iV ((k+1:Nat):Int))) (by rfl)),?_,?_⟩
  · omega
  · omega
  · rw [hc,con_go (by omega) d1]
 refine W_seq_exit (p32 _ _ _ (x1 _ _ (.done (W_r (R_mv rfl (R_e (W_ret ?_)))))))
 refine Ret_1 (@rfl V (V.bool true)) (fz_bool ?_)
 · rw [hc,con_end (by omega)]
theorem rput_pure (s:List Cl) (c:Cl) (hz:s.length≤2199023255552):PureC Tryz.prog 114 [(V.sl (List.map cCl (s))),(V.sl (List.map cF (c)))] (V.sl (List.map cCl (wth s c))):=by
 refine pW Tryz.func114 s114_ok fun hB=>?_
 unfold s114
 dsimp only
 refine W_r (R_mv rfl (R_e (W_r (R_lazy (i:=5) (n:=0) rfl (congrArg Blk.ver rfl) (R_e (W_seq_seq (W_r ?_)))))))
 refine R_mv rfl (R_e (W_seq_blockg fun Q1 n1 x1 y1 z1=>?_))
 refine W_loop (fun mm T H=> ∃ (k:Nat) (v:Nat),mm=s.length - k∧T 0=(V.sl (List.map cCl (s)))∧T 1=(V.sl (List.map cF (c)))∧T 5=(V.ms 5 v 0 (((s.take k).filter (fun d=> !conB d c)).length))∧T 6=(iV ((k:Nat):Int))∧H 5=(bz v 22 1 (List.map cCl ((s.take k).filter (fun d=> !conB d c))))∧(k≤s.length)∧(∀ i,i < k→conB c (nth s i)=false)) ?_ ?_
 ·
  refine ⟨_,0,1,rfl,rfl,rfl,(Eq.trans (@rfl V (V.ms 5 1 0 (0))) (by rfl)),(Eq.trans (@rfl V (iV (0:Int))) rfl),(Eq.trans (@rfl Blk (bz 1 22 1 [])) (by rfl)),?_,?_⟩
  · omega
  · intro i hi; omega
 intro mm T H ⟨k,v,hmm,t0,t1,t5,t6,h5,hk,hn⟩ Q2 p12 p22 p32
 unfold b114_0
 have hq1:=flt_len (fun d=> !conB d c) s k
 refine W_seq_seq (W_r (R_mv t6 (R_mv t0 (R_len rfl (R_lss rfl rfl (R_e ?_))))))
 refine W_seq_if rfl (fun c3=>?_) fun c3=>?_
 ·
  refine W_seq_skip (W_seq_blockg fun Q4 n4 x4 y4 z4=>(W_seq_seq (W_r (R_mv t1 (R_mv t0 (R_mv t6 (R_idx (i:=k) (@rfl V (V.sl (List.map cCl (s)))) (@rfl V (iV ((k:Nat):Int))) (by omega) rfl ?_)))))))
  refine R_load_pp rfl rfl (R_callk (rcont_pure c ((nth (s) (k)))) rfl (R_e ?_))
  refine W_seq_ifb rfl (fun c5=>?_) (fun c5=>?_)
  ·
   have d1:=put_old (by omega) c5
   refine W_seq_seq (W_r (R_mv t0 (R_mv rfl (R_e (W_seq_ret (y4 _ _ (p22 _ _ ?_)))))))
   refine y1 _ _ ?_
   refine Ret_1 (@rfl V (V.sl (List.map cCl (s)))) (fz_sl ?_ (fun _=>by simp))
   · exact d1
  have d1:=c5
  refine W_seq_skip (W_r (R_mv t0 (R_mv t6 (R_idx (i:=k) (@rfl V (V.sl (List.map cCl (s)))) (@rfl V (iV ((k:Nat):Int))) (by omega) rfl (R_load_pp rfl rfl (R_mv t1 (R_callk (rcont_pure ((nth (s) (k))) c) rfl ?_)))))))
  refine R_notb rfl (R_e ?_)
  refine W_ifb rfl (fun c6=>?_) (fun c6=>?_)
  ·
   have d2:(fun d=> !conB d c) (nth s k)=true:=c6
   refine W_t (R_mv t5 (R_mv t0 (R_mv t6 (R_idx (i:=k) (@rfl V (V.sl (List.map cCl (s)))) (@rfl V (iV ((k:Nat):Int))) (by omega) rfl (R_load_pp rfl rfl (R_bslice rfl rfl (R_append1 (l:=((s.take k).filter (fun d=> !conB d c))) (f:=cCl) (x:=((nth (s) (k)))) (@rfl V (V.ms 5 v 0 (((s.take k).filter (fun d=> !conB d c)).length))) h5 (by rfl) (@rfl V (V.sl [[(V.sl (List.map cF ((nth (s) (k)))))]])) rfl rfl (by omega) (by omega) ?_)))))))
   refine R_mv rfl (R_e (n4 _ _ (.done (W_t (R_mv t6 (R_addN rfl (@rfl V (iV ((1:Nat):Int))) (by omega) (R_mv rfl ?_)))))))
   refine R_e ?_
   refine p12 _ _ _ ?_ ⟨(k+1),(v+1),rfl,t0,t1,(Eq.trans (@rfl V (V.ms 5 (v+1) 0 ((((s.take k).filter (fun d=> !conB d c)).length)+1))) (by (rw [flt_yes (by omega) d2,List.length_append]; rfl))),(Eq.trans (@rfl V (iV ((k+1:Nat):Int))) (by rfl)),(Eq.trans (@rfl Blk (bz (v+1) 22 1 (List.map cCl ((s.take k).filter (fun d=> !conB d c)++[(nth (s) (k))])))) (by (rw [flt_yes (by omega) d2]; done))),?_,?_⟩
   · omega
   · omega
   · intro i hi
     by_cases e:i=k
     · subst e; exact d1
     · exact hn i (by omega)
  have d2: ¬(fun d=> !conB d c) (nth s k)=true:=by simpa using c6
  refine W_skip (n4 _ _ (.done (W_t (R_mv t6 (R_addN rfl (@rfl V (iV ((1:Nat):Int))) (by omega) (R_mv rfl (R_e ?_)))))))
  refine p12 _ _ _ ?_ ⟨(k+1),v,rfl,t0,t1,(Eq.trans t5 (by (rw [flt_no (by omega) d2]; done))),(Eq.trans (@rfl V (iV ((k+1:Nat):Int))) (by rfl)),(Eq.trans h5 (by (rw [flt_no (by omega) d2]; done))),?_,?_⟩
  · omega
  · omega
  · intro i hi
    by_cases e:i=k
    · subst e; exact d1
    · exact hn i (by omega)
 refine W_seq_exit (p32 _ _ _ (x1 _ _ (.done (W_r (R_mv t5 (R_mv t1 (R_bslice rfl rfl ?_)))))))
 refine R_append1 (l:=((s.take k).filter (fun d=> !conB d c))) (f:=cCl) (x:=c) (@rfl V (V.ms 5 v 0 (((s.take k).filter (fun d=> !conB d c)).length))) h5 (by rfl) (@rfl V (V.sl [[(V.sl (List.map cF (c)))]])) rfl rfl (by omega) (by omega) (R_mv rfl (R_e (W_ret ?_)))
 refine Ret_1 (@rfl V (V.ms 5 (v+1) 0 ((((s.take k).filter (fun d=> !conB d c)).length)+1))) (fz_ms (@rfl Blk (bz (v+1) 22 1 (List.map cCl ((s.take k).filter (fun d=> !conB d c)++[c])))) (by simp) (l:=((s.take k).filter (fun d=> !conB d c)++[c])) rfl (by simp) (fun _=>by simp) ?_)
 · rw [show k=s.length by omega,List.take_length]; exact put_new (fun i hi=>hn i (by omega))
theorem rtimes_pure (a b:List Cl) (ha: ∀ k,k < a.length→SrtF (nth a k)) (la: ∀ k,k < a.length→(nth a k).length≤536870912) (lb: ∀ k,k < b.length→(nth b k).length≤536870912) (na:a.length≤64) (nb:b.length≤65536):PureC Tryz.prog 113 [(V.sl (List.map cCl (a))),(V.sl (List.map cCl (b)))] (V.sl (List.map cCl (prd a b))):=by
 refine pW Tryz.func113 s113_ok fun hB=>?_
 unfold s113
 dsimp only
 refine W_r (R_mv rfl (R_e (W_r (R_mv rfl (R_e (W_seq_seq ?_))))))
 refine W_seq_g (fun T H=>T 0=(V.sl (List.map cCl (a)))∧T 1=(V.sl (List.map cCl (b)))∧T 5=V.nilsl∧T 6=(iV (0:Int))∧H 22=(⟨0,false,false,0,0,[]⟩:Blk)∧True) ?_ ?_
 ·
  refine R_mv rfl ?_
  exact R_nil ⟨rfl,rfl,rfl,rfl,rfl,trivial⟩
 intro T H ⟨t0,t1,t5,t6,h22,_⟩
 refine G_nil t5 (fork_ (R:=fun T H=>T 0=(V.sl (List.map cCl (a)))∧T 1=(V.sl (List.map cCl (b)))∧T 5=(V.sl [])∧T 6=(iV (0:Int))∧H 22=(⟨0,false,false,0,0,[]⟩:Blk)∧True) ⟨((upd_ne _ _ (by decide)).trans t0),((upd_ne _ _ (by decide)).trans t1),(upd_same _ _ _),((upd_ne _ _ (by decide)).trans t6),h22,trivial⟩ ?_)
 intro T H ⟨t0,t1,t5,t6,h22,_⟩
 refine W_seq_blockg fun Q1 n1 x1 y1 z1=>?_
 refine W_loop (fun mm T H=> ∃ (k:Nat) (v22:Nat),mm=a.length - k∧T 0=(V.sl (List.map cCl (a)))∧T 1=(V.sl (List.map cCl (b)))∧T 5=(V.sl (List.map cCl (prd (a.take k) b)))∧T 6=(iV ((k:Nat):Int))∧(H 22).ver=v22∧(k≤a.length)) ?_ ?_
 ·
  refine ⟨_,0,0,rfl,t0,t1,(Eq.trans t5 (by rfl)),(Eq.trans t6 rfl),(congrArg Blk.ver h22),?_⟩
  · omega
 intro mm T H ⟨k,v22,hmm,t0,t1,t5,t6,h22,hk⟩ Q2 p12 p22 p32
 unfold b113_0
 have hN:=prd_len2 na nb hk
 refine W_seq_seq (W_r (R_mv t6 (R_mv t0 (R_len rfl (R_lss rfl rfl (R_e ?_))))))
 refine W_seq_if rfl (fun c3=>?_) fun c3=>?_
 ·
  refine W_seq_skip (W_seq_blockg fun Q4 n4 x4 y4 z4=>(W_r (R_mv rfl (R_e (W_block fun Q5 n5 x5 y5 z5=>?_)))))
  refine W_loop (fun mm T H=> ∃ (j:Nat) (v22:Nat),mm=b.length - j∧T 0=(V.sl (List.map cCl (a)))∧T 1=(V.sl (List.map cCl (b)))∧T 5=(V.sl (List.map cCl (prC (prd (a.take k) b) (nth a k) (b.take j))))∧T 6=(iV ((k:Nat):Int))∧T 7=(iV ((j:Nat):Int))∧(H 22).ver=v22∧(j≤b.length)) ?_ ?_
  ·
   refine ⟨_,0,v22,rfl,t0,t1,(Eq.trans t5 (by rfl)),t6,(Eq.trans (@rfl V (iV (0:Int))) rfl),h22,?_⟩
   · omega
  intro mm T H ⟨j,v22,hmm,t0,t1,t5,t6,t7,h22,hj⟩ Q6 p16 p26 p36
  unfold b113_1
  have hM:=prC_len (prd (a.take k) b) (nth a k) (b.take j)
  have hM2:(b.take j).length=j:=by rw [List.length_take]; omega
  have hla:k < a.length→(nth a k).length≤536870912:=la k
  have hlb:j < b.length→(nth b j).length≤536870912:=lb j
  refine W_seq_seq (W_r (R_mv t7 (R_mv t1 (R_len rfl (R_lss rfl rfl (R_e ?_))))))
  refine W_seq_if rfl (fun c7=>?_) fun c7=>?_
  ·
   refine W_seq_skip (W_seq_blockg fun Q8 n8 x8 y8 z8=>?_)
   refine W_seq_g (fun T H=>T 0=(V.sl (List.map cCl (a)))∧T 1=(V.sl (List.map cCl (b)))∧T 5=(V.sl (List.map cCl (prC (prd (a.take k) b) (nth a k) (b.take j))))∧T 6=(iV ((k:Nat):Int))∧T 7=(iV ((j:Nat):Int))∧T 8=(V.ms 22 (v22+2) 0 (0+((nth (a) (k))).length))∧H 22=(bz (v22+2) 24 3 (List.map cF ([]++((nth (a) (k))))))∧True) ?_ ?_
   ·
    refine R_lazy (i:=22) (n:=v22) rfl h22 (R_mv t0 (R_mv t6 (R_idx (i:=k) (@rfl V (V.sl (List.map cCl (a)))) (@rfl V (iV ((k:Nat):Int))) (by omega) rfl (R_load_pp rfl rfl (R_appendS (l:=([])) (m:=((nth (a) (k)))) (f:=cF) (@rfl V (V.ms 22 (v22+1) 0 (0))) (show _=(bz (v22+1) 24 3 (List.map cF ([]))) from (@rfl Blk (bz (v22+1) 24 3 []))) (by rfl) (@rfl V (V.sl (List.map cF ((nth (a) (k)))))) cF_len cF_one (by omega) (by omega) (R_mv rfl ?_))))))
    exact R_nil ⟨t0,t1,t5,t6,t7,rfl,rfl,trivial⟩
   intro T H ⟨t0,t1,t5,t6,t7,t8,h22,_⟩
   refine .freeze 22 (.done ?_)
   refine fork_ (R:=fun T H=>T 0=(V.sl (List.map cCl (a)))∧T 1=(V.sl (List.map cCl (b)))∧T 5=(V.sl (List.map cCl (prC (prd (a.take k) b) (nth a k) (b.take j))))∧T 6=(iV ((k:Nat):Int))∧T 7=(iV ((j:Nat):Int))∧T 8=(V.sl (List.map cF ([]++((nth (a) (k))))))∧((H 22).ver=v22+2∧(H 22).live=false)∧True) ⟨(fzT_q t0 rfl),(fzT_q t1 rfl),(fzT_q t5 rfl),(fzT_q t6 rfl),(fzT_q t7 rfl),(fzT_q t8 (fzq_own h22 (by simp) (l:=([]++((nth (a) (k))))) rfl (by simp))),(kill_self (congrArg Blk.ver h22)),trivial⟩ ?_
   intro T H ⟨t0,t1,t5,t6,t7,t8,h22,_⟩
   refine W_seq_seq (W_r (R_mv rfl (R_e (W_seq_blockg fun Q9 n9 x9 y9 z9=>?_))))
   refine W_loop (fun mm T H=> ∃ (q:Nat),mm=(nth b j).length - q∧T 0=(V.sl (List.map cCl (a)))∧T 1=(V.sl (List.map cCl (b)))∧T 5=(V.sl (List.map cCl (prC (prd (a.take k) b) (nth a k) (b.take j))))∧T 6=(iV ((k:Nat):Int))∧T 7=(iV ((j:Nat):Int))∧T 8=(V.sl (List.map cF (unF (nth a k) ((nth b j).take q))))∧T 9=(iV ((q:Nat):Int))∧((H 22).ver=v22+2∧(H 22).live=false)∧(q≤(nth b j).length)) ?_ ?_
   ·
    refine ⟨_,0,rfl,t0,t1,t5,t6,t7,(Eq.trans t8 (by rfl)),(Eq.trans (@rfl V (iV (0:Int))) rfl),h22,?_⟩
    · omega
   intro mm T H ⟨q,hmm,t0,t1,t5,t6,t7,t8,t9,h22,hq⟩ Q10 p110 p210 p310
   unfold b113_2
   have hU:=unF_len ((nth b j).take q) (nth a k)
   have hU2:((nth b j).take q).length=q:=by rw [List.length_take]; omega
   refine W_seq_seq (W_r (R_mv t9 (R_mv t1 (R_mv t7 (R_idx (i:=j) (@rfl V (V.sl (List.map cCl (b)))) (@rfl V (iV ((j:Nat):Int))) (by omega) rfl (R_load_pp rfl rfl (R_len rfl ?_)))))))
   refine R_lss rfl rfl (R_e ?_)
   refine W_seq_if rfl (fun c11=>?_) fun c11=>?_
   ·
    refine W_seq_skip (W_seq_blockg fun Q12 n12 x12 y12 z12=>(W_t (R_mv t8 (R_mv t1 (R_mv t7 (R_idx (i:=j) (@rfl V (V.sl (List.map cCl (b)))) (@rfl V (iV ((j:Nat):Int))) (by omega) rfl (R_load_pp rfl rfl ?_)))))))
    refine R_mv t9 (R_idxu (i:=q) (@rfl V (V.sl (List.map cF ((nth (b) (j)))))) (@rfl V (iV ((q:Nat):Int))) (by omega) (cF_eq _) rfl (R_load_pp rfl rfl (R_callk (rwith_pure (unF (nth a k) ((nth b j).take q)) (((nth ((nth (b) (j))) (q)))) (unF_srt (ha k (by omega))) (by omega)) rfl (R_mv rfl (R_e (n12 _ _ (.done ?_)))))))
    refine W_t (R_mv t9 (R_addN rfl (@rfl V (iV ((1:Nat):Int))) (by omega) (R_mv rfl (R_e ?_))))
    refine p110 _ _ _ ?_ ⟨(q+1),rfl,t0,t1,t5,t6,t7,(Eq.trans (@rfl V (V.sl (List.map cF (insF (((nth ((nth (b) (j))) (q)))) (unF (nth a k) ((nth b j).take q)))))) (by (rw [un_step (by omega)]; done))),(Eq.trans (@rfl V (iV ((q+1:Nat):Int))) (by rfl)),h22,?_⟩
    · omega
    · omega
   refine W_seq_exit (p310 _ _ _ (x9 _ _ (.done (W_t (R_mv t5 (R_mv t8 (R_callk (rput_pure (prC (prd (a.take k) b) (nth a k) (b.take j)) (unF (nth a k) ((nth b j).take q)) (by omega)) rfl ?_)))))))
   refine R_mv rfl (R_e (n8 _ _ (.done (W_t (R_mv t7 (R_addN rfl (@rfl V (iV ((1:Nat):Int))) (by omega) (R_mv rfl ?_)))))))
   refine R_e ?_
   refine p16 _ _ _ ?_ ⟨(j+1),(v22+2),rfl,t0,t1,(Eq.trans (@rfl V (V.sl (List.map cCl (wth (prC (prd (a.take k) b) (nth a k) (b.take j)) (unF (nth a k) ((nth b j).take q)))))) (by (rw [show q=(nth b j).length by omega,List.take_length,prC_step (by omega)]; done))),t6,(Eq.trans (@rfl V (iV ((j+1:Nat):Int))) (by rfl)),(h22).1,?_⟩
   · omega
   · omega
  refine W_seq_exit (p36 _ _ _ (x5 _ _ (n4 _ _ (.done (W_t (R_mv t6 (R_addN rfl (@rfl V (iV ((1:Nat):Int))) (by omega) ?_)))))))
  refine R_mv rfl (R_e ?_)
  refine p12 _ _ _ ?_ ⟨(k+1),v22,rfl,t0,t1,(Eq.trans t5 (by (rw [prd_step (by omega),show j=b.length by omega,List.take_length]; done))),(Eq.trans (@rfl V (iV ((k+1:Nat):Int))) (by rfl)),h22,?_⟩
  · omega
  · omega
 refine W_seq_exit (p32 _ _ _ (x1 _ _ (.done (W_r (R_mv t5 (R_mv rfl (R_e ?_)))))))
 refine W_ret ?_
 refine Ret_1 (@rfl V (V.sl (List.map cCl (prd (a.take k) b)))) (fz_sl ?_ (fun _=>by simp))
 · rw [show k=a.length by omega,List.take_length]
end Go.Proofs.YteehaobohaecmaaGreatDoor
