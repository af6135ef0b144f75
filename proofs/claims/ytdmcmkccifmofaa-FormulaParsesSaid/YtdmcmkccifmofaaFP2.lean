/- Contracts of the functions that the law FP reaches, and the law itself, for every input; no condition. -/
import Derived.KernelRfl
import Derived.Test.YtdmcmkccifmofaaProg
import Derived.Tactics
import Derived.Tactics2
import Derived.StillTactics
import Derived.LoopTactic
import Derived.Laws.RangeString
import Derived.Laws.RangeAny
import Derived.WalkKit
import Derived.Lib.Builder
import Derived.Shelf.Strings.BuilderF
import Derived.Lib.UnsafeStr
import Derived.Test.YtdmcmkccifmofaaFP1
set_option linter.unusedSimpArgs false
set_option linter.unusedVariables false
namespace Go.Proofs.Ytdmcmkccifmofaa
open Go Go.Proofs
theorem pform_step (v:Nat) (e:PE) (s:PS) (hs:OkS e s) (k:Nat) (hkb:k≤4294967296) (ihC: ∀ (s:PS) (r:PR Fm),OkS e s→pF e k .conj s=some r→LocC Try.prog 60 1 [.mp 0 v 0 0] (hpB (bk v 79 6 [pCells e s])) (r.out 79 75 v e fmV)) (ihF: ∀ (s:PS) (r:PR Fm),OkS e s→pF e k .form s=some r→LocC Try.prog 37 1 [.mp 0 v 0 0] (hpB (bk v 79 6 [pCells e s])) (r.out 79 75 v e fmV)) (r:PR Fm) (h:pF e (k+1) .form s=some r):LocC Try.prog 37 1 [(V.mp 0 v 0 0)] (hpB (bk v 79 6 [[(V.sl (List.map cS (e.ia))),(V.sl (List.map cS (e.oa))),(V.str e.src),(iV ((s.pos:Nat):Int)),(V.str s.wd),(iV ((s.dep:Nat):Int))]])) (r.out 79 75 v e fmV):=by
 refine lW (k0:=0) Try.func37 s37_ok fun hB=>?_
 unfold s37
 dsimp only
 have hlen:=hs.len
 have hpos:=hs.pos
 have hdep:=hs.dep
 refine W_r (R_alloc (i:=2) (n:=0) (m:=3) rfl (congrArg Blk.ver rfl) rfl (R_e (W_seq_seq (W_r (R_mv rfl (R_mv rfl (R_mkm (evcons rfl evnil) evnil ?_)))))))
 refine R_e (W_seq_seq ?_)
 rcases hx:pSev e [124] 6 (pF e k .conj) k s with _|(⟨f1,s1⟩|⟨a_s1,x_s1⟩)
 ·
  exfalso; rw [pF,hx] at h; cases h
 ·
  obtain ⟨k1,k1d⟩:=pSev_keeps (pF_keeps e k .conj) _ _ _ hs hx
  refine pop_ok (i:=0) (psev_loc v e s hs 60 (pF e k .conj) ihC (pF_keeps e k .conj) [124] 6 k hkb _ hx) (evcons (@rfl V (V.mp 0 v 0 0)) (evcons (@rfl V (V.str ([124]))) (evcons (@rfl V (iV (6:Int))) (evcons (@rfl V (V.fn 60 [(V.mp 0 v 0 0)] [])) evnil)))) rfl (@rfl Blk (bk v 79 6 [[(V.sl (List.map cS (e.ia))),(V.sl (List.map cS (e.oa))),(V.str e.src),(iV ((s.pos:Nat):Int)),(V.str s.wd),(iV ((s.dep:Nat):Int))]])) rfl rfl (fork_ (R:=fun T H=>T 0=(V.mp 0 v 0 0)∧T 2=(V.mp 2 1 0 0)∧T 5=(V.mp 0 v 0 0)∧T 7=(V.fn 60 [(V.mp 0 v 0 0)] [])∧T 8=(V.agg [(iV (f1.op)),(iV (f1.arg)),(V.sl (List.map cF (f1.kids)))])∧H 0=(bk v 79 6 [[(V.sl (List.map cS (e.ia))),(V.sl (List.map cS (e.oa))),(V.str e.src),(iV ((s1.pos:Nat):Int)),(V.str s1.wd),(iV ((s1.dep:Nat):Int))]])∧H 2=(bk 1 24 3 [[(iV (0:Int)),(iV (0:Int)),V.nilsl]])∧H 3=(⟨0,false,false,0,0,[]⟩:Blk)∧H 4=(⟨0,false,false,0,0,[]⟩:Blk)∧True) ⟨(@rfl V (V.mp 0 v 0 0)),(@rfl V (V.mp 2 1 0 0)),(@rfl V (V.mp 0 v 0 0)),(@rfl V (V.fn 60 [(V.mp 0 v 0 0)] [])),(@rfl V (V.agg [(iV (f1.op)),(iV (f1.arg)),(V.sl (List.map cF (f1.kids)))])),rfl,rfl,rfl,rfl,trivial⟩ ?_)
  intro T H ⟨t0,t2,t5,t7,t8,h0,h2,h3,h4,_⟩
  refine W_r (R_alloc (i:=3) (n:=0) (m:=3) rfl (congrArg Blk.ver h3) rfl (R_sk rfl t8 rfl rfl rfl rfl rfl rfl rfl (R_e (W_seq_seq (W_r (R_mv t0 (R_nilck_mp rfl h0 oB ?_)))))))
  refine R_fk rfl h0 (R_lk rfl h0 rfl rfl (R_sneq (s:=s1.wd) (t:=([45,62])) rfl rfl (R_e ?_)))
  refine W_seq_if rfl (fun c1=>?_) fun c1=>?_
  ·
   have d1: ¬s1.wd=[45,62]:=c1
   refine W_seq_seq (W_r (R_lk rfl rfl rfl rfl (R_sk t2 rfl rfl h2 rfl rfl rfl rfl rfl (R_e (W_seq_ret ?_)))))
   refine RetL_ok (v:=(V.agg [(iV (f1.op)),(iV (f1.arg)),(V.sl (List.map cF (f1.kids)))])) (b:=(bk v 79 6 [[(V.sl (List.map cS (e.ia))),(V.sl (List.map cS (e.oa))),(V.str e.src),(iV ((s1.pos:Nat):Int)),(V.str s1.wd),(iV ((s1.dep:Nat):Int))]])) (resT1 (resV_c (u:=(V.agg [(iV (f1.op)),(iV (f1.arg)),(V.sl (List.map cF (f1.kids)))])) t2 (@rfl Blk (bk 1 24 3 [[(iV (f1.op)),(iV (f1.arg)),(V.sl (List.map cF (f1.kids)))]])) (lB oB rfl rfl))) ?_ (by simp) (.same (cut_fin 1 _) _) h0 (by simp [locB,loc0])
   rw [pF,hx] at h; simp only at h; rw [if_neg d1] at h; cases h; rfl
  have d1:s1.wd=[45,62]:=Decidable.not_not.1 c1
  refine W_seq_skip (W_seq_seq (W_r (R_mv t0 (R_mv t0 (R_mkm (evcons rfl evnil) evnil (R_e (W_seq_seq ?_)))))))
  rcases hy:pPart e (pF e k .form) s1 with _|(⟨f2,s2⟩|⟨a_s2,x_s2⟩)
  ·
   exfalso; rw [pF,hx] at h; simp only at h; rw [if_pos d1,hy] at h; simp only [mapP] at h; cases h
  ·
   obtain ⟨k2,k2d⟩:=pPart_keeps (pF_keeps e k .form) _ _ _ k1 hy
   refine pop_ok (i:=0) (ppart_loc v e s1 k1 37 (pF e k .form) ihF (pF_keeps e k .form) _ hy) (evcons (@rfl V (V.mp 0 v 0 0)) (evcons (@rfl V (V.fn 37 [(V.mp 0 v 0 0)] [])) evnil)) rfl h0 rfl rfl (fork_ (R:=fun T H=>T 2=(V.mp 2 1 0 0)∧T 3=(V.mp 3 1 0 0)∧T 15=(V.mp 0 v 0 0)∧T 17=(V.fn 37 [(V.mp 0 v 0 0)] [])∧T 18=(V.agg [(iV (f2.op)),(iV (f2.arg)),(V.sl (List.map cF (f2.kids)))])∧H 0=(bk v 79 6 [[(V.sl (List.map cS (e.ia))),(V.sl (List.map cS (e.oa))),(V.str e.src),(iV ((s2.pos:Nat):Int)),(V.str s2.wd),(iV ((s2.dep:Nat):Int))]])∧H 2=(bk 1 24 3 [[(iV (0:Int)),(iV (0:Int)),V.nilsl]])∧H 3=(bk 1 24 3 [[(iV (f1.op)),(iV (f1.arg)),(V.sl (List.map cF (f1.kids)))]])∧H 4=(⟨0,false,false,0,0,[]⟩:Blk)∧True) ⟨t2,(@rfl V (V.mp 3 1 0 0)),(@rfl V (V.mp 0 v 0 0)),(@rfl V (V.fn 37 [(V.mp 0 v 0 0)] [])),(@rfl V (V.agg [(iV (f2.op)),(iV (f2.arg)),(V.sl (List.map cF (f2.kids)))])),rfl,h2,rfl,h4,trivial⟩ ?_)
   intro T H ⟨t2,t3,t15,t17,t18,h0,h2,h3,h4,_⟩
   refine W_r (R_alloc (i:=4) (n:=0) (m:=3) rfl (congrArg Blk.ver h4) rfl (R_sk rfl t18 rfl rfl rfl rfl rfl rfl rfl (R_e (W_r (R_lk t3 h3 rfl rfl (R_callk (not_pure f1) rfl (R_lk rfl rfl rfl rfl ?_)))))))
   refine R_bslice rfl rfl (R_callk (node_pure ((6:Int)) ([(Fm.nd (4:Int) (0:Int) [f1]),f2])) (evcons rfl (evcons (sl_F2 (x:=((Fm.nd (4:Int) (0:Int) [f1]))) (y:=f2) rfl) evnil)) (R_sk t2 rfl rfl h2 rfl rfl rfl rfl rfl (R_e (W_ret ?_))))
   refine RetL_ok (v:=(V.agg [(iV (((6:Int)))),(iV (0:Int)),(V.sl (List.map cF (([(Fm.nd (4:Int) (0:Int) [f1]),f2]))))])) (b:=(bk v 79 6 [[(V.sl (List.map cS (e.ia))),(V.sl (List.map cS (e.oa))),(V.str e.src),(iV ((s2.pos:Nat):Int)),(V.str s2.wd),(iV ((s2.dep:Nat):Int))]])) (resT1 (resV_c (u:=(V.agg [(iV (((6:Int)))),(iV (0:Int)),(V.sl (List.map cF (([(Fm.nd (4:Int) (0:Int) [f1]),f2]))))])) t2 (@rfl Blk (bk 1 24 3 [[(iV (((6:Int)))),(iV (0:Int)),(V.sl (List.map cF (([(Fm.nd (4:Int) (0:Int) [f1]),f2]))))]])) (lB oB rfl rfl))) ?_ (by simp) (.same (cut_fin 1 _) _) h0 (by simp [locB,loc0])
   rw [pF,hx] at h; simp only at h; rw [if_pos d1,hy] at h; simp only [mapP] at h; cases h; rfl
  ·
   refine pop_pan (i:=0) (ppart_loc v e s1 k1 37 (pF e k .form) ihF (pF_keeps e k .form) _ hy) (evcons (@rfl V (V.mp 0 v 0 0)) (evcons (@rfl V (V.fn 37 [(V.mp 0 v 0 0)] [])) evnil)) rfl h0 rfl fun H'=>(RetL_pan ?_)
   rw [pF,hx] at h; simp only at h; rw [if_pos d1,hy] at h; simp only [mapP] at h; cases h; rfl
 ·
  refine pop_pan (i:=0) (psev_loc v e s hs 60 (pF e k .conj) ihC (pF_keeps e k .conj) [124] 6 k hkb _ hx) (evcons (@rfl V (V.mp 0 v 0 0)) (evcons (@rfl V (V.str ([124]))) (evcons (@rfl V (iV (6:Int))) (evcons (@rfl V (V.fn 60 [(V.mp 0 v 0 0)] [])) evnil)))) rfl (@rfl Blk (bk v 79 6 [[(V.sl (List.map cS (e.ia))),(V.sl (List.map cS (e.oa))),(V.str e.src),(iV ((s.pos:Nat):Int)),(V.str s.wd),(iV ((s.dep:Nat):Int))]])) rfl fun H'=>(RetL_pan ?_)
  rw [pF,hx] at h; cases h; rfl
def s60:SF:=⟨7,[.cell 2 true 3],.seq (.reg [sO 2 (.alloc 24 [.int .i64 0,.int .i64 0,.nilsl])]) (.seq (.seq (.reg [qM 3 0,qM 4 0,sO 5 (.mkm 81 [.t 4] [])]) (.seq (.pop (some 6) (.call 59 [.t 3,.c (.str [38]),.c (.int .i64 5),.t 5])) (.reg [sN (.store 3 (.t 2) (.t 6))]))) (.ret))⟩
theorem s60_ok:slimF Try.prog ⟨[31,36,37,38,40,41,42,44,45,59,60,61,65,66,67,71,72,73,81,82,84,92,93,98,99,102,104],[],[36,37,38,40,41,42,59,60,61,65,66,67,81,82,92,93,98,99,102,104],[]⟩ Try.f60=some s60:=by kernel_rfl
theorem pconj_step (v:Nat) (e:PE) (s:PS) (hs:OkS e s) (k:Nat) (hkb:k≤4294967296) (ihB: ∀ (s:PS) (r:PR Fm),OkS e s→pF e k .bin s=some r→LocC Try.prog 81 1 [.mp 0 v 0 0] (hpB (bk v 79 6 [pCells e s])) (r.out 79 75 v e fmV)) (r:PR Fm) (h:pF e (k+1) .conj s=some r):LocC Try.prog 60 1 [(V.mp 0 v 0 0)] (hpB (bk v 79 6 [[(V.sl (List.map cS (e.ia))),(V.sl (List.map cS (e.oa))),(V.str e.src),(iV ((s.pos:Nat):Int)),(V.str s.wd),(iV ((s.dep:Nat):Int))]])) (r.out 79 75 v e fmV):=by
 refine lW (k0:=0) Try.func60 s60_ok fun hB=>?_
 unfold s60
 dsimp only
 have hlen:=hs.len
 have hpos:=hs.pos
 have hdep:=hs.dep
 refine W_r (R_alloc (i:=2) (n:=0) (m:=3) rfl (congrArg Blk.ver rfl) rfl (R_e (W_seq_seq (W_r (R_mv rfl (R_mv rfl (R_mkm (evcons rfl evnil) evnil ?_)))))))
 refine R_e (W_seq_seq ?_)
 rcases hx:pSev e [38] 5 (pF e k .bin) k s with _|(⟨f1,s1⟩|⟨a_s1,x_s1⟩)
 ·
  exfalso; rw [pF,hx] at h; cases h
 ·
  obtain ⟨k1,k1d⟩:=pSev_keeps (pF_keeps e k .bin) _ _ _ hs hx
  refine pop_ok (i:=0) (psev_loc v e s hs 81 (pF e k .bin) ihB (pF_keeps e k .bin) [38] 5 k hkb _ hx) (evcons (@rfl V (V.mp 0 v 0 0)) (evcons (@rfl V (V.str ([38]))) (evcons (@rfl V (iV (5:Int))) (evcons (@rfl V (V.fn 81 [(V.mp 0 v 0 0)] [])) evnil)))) rfl (@rfl Blk (bk v 79 6 [[(V.sl (List.map cS (e.ia))),(V.sl (List.map cS (e.oa))),(V.str e.src),(iV ((s.pos:Nat):Int)),(V.str s.wd),(iV ((s.dep:Nat):Int))]])) rfl rfl (fork_ (R:=fun T H=>T 2=(V.mp 2 1 0 0)∧T 3=(V.mp 0 v 0 0)∧T 5=(V.fn 81 [(V.mp 0 v 0 0)] [])∧T 6=(V.agg [(iV (f1.op)),(iV (f1.arg)),(V.sl (List.map cF (f1.kids)))])∧H 0=(bk v 79 6 [[(V.sl (List.map cS (e.ia))),(V.sl (List.map cS (e.oa))),(V.str e.src),(iV ((s1.pos:Nat):Int)),(V.str s1.wd),(iV ((s1.dep:Nat):Int))]])∧H 2=(bk 1 24 3 [[(iV (0:Int)),(iV (0:Int)),V.nilsl]])∧True) ⟨(@rfl V (V.mp 2 1 0 0)),(@rfl V (V.mp 0 v 0 0)),(@rfl V (V.fn 81 [(V.mp 0 v 0 0)] [])),(@rfl V (V.agg [(iV (f1.op)),(iV (f1.arg)),(V.sl (List.map cF (f1.kids)))])),rfl,rfl,trivial⟩ ?_)
  intro T H ⟨t2,t3,t5,t6,h0,h2,_⟩
  refine W_r (R_sk t2 t6 rfl h2 rfl rfl rfl rfl rfl (R_e (W_ret ?_)))
  refine RetL_ok (v:=(V.agg [(iV (f1.op)),(iV (f1.arg)),(V.sl (List.map cF (f1.kids)))])) (b:=(bk v 79 6 [[(V.sl (List.map cS (e.ia))),(V.sl (List.map cS (e.oa))),(V.str e.src),(iV ((s1.pos:Nat):Int)),(V.str s1.wd),(iV ((s1.dep:Nat):Int))]])) (resT1 (resV_c (u:=(V.agg [(iV (f1.op)),(iV (f1.arg)),(V.sl (List.map cF (f1.kids)))])) t2 (@rfl Blk (bk 1 24 3 [[(iV (f1.op)),(iV (f1.arg)),(V.sl (List.map cF (f1.kids)))]])) (lB oB rfl rfl))) ?_ (by simp) (.same (cut_fin 1 _) _) h0 (by simp [locB,loc0])
  rw [pF,hx] at h; cases h; rfl
 ·
  refine pop_pan (i:=0) (psev_loc v e s hs 81 (pF e k .bin) ihB (pF_keeps e k .bin) [38] 5 k hkb _ hx) (evcons (@rfl V (V.mp 0 v 0 0)) (evcons (@rfl V (V.str ([38]))) (evcons (@rfl V (iV (5:Int))) (evcons (@rfl V (V.fn 81 [(V.mp 0 v 0 0)] [])) evnil)))) rfl (@rfl Blk (bk v 79 6 [[(V.sl (List.map cS (e.ia))),(V.sl (List.map cS (e.oa))),(V.str e.src),(iV ((s.pos:Nat):Int)),(V.str s.wd),(iV ((s.dep:Nat):Int))]])) rfl fun H'=>(RetL_pan ?_)
  rw [pF,hx] at h; cases h; rfl
def s81:SF:=⟨33,[.cell 2 true 3],.seq (.reg [sO 2 (.alloc 24 [.int .i64 0,.int .i64 0,.nilsl])]) (.seq (.seq (.reg [qM 6 0]) (.seq (.pop (some 7) (.call 92 [.t 6])) (.reg [sO 3 (.alloc 24 [.int .i64 0,.int .i64 0,.nilsl]),sN (.store 3 (.t 3) (.t 7))]))) (.seq (.seq (.reg [qM 8 0,sO 9 (.nilck (.t 8)),qF 10 4 9,ql 11 10]) (.block 0 (.seq (.reg [sO 13 (.sbin .eql (.t 11) (.c (.str [85]))),qM 12 13]) (.cond (.t 12) (.seq (.seq (.reg [qM 14 0,qM 15 0,sO 16 (.mkm 81 [.t 15] [])]) (.seq (.pop (some 17) (.call 61 [.t 14,.t 16])) (.reg [sO 4 (.alloc 24 [.int .i64 0,.int .i64 0,.nilsl]),sN (.store 3 (.t 4) (.t 17))]))) (.seq (.reg [qL 18 3 3,qL 19 3 4,sO 20 (.bslice 24 3 false [.int .i64 0,.int .i64 0,.nilsl] 2 [(0,.t 18),(1,.t 19)]),sO 21 (.call false 62 [.c (.int .i64 8),.t 20]),sN (.store 3 (.t 2) (.t 21))]) (.ret))) (.seq (.reg [sO 23 (.sbin .eql (.t 11) (.c (.str [82]))),qM 22 23]) (.cond (.t 22) (.seq (.seq (.reg [qM 24 0,qM 25 0,sO 26 (.mkm 81 [.t 25] [])]) (.seq (.pop (some 27) (.call 61 [.t 24,.t 26])) (.reg [sO 5 (.alloc 24 [.int .i64 0,.int .i64 0,.nilsl]),sN (.store 3 (.t 5) (.t 27))]))) (.seq (.reg [qL 28 3 3,qL 29 3 5,sO 30 (.bslice 24 3 false [.int .i64 0,.int .i64 0,.nilsl] 2 [(0,.t 28),(1,.t 29)]),sO 31 (.call false 62 [.c (.int .i64 10),.t 30]),sN (.store 3 (.t 2) (.t 31))]) (.ret))) (.skip))))))) (.seq (.reg [qL 32 3 3,sN (.store 3 (.t 2) (.t 32))]) (.ret))))⟩
theorem s81_ok:slimF Try.prog ⟨[31,36,37,38,40,41,42,44,45,59,60,61,65,66,67,71,72,73,81,82,84,92,93,98,99,102,104],[],[36,37,38,40,41,42,59,60,61,65,66,67,81,82,92,93,98,99,102,104],[]⟩ Try.f81=some s81:=by kernel_rfl
theorem pbin_step (v:Nat) (e:PE) (s:PS) (hs:OkS e s) (k:Nat) (hkb:k≤4294967296) (ihU: ∀ (s:PS) (r:PR Fm),OkS e s→pF e k .un s=some r→LocC Try.prog 92 1 [.mp 0 v 0 0] (hpB (bk v 79 6 [pCells e s])) (r.out 79 75 v e fmV)) (ihB: ∀ (s:PS) (r:PR Fm),OkS e s→pF e k .bin s=some r→LocC Try.prog 81 1 [.mp 0 v 0 0] (hpB (bk v 79 6 [pCells e s])) (r.out 79 75 v e fmV)) (r:PR Fm) (h:pF e (k+1) .bin s=some r):LocC Try.prog 81 1 [(V.mp 0 v 0 0)] (hpB (bk v 79 6 [[(V.sl (List.map cS (e.ia))),(V.sl (List.map cS (e.oa))),(V.str e.src),(iV ((s.pos:Nat):Int)),(V.str s.wd),(iV ((s.dep:Nat):Int))]])) (r.out 79 75 v e fmV):=by
 refine lW (k0:=0) Try.func81 s81_ok fun hB=>?_
 unfold s81
 dsimp only
 have hlen:=hs.len
 have hpos:=hs.pos
 have hdep:=hs.dep
 refine W_r (R_alloc (i:=2) (n:=0) (m:=3) rfl (congrArg Blk.ver rfl) rfl (R_e (W_seq_seq (W_r (R_mv rfl (R_e (W_seq_seq ?_)))))))
 rcases hx:pF e k .un s with _|(⟨f1,s1⟩|⟨a_s1,x_s1⟩)
 ·
  exfalso; rw [pF,hx] at h; cases h
 ·
  obtain ⟨k1,k1d⟩:=pF_keeps e k .un _ _ _ hs hx
  refine pop_ok (i:=0) (ihU _ _ hs hx) (evcons (@rfl V (V.mp 0 v 0 0)) evnil) rfl (@rfl Blk (bk v 79 6 [[(V.sl (List.map cS (e.ia))),(V.sl (List.map cS (e.oa))),(V.str e.src),(iV ((s.pos:Nat):Int)),(V.str s.wd),(iV ((s.dep:Nat):Int))]])) rfl rfl (fork_ (R:=fun T H=>T 0=(V.mp 0 v 0 0)∧T 2=(V.mp 2 1 0 0)∧T 6=(V.mp 0 v 0 0)∧T 7=(V.agg [(iV (f1.op)),(iV (f1.arg)),(V.sl (List.map cF (f1.kids)))])∧H 0=(bk v 79 6 [[(V.sl (List.map cS (e.ia))),(V.sl (List.map cS (e.oa))),(V.str e.src),(iV ((s1.pos:Nat):Int)),(V.str s1.wd),(iV ((s1.dep:Nat):Int))]])∧H 2=(bk 1 24 3 [[(iV (0:Int)),(iV (0:Int)),V.nilsl]])∧H 3=(⟨0,false,false,0,0,[]⟩:Blk)∧H 4=(⟨0,false,false,0,0,[]⟩:Blk)∧H 5=(⟨0,false,false,0,0,[]⟩:Blk)∧True) ⟨(@rfl V (V.mp 0 v 0 0)),(@rfl V (V.mp 2 1 0 0)),(@rfl V (V.mp 0 v 0 0)),(@rfl V (V.agg [(iV (f1.op)),(iV (f1.arg)),(V.sl (List.map cF (f1.kids)))])),rfl,rfl,rfl,rfl,rfl,trivial⟩ ?_)
  intro T H ⟨t0,t2,t6,t7,h0,h2,h3,h4,h5,_⟩
  refine W_r (R_alloc (i:=3) (n:=0) (m:=3) rfl (congrArg Blk.ver h3) rfl (R_sk rfl t7 rfl rfl rfl rfl rfl rfl rfl (R_e (W_seq_seq (W_r (R_mv t0 (R_nilck_mp rfl h0 oB ?_)))))))
  refine R_fk rfl h0 (R_lk rfl h0 rfl rfl (R_e (W_seq_blockgP fun Q1 n1 x1 y1 z1 w1=>(W_r (R_seql (s:=s1.wd) (t:=([85])) rfl rfl (R_mv rfl (R_e ?_)))))))
  refine W_if rfl (fun c2=>?_) fun c2=>?_
  ·
   have d1:s1.wd=[85]:=c2
   refine W_seq_seq (W_r (R_mv t0 (R_mv t0 (R_mkm (evcons rfl evnil) evnil (R_e (W_seq_seq ?_))))))
   rcases hy:pPart e (pF e k .bin) s1 with _|(⟨f2,s2⟩|⟨a_s2,x_s2⟩)
   ·
    exfalso; rw [pF,hx] at h; simp only at h; rw [if_pos d1,hy] at h; simp only [mapP] at h; cases h
   ·
    obtain ⟨k2,k2d⟩:=pPart_keeps (pF_keeps e k .bin) _ _ _ k1 hy
    refine pop_ok (i:=0) (ppart_loc v e s1 k1 81 (pF e k .bin) ihB (pF_keeps e k .bin) _ hy) (evcons (@rfl V (V.mp 0 v 0 0)) (evcons (@rfl V (V.fn 81 [(V.mp 0 v 0 0)] [])) evnil)) rfl h0 rfl rfl (fork_ (R:=fun T H=>T 2=(V.mp 2 1 0 0)∧T 3=(V.mp 3 1 0 0)∧T 14=(V.mp 0 v 0 0)∧T 16=(V.fn 81 [(V.mp 0 v 0 0)] [])∧T 17=(V.agg [(iV (f2.op)),(iV (f2.arg)),(V.sl (List.map cF (f2.kids)))])∧H 0=(bk v 79 6 [[(V.sl (List.map cS (e.ia))),(V.sl (List.map cS (e.oa))),(V.str e.src),(iV ((s2.pos:Nat):Int)),(V.str s2.wd),(iV ((s2.dep:Nat):Int))]])∧H 2=(bk 1 24 3 [[(iV (0:Int)),(iV (0:Int)),V.nilsl]])∧H 3=(bk 1 24 3 [[(iV (f1.op)),(iV (f1.arg)),(V.sl (List.map cF (f1.kids)))]])∧H 4=(⟨0,false,false,0,0,[]⟩:Blk)∧H 5=(⟨0,false,false,0,0,[]⟩:Blk)∧True) ⟨t2,(@rfl V (V.mp 3 1 0 0)),(@rfl V (V.mp 0 v 0 0)),(@rfl V (V.fn 81 [(V.mp 0 v 0 0)] [])),(@rfl V (V.agg [(iV (f2.op)),(iV (f2.arg)),(V.sl (List.map cF (f2.kids)))])),rfl,h2,rfl,h4,h5,trivial⟩ ?_)
    intro T H ⟨t2,t3,t14,t16,t17,h0,h2,h3,h4,h5,_⟩
    refine W_r (R_alloc (i:=4) (n:=0) (m:=3) rfl (congrArg Blk.ver h4) rfl (R_sk rfl t17 rfl rfl rfl rfl rfl rfl rfl (R_e (W_r (R_lk t3 h3 rfl rfl (R_lk rfl rfl rfl rfl (R_bslice rfl rfl ?_)))))))
    refine R_callk (node_pure ((8:Int)) ([f1,f2])) (evcons rfl (evcons (sl_F2 (x:=f1) (y:=f2) rfl) evnil)) (R_sk t2 rfl rfl h2 rfl rfl rfl rfl rfl (R_e (W_ret (y1 _ _ ?_))))
    refine RetL_ok (v:=(V.agg [(iV (((8:Int)))),(iV (0:Int)),(V.sl (List.map cF (([f1,f2]))))])) (b:=(bk v 79 6 [[(V.sl (List.map cS (e.ia))),(V.sl (List.map cS (e.oa))),(V.str e.src),(iV ((s2.pos:Nat):Int)),(V.str s2.wd),(iV ((s2.dep:Nat):Int))]])) (resT1 (resV_c (u:=(V.agg [(iV (((8:Int)))),(iV (0:Int)),(V.sl (List.map cF (([f1,f2]))))])) t2 (@rfl Blk (bk 1 24 3 [[(iV (((8:Int)))),(iV (0:Int)),(V.sl (List.map cF (([f1,f2]))))]])) (lB oB rfl rfl))) ?_ (by simp) (.same (cut_fin 1 _) _) h0 (by simp [locB,loc0])
    rw [pF,hx] at h; simp only at h; rw [if_pos d1,hy] at h; simp only [mapP] at h; cases h; rfl
   ·
    refine pop_pan (i:=0) (ppart_loc v e s1 k1 81 (pF e k .bin) ihB (pF_keeps e k .bin) _ hy) (evcons (@rfl V (V.mp 0 v 0 0)) (evcons (@rfl V (V.fn 81 [(V.mp 0 v 0 0)] [])) evnil)) rfl h0 rfl fun H'=>(w1 _ _ _ (RetL_pan ?_))
    rw [pF,hx] at h; simp only at h; rw [if_pos d1,hy] at h; simp only [mapP] at h; cases h; rfl
  have d1: ¬s1.wd=[85]:=c2
  refine W_r (R_seql (s:=s1.wd) (t:=([82])) rfl rfl (R_mv rfl (R_e ?_)))
  refine W_if rfl (fun c3=>?_) fun c3=>?_
  ·
   have d2:s1.wd=[82]:=c3
   refine W_seq_seq (W_r (R_mv t0 (R_mv t0 (R_mkm (evcons rfl evnil) evnil (R_e (W_seq_seq ?_))))))
   rcases hy:pPart e (pF e k .bin) s1 with _|(⟨f2,s2⟩|⟨a_s2,x_s2⟩)
   ·
    exfalso; rw [pF,hx] at h; simp only at h; rw [if_neg d1,if_pos d2,hy] at h; simp only [mapP] at h; cases h
   ·
    obtain ⟨k2,k2d⟩:=pPart_keeps (pF_keeps e k .bin) _ _ _ k1 hy
    refine pop_ok (i:=0) (ppart_loc v e s1 k1 81 (pF e k .bin) ihB (pF_keeps e k .bin) _ hy) (evcons (@rfl V (V.mp 0 v 0 0)) (evcons (@rfl V (V.fn 81 [(V.mp 0 v 0 0)] [])) evnil)) rfl h0 rfl rfl (fork_ (R:=fun T H=>T 2=(V.mp 2 1 0 0)∧T 3=(V.mp 3 1 0 0)∧T 24=(V.mp 0 v 0 0)∧T 26=(V.fn 81 [(V.mp 0 v 0 0)] [])∧T 27=(V.agg [(iV (f2.op)),(iV (f2.arg)),(V.sl (List.map cF (f2.kids)))])∧H 0=(bk v 79 6 [[(V.sl (List.map cS (e.ia))),(V.sl (List.map cS (e.oa))),(V.str e.src),(iV ((s2.pos:Nat):Int)),(V.str s2.wd),(iV ((s2.dep:Nat):Int))]])∧H 2=(bk 1 24 3 [[(iV (0:Int)),(iV (0:Int)),V.nilsl]])∧H 3=(bk 1 24 3 [[(iV (f1.op)),(iV (f1.arg)),(V.sl (List.map cF (f1.kids)))]])∧H 4=(⟨0,false,false,0,0,[]⟩:Blk)∧H 5=(⟨0,false,false,0,0,[]⟩:Blk)∧True) ⟨t2,(@rfl V (V.mp 3 1 0 0)),(@rfl V (V.mp 0 v 0 0)),(@rfl V (V.fn 81 [(V.mp 0 v 0 0)] [])),(@rfl V (V.agg [(iV (f2.op)),(iV (f2.arg)),(V.sl (List.map cF (f2.kids)))])),rfl,h2,rfl,h4,h5,trivial⟩ ?_)
    intro T H ⟨t2,t3,t24,t26,t27,h0,h2,h3,h4,h5,_⟩
    refine W_r (R_alloc (i:=5) (n:=0) (m:=3) rfl (congrArg Blk.ver h5) rfl (R_sk rfl t27 rfl rfl rfl rfl rfl rfl rfl (R_e (W_r (R_lk t3 h3 rfl rfl (R_lk rfl rfl rfl rfl (R_bslice rfl rfl ?_)))))))
    refine R_callk (node_pure ((10:Int)) ([f1,f2])) (evcons rfl (evcons (sl_F2 (x:=f1) (y:=f2) rfl) evnil)) (R_sk t2 rfl rfl h2 rfl rfl rfl rfl rfl (R_e (W_ret (y1 _ _ ?_))))
    refine RetL_ok (v:=(V.agg [(iV (((10:Int)))),(iV (0:Int)),(V.sl (List.map cF (([f1,f2]))))])) (b:=(bk v 79 6 [[(V.sl (List.map cS (e.ia))),(V.sl (List.map cS (e.oa))),(V.str e.src),(iV ((s2.pos:Nat):Int)),(V.str s2.wd),(iV ((s2.dep:Nat):Int))]])) (resT1 (resV_c (u:=(V.agg [(iV (((10:Int)))),(iV (0:Int)),(V.sl (List.map cF (([f1,f2]))))])) t2 (@rfl Blk (bk 1 24 3 [[(iV (((10:Int)))),(iV (0:Int)),(V.sl (List.map cF (([f1,f2]))))]])) (lB oB rfl rfl))) ?_ (by simp) (.same (cut_fin 1 _) _) h0 (by simp [locB,loc0])
    rw [pF,hx] at h; simp only at h; rw [if_neg d1,if_pos d2,hy] at h; simp only [mapP] at h; cases h; rfl
   ·
    refine pop_pan (i:=0) (ppart_loc v e s1 k1 81 (pF e k .bin) ihB (pF_keeps e k .bin) _ hy) (evcons (@rfl V (V.mp 0 v 0 0)) (evcons (@rfl V (V.fn 81 [(V.mp 0 v 0 0)] [])) evnil)) rfl h0 rfl fun H'=>(w1 _ _ _ (RetL_pan ?_))
    rw [pF,hx] at h; simp only at h; rw [if_neg d1,if_pos d2,hy] at h; simp only [mapP] at h; cases h; rfl
  have d2: ¬s1.wd=[82]:=c3
  refine W_skip (n1 _ _ (.done (W_r (R_lk rfl rfl rfl rfl (R_sk t2 rfl rfl h2 rfl rfl rfl rfl rfl (R_e (W_ret ?_)))))))
  refine RetL_ok (v:=(V.agg [(iV (f1.op)),(iV (f1.arg)),(V.sl (List.map cF (f1.kids)))])) (b:=(bk v 79 6 [[(V.sl (List.map cS (e.ia))),(V.sl (List.map cS (e.oa))),(V.str e.src),(iV ((s1.pos:Nat):Int)),(V.str s1.wd),(iV ((s1.dep:Nat):Int))]])) (resT1 (resV_c (u:=(V.agg [(iV (f1.op)),(iV (f1.arg)),(V.sl (List.map cF (f1.kids)))])) t2 (@rfl Blk (bk 1 24 3 [[(iV (f1.op)),(iV (f1.arg)),(V.sl (List.map cF (f1.kids)))]])) (lB oB rfl rfl))) ?_ (by simp) (.same (cut_fin 1 _) _) h0 (by simp [locB,loc0])
  rw [pF,hx] at h; simp only at h; rw [if_neg d1,if_neg d2] at h; cases h; rfl
 ·
  refine pop_pan (i:=0) (ihU _ _ hs hx) (evcons (@rfl V (V.mp 0 v 0 0)) evnil) rfl (@rfl Blk (bk v 79 6 [[(V.sl (List.map cS (e.ia))),(V.sl (List.map cS (e.oa))),(V.str e.src),(iV ((s.pos:Nat):Int)),(V.str s.wd),(iV ((s.dep:Nat):Int))]])) rfl fun H'=>(RetL_pan ?_)
  rw [pF,hx] at h; cases h; rfl
def s92:SF:=⟨67,[.cell 2 true 3],.seq (.reg [sO 2 (.alloc 24 [.int .i64 0,.int .i64 0,.nilsl])]) (.seq (.seq (.reg [qM 4 0,sO 5 (.nilck (.t 4)),qF 6 4 5,ql 7 6]) (.block 0 (.seq (.reg [sO 9 (.sbin .eql (.t 7) (.c (.str [33]))),qM 8 9]) (.cond (.t 8) (.seq (.seq (.reg [qM 10 0,qM 11 0,sO 12 (.mkm 92 [.t 11] [])]) (.seq (.pop (some 13) (.call 61 [.t 10,.t 12])) (.reg [sO 14 (.call false 50 [.t 13]),sN (.store 3 (.t 2) (.t 14))]))) (.ret)) (.seq (.reg [sO 16 (.sbin .eql (.t 7) (.c (.str [88]))),qM 15 16]) (.cond (.t 15) (.seq (.seq (.reg [qM 17 0,qM 18 0,sO 19 (.mkm 92 [.t 18] [])]) (.seq (.pop (some 20) (.call 61 [.t 17,.t 19])) (.reg [sO 21 (.bslice 24 3 false [.int .i64 0,.int .i64 0,.nilsl] 1 [(0,.t 20)]),sO 22 (.call false 62 [.c (.int .i64 7),.t 21]),sN (.store 3 (.t 2) (.t 22))]))) (.ret)) (.seq (.reg [sO 24 (.sbin .eql (.t 7) (.c (.str [78]))),qM 23 24]) (.cond (.t 23) (.seq (.seq (.reg [qM 25 0,qM 26 0,sO 27 (.mkm 92 [.t 26] [])]) (.seq (.pop (some 28) (.call 61 [.t 25,.t 27])) (.reg [sO 29 (.bslice 24 3 false [.int .i64 0,.int .i64 0,.nilsl] 1 [(0,.t 28)]),sO 30 (.call false 62 [.c (.int .i64 9),.t 29]),sN (.store 3 (.t 2) (.t 30))]))) (.ret)) (.seq (.reg [sO 32 (.sbin .eql (.t 7) (.c (.str [70]))),qM 31 32]) (.cond (.t 31) (.seq (.seq (.reg [sO 33 (.call false 96 []),qM 34 0,qM 35 0,sO 36 (.mkm 92 [.t 35] [])]) (.seq (.pop (some 37) (.call 61 [.t 34,.t 36])) (.reg [sO 38 (.bslice 24 3 false [.int .i64 0,.int .i64 0,.nilsl] 2 [(0,.t 33),(1,.t 37)]),sO 39 (.call false 62 [.c (.int .i64 8),.t 38]),sN (.store 3 (.t 2) (.t 39))]))) (.ret)) (.seq (.reg [sO 41 (.sbin .eql (.t 7) (.c (.str [71]))),qM 40 41]) (.cond (.t 40) (.seq (.seq (.reg [sO 42 (.call false 97 []),qM 43 0,qM 44 0,sO 45 (.mkm 92 [.t 44] [])]) (.seq (.pop (some 46) (.call 61 [.t 43,.t 45])) (.reg [sO 47 (.bslice 24 3 false [.int .i64 0,.int .i64 0,.nilsl] 2 [(0,.t 42),(1,.t 46)]),sO 48 (.call false 62 [.c (.int .i64 10),.t 47]),sN (.store 3 (.t 2) (.t 48))]))) (.ret)) (.seq (.reg [sO 50 (.sbin .eql (.t 7) (.c (.str [40]))),qM 49 50]) (.cond (.t 49) (.seq (.seq (.reg [qM 51 0,qM 52 0,sO 53 (.mkm 37 [.t 52] [])]) (.seq (.pop (some 54) (.call 61 [.t 51,.t 53])) (.reg [sO 3 (.alloc 24 [.int .i64 0,.int .i64 0,.nilsl]),sN (.store 3 (.t 3) (.t 54))]))) (.seq (.seq (.reg [qM 55 0,sO 56 (.nilck (.t 55)),qF 57 4 56,ql 58 57,sO 59 (.sbin .neq (.t 58) (.c (.str [41])))]) (.cond (.t 59) (.seq (.reg [qM 60 0]) (.seq (.pop (some 61) (.call 38 [.t 60,.c (.int .i64 5)])) (.reg []))) (.skip))) (.seq (.seq (.reg [qM 62 0]) (.seq (.pop (some 63) (.call 36 [.t 62])) (.reg []))) (.seq (.reg [qL 64 3 3,sN (.store 3 (.t 2) (.t 64))]) (.ret))))) (.skip))))))))))))))) (.seq (.seq (.reg [qM 65 0]) (.seq (.pop (some 66) (.call 98 [.t 65])) (.reg [sN (.store 3 (.t 2) (.t 66))]))) (.ret)))⟩
theorem s92_ok:slimF Try.prog ⟨[31,36,37,38,40,41,42,44,45,59,60,61,65,66,67,71,72,73,81,82,84,92,93,98,99,102,104],[],[36,37,38,40,41,42,59,60,61,65,66,67,81,82,92,93,98,99,102,104],[]⟩ Try.f92=some s92:=by kernel_rfl
def s96:SF:=⟨2,[.cell 0 true 3],.seq (.reg [sO 0 (.alloc 24 [.int .i64 0,.int .i64 0,.nilsl])]) (.seq (.reg [sO 1 (.build [.int .i64 0,.int .i64 0,.nilsl] [(0,1,.c (.int .i64 1))]),sN (.store 3 (.t 0) (.t 1))]) (.ret))⟩
theorem s96_ok:slimF Try.prog ⟨[31,36,37,38,40,41,42,44,45,59,60,61,65,66,67,71,72,73,81,82,84,92,93,98,99,102,104],[],[],[]⟩ Try.f96=some s96:=by kernel_rfl
theorem yes_pure:PureC Try.prog 96 [] (V.agg [(iV (1:Int)),(iV (0:Int)),(V.sl (List.map cF ([])))]):=by
 refine pW Try.func96 s96_ok fun hB=>?_
 unfold s96
 dsimp only
 refine W_r (R_alloc (i:=0) (n:=0) (m:=3) rfl (congrArg Blk.ver rfl) rfl (R_e (W_r (R_build rfl rfl (R_sk rfl rfl rfl rfl rfl rfl rfl rfl rfl (R_e (W_ret ?_)))))))
 refine RetC_1 (resV_c (u:=(V.agg [(iV (1:Int)),(iV (0:Int)),V.nilsl])) rfl (@rfl Blk (bk 1 24 3 [[(iV (1:Int)),(iV (0:Int)),V.nilsl]])) (lB oB rfl rfl)) (fz_agg3 (fz_canon (by simp) rfl) (fz_canon (by simp) rfl) (fz_nil ?_))
 · first|rfl|omega|simp_all
def s97:SF:=⟨3,[.cell 0 true 3],.seq (.reg [sO 0 (.alloc 24 [.int .i64 0,.int .i64 0,.nilsl])]) (.seq (.reg [sO 1 (.call false 96 []),sO 2 (.call false 50 [.t 1]),sN (.store 3 (.t 0) (.t 2))]) (.ret))⟩
theorem s97_ok:slimF Try.prog ⟨[31,36,37,38,40,41,42,44,45,59,60,61,65,66,67,71,72,73,81,82,84,92,93,98,99,102,104],[],[],[]⟩ Try.f97=some s97:=by kernel_rfl
theorem no_pure:PureC Try.prog 97 [] (V.agg [(iV (4:Int)),(iV (0:Int)),(V.sl (List.map cF ([Fm.nd 1 0 []])))]):=by
 refine pW Try.func97 s97_ok fun hB=>?_
 unfold s97
 dsimp only
 refine W_r (R_alloc (i:=0) (n:=0) (m:=3) rfl (congrArg Blk.ver rfl) rfl (R_e (W_r (R_callk (yes_pure) rfl (R_callk (not_pure (⟨((1:Int)),((0:Int)),([])⟩:Fm)) rfl (R_sk rfl rfl rfl rfl rfl rfl rfl rfl rfl (R_e ?_)))))))
 refine W_ret ?_
 refine RetC_1 (resV_c (u:=(V.agg [(iV (4:Int)),(iV (0:Int)),(V.sl (List.map cF ([(⟨((1:Int)),((0:Int)),([])⟩:Fm)])))])) rfl (@rfl Blk (bk 1 24 3 [[(iV (4:Int)),(iV (0:Int)),(V.sl (List.map cF ([(⟨((1:Int)),((0:Int)),([])⟩:Fm)])))]])) (lB oB rfl rfl)) (fz_agg3 (fz_canon (by simp) rfl) (fz_canon (by simp) rfl) (fz_sl ?_ (fun _=>by simp)))
 · first|rfl|omega|simp_all
def r98_2:List SO:=[
 qM 11 0,
 sO 12 (.nilck (.t 11)),
 qF 13 4 12,
 ql 14 13,
 sO 15 (.call false 100 [.t 14,.c (.str [105,110,58])]),
 qM 10 15,
 qE 16 10 0,
 qE 17 10 1,
 qM 4 16,
 qM 5 17]
def r98_3:List SO:=[
 qM 19 0,
 sO 20 (.nilck (.t 19)),
 qF 21 4 20,
 ql 22 21,
 sO 23 (.call false 100 [.t 22,.c (.str [111,117,116,58])]),
 qM 18 23,
 qE 24 18 0,
 qE 25 18 1,
 qM 6 24,
 qM 7 25]
def r98_7:List SO:=[
 qM 30 0,
 sO 31 (.nilck (.t 30)),
 qF 32 0 31,
 qL 33 1 32,
 qM 34 4,
 sO 35 (.call false 101 [.t 33,.t 34]),
 qM 29 35,
 qE 36 29 0,
 qE 37 29 1,
 qF 38 1 3,
 sN (.store 1 (.t 38) (.t 36)),
 qM 8 37]
def r98_10:List SO:=[
 qM 43 0,
 sO 44 (.nilck (.t 43)),
 qF 45 1 44,
 qL 46 1 45,
 qM 47 6,
 sO 48 (.call false 101 [.t 46,.t 47]),
 qM 42 48,
 qE 49 42 0,
 qE 50 42 1,
 qF 51 1 3,
 sN (.store 1 (.t 51) (.t 49)),
 qM 8 50]
def s98:SF:=⟨74,[.cell 2 true 3],.seq (.reg [sO 2 (.alloc 24 [.int .i64 0,.int .i64 0,.nilsl])]) (.seq (.reg [sO 9 (.call false 96 []),sO 3 (.alloc 24 [.int .i64 0,.int .i64 0,.nilsl]),sN (.store 3 (.t 3) (.t 9))]) (.seq (.reg r98_2) (.seq (.reg r98_3) (.seq (.reg [sO 8 (.mv (.c (.bool true)))]) (.seq (.block 0 (.seq (.reg [qM 27 5,qM 26 27]) (.cond (.t 26) (.seq (.reg [qF 28 0 3,sN (.store 1 (.t 28) (.c (.int .i64 2)))]) (.reg r98_7)) (.seq (.reg [qM 40 7,qM 39 40]) (.cond (.t 39) (.seq (.reg [qF 41 0 3,sN (.store 1 (.t 41) (.c (.int .i64 3)))]) (.reg r98_10)) (.seq (.reg [qM 53 0,sO 54 (.nilck (.t 53)),qF 55 4 54,ql 56 55,sO 57 (.sbin .eql (.t 56) (.c (.str [102,97,108,115,101]))),qM 52 57]) (.cond (.t 52) (.reg [sO 58 (.call false 97 []),sN (.store 3 (.t 3) (.t 58))]) (.seq (.reg [qM 60 0,sO 61 (.nilck (.t 60)),qF 62 4 61,ql 63 62,sO 64 (.sbin .neq (.t 63) (.c (.str [116,114,117,101]))),qM 59 64]) (.cond (.t 59) (.seq (.reg [qM 65 0]) (.seq (.pop (some 66) (.call 38 [.t 65,.c (.int .i64 5)])) (.reg []))) (.skip)))))))))) (.seq (.seq (.reg [qM 67 8,sO 68 (.un .not (.t 67))]) (.cond (.t 68) (.seq (.reg [qM 69 0]) (.seq (.pop (some 70) (.call 38 [.t 69,.c (.int .i64 8)])) (.reg []))) (.skip))) (.seq (.seq (.reg [qM 71 0]) (.seq (.pop (some 72) (.call 36 [.t 71])) (.reg []))) (.seq (.reg [qL 73 3 3,sN (.store 3 (.t 2) (.t 73))]) (.ret)))))))))⟩
theorem s98_ok:slimF Try.prog ⟨[31,36,37,38,40,41,42,44,45,59,60,61,65,66,67,71,72,73,81,82,84,92,93,98,99,102,104],[],[36,37,38,40,41,42,59,60,61,65,66,67,81,82,92,93,98,99,102,104],[]⟩ Try.f98=some s98:=by kernel_rfl
def r100_1:List SO:=[
 qM 6 0,
 qM 7 1,
 sO 8 (.call false 105 [.t 6,.t 7]),
 qE 9 8 0,
 qE 10 8 1,
 qM 4 9,
 qM 5 10]
def s100:SF:=⟨11,[.tmp 4,.tmp 5],.seq (.reg [sO 4 (.mv (.c (.str []))),sO 5 (.mv (.c (.bool false)))]) (.seq (.reg r100_1) (.ret))⟩
theorem s100_ok:slimF Try.prog ⟨[31,36,37,38,40,41,42,44,45,59,60,61,65,66,67,71,72,73,81,82,84,92,93,98,99,102,104],[],[],[]⟩ Try.f100=some s100:=by kernel_rfl
def s105:SF:=⟨15,[.tmp 4,.tmp 5],.seq (.reg [sO 4 (.mv (.c (.str []))),sO 5 (.mv (.c (.bool false)))]) (.seq (.seq (.reg [qM 6 0,qM 7 1,sO 8 (.call false 79 [.t 6,.t 7]),sO 9 (.un .not (.t 8))]) (.cond (.t 9) (.seq (.reg [qM 10 0,qM 4 10,sO 5 (.mv (.c (.bool false)))]) (.ret)) (.skip))) (.seq (.reg [qM 11 0,qM 12 1,sO 13 (.slen (.t 12)),sO 14 (.sslice (.t 11) (some (.t 13)) none),qM 4 14,sO 5 (.mv (.c (.bool true)))]) (.ret)))⟩
theorem s105_ok:slimF Try.prog ⟨[31,36,37,38,40,41,42,44,45,59,60,61,65,66,67,71,72,73,81,82,84,92,93,98,99,102,104],[],[],[]⟩ Try.f105=some s105:=by kernel_rfl
theorem slcp_pure (s p:List UInt8) (hl:s.length≤1048576):PureC Try.prog 105 [(V.str s),(V.str p)] (V.tup [(V.str ((if prB s p=true then s.drop p.length else s))),(V.bool (prB s p))]):=by
 refine pW Try.func105 s105_ok fun hB=>?_
 unfold s105
 dsimp only
 refine W_r (R_mv rfl (R_mv rfl (R_e (W_seq_seq (W_r (R_mv rfl (R_mv rfl ?_)))))))
 refine R_callk (slhp_pure s p (by omega)) rfl (R_notb rfl (R_e ?_))
 refine W_seq_ifb rfl (fun c1=>?_) (fun c1=>?_)
 ·
  have d1:prB s p=false:=by simpa using c1
  refine W_seq_seq (W_r (R_mv rfl (R_mv rfl (R_mv rfl (R_e (W_seq_ret ?_))))))
  refine Ret_2 (@rfl V (V.str s)) (@rfl V (V.bool false)) (fz_canon (by simp) ?_) (fz_bool ?_)
  · rw [if_neg (by simp [d1])]
  · exact d1.symm
 have d1:prB s p=true:=by simpa using c1
 have d2:p.length≤s.length:=(of_decide_eq_true d1).1
 refine W_seq_skip (W_r (R_mv rfl (R_mv rfl (R_slen (s:=p) rfl (R_sslo (s:=s) (m:=p.length) (@rfl V (V.str s)) (@rfl V (iV ((p.length:Nat):Int))) (by omega) (R_mv rfl (R_mv rfl ?_)))))))
 refine R_e (W_ret ?_)
 refine Ret_2 (@rfl V (V.str (List.drop p.length s))) (@rfl V (V.bool true)) (fz_canon (by simp) ?_) (fz_bool ?_)
 · rw [if_pos d1]
 · exact d1.symm
theorem scp_pure (s p:List UInt8) (hl:s.length≤1048576):PureC Try.prog 100 [(V.str s),(V.str p)] (V.tup [(V.str ((if prB s p=true then s.drop p.length else s))),(V.bool (prB s p))]):=by
 refine pW Try.func100 s100_ok fun hB=>?_
 unfold s100
 dsimp only
 refine W_r (R_mv rfl (R_mv rfl (R_e (W_r (R_mv rfl (R_mv rfl (R_callk (slcp_pure s p (by omega)) rfl ?_)))))))
 refine R_ext rfl rfl (R_ext rfl rfl (R_mv rfl (R_mv rfl (R_e (W_ret ?_)))))
 refine Ret_2 (@rfl V (V.str ((if prB s p=true then s.drop p.length else s)))) (@rfl V (V.bool (prB s p))) (fz_canon (by simp) rfl) (fz_canon (by simp) rfl)
def s101:SF:=⟨15,[.tmp 4,.tmp 5],.seq (.reg [sO 2 (.box 37 1 (.t 0)),qI 4 0,sO 5 (.mv (.c (.bool false)))]) (.seq (.reg [qF 7 0 2,ql 8 7,qM 9 1,sO 10 (.call false 90 [.t 8,.t 9]),qM 6 10]) (.seq (.reg [qM 11 6,sO 12 (.mx (.t 11) (.c (.int .i64 0))),qM 13 6,qC 14 .geq 13 0,qM 4 12,qM 5 14]) (.ret)))⟩
theorem s101_ok:slimF Try.prog ⟨[31,36,37,38,40,41,42,44,45,59,60,61,65,66,67,71,72,73,81,82,84,92,93,98,99,102,104],[],[],[]⟩ Try.f101=some s101:=by kernel_rfl
def b90_0:SC:=.seq (.reg [qP 9 .lss 8 7]) (.seq (.cond (.t 9) (.skip) (.exit 0)) (.seq (.block 1 (.seq (.reg [qM 10 8,qM 5 10]) (.seq (.reg [qM 11 1,qM 12 0,qM 13 5,qA 14 1 12 13,ql 15 14,sO 16 (.sbin .eql (.t 11) (.t 15))]) (.cond (.t 16) (.seq (.reg [qM 17 5,qM 4 17]) (.ret)) (.skip))))) (.reg [qC 18 .add 8 1,qM 8 18])))
def s90:SF:=⟨19,[.tmp 4],.seq (.reg [qI 4 0]) (.seq (.seq (.reg [qM 6 0,qN 7 6,qI 8 0]) (.block 0 (.loop b90_0))) (.seq (.reg [sO 4 (.mv (.c (.int .i64 (-1))))]) (.ret)))⟩
theorem s90_ok:slimF Try.prog ⟨[31,36,37,38,40,41,42,44,45,59,60,61,65,66,67,71,72,73,81,82,84,92,93,98,99,102,104],[],[],[]⟩ Try.f90=some s90:=by kernel_rfl
theorem sidx_pure (l:List (List UInt8)) (s:List UInt8):PureC Try.prog 90 [(V.sl (List.map cS (l))),(V.str s)] (iV (idxS l s)):=by
 refine pW Try.func90 s90_ok fun hB=>?_
 unfold s90
 dsimp only
 refine W_r (R_mv rfl (R_e (W_seq_seq (W_r (R_mv rfl (R_len rfl (R_mv rfl ?_)))))))
 refine R_e (W_seq_blockg fun Q1 n1 x1 y1 z1=>?_)
 refine W_loop (fun mm T H=> ∃ (k:Nat),mm=l.length - k∧T 0=(V.sl (List.map cS (l)))∧T 1=(V.str s)∧T 7=(iV ((l.length:Nat):Int))∧T 8=(iV ((k:Nat):Int))∧(k≤l.length)∧(idxS l s=fi (fun j=>decide (nth l j=s)) k (l.length - k))) ?_ ?_
 ·
  refine ⟨_,0,rfl,rfl,rfl,rfl,(Eq.trans (@rfl V (iV (0:Int))) rfl),?_,?_⟩
  · omega
  · rfl
 intro mm T H ⟨k,hmm,t0,t1,t7,t8,hk,hc⟩ Q2 p12 p22 p32
 unfold b90_0
 refine W_r (R_lss t8 t7 (R_e ?_))
 refine W_seq_if rfl (fun c3=>?_) fun c3=>?_
 ·
  refine W_seq_skip (W_seq_blockg fun Q4 n4 x4 y4 z4=>(W_r (R_mv t8 (R_mv rfl (R_e (W_r (R_mv t1 ?_)))))))
  refine R_mv t0 (R_mv rfl (R_idx (i:=k) (@rfl V (V.sl (List.map cS (l)))) (@rfl V (iV ((k:Nat):Int))) (by omega) rfl (R_load_pp rfl rfl (R_seql (s:=s) (t:=((nth (l) (k)))) rfl rfl (R_e ?_)))))
  refine W_if rfl (fun c5=>?_) fun c5=>?_
  ·
   have d1:nth l k=s:=(c5).symm
   refine W_r (R_mv rfl (R_mv rfl (R_e (W_ret (y4 _ _ (p22 _ _ (y1 _ _ ?_)))))))
   refine Ret_1 (@rfl V (iV ((k:Nat):Int))) (fz_int ?_)
   · exact (idxS_hit hc (by omega) d1).symm
  have d1: ¬nth l k=s:=fun e=>c5 e.symm
  refine W_skip (n4 _ _ (.done (W_t (R_addN t8 (@rfl V (iV ((1:Nat):Int))) (by omega) (R_mv rfl (R_e ?_))))))
  refine p12 _ _ _ ?_ ⟨(k+1),rfl,t0,t1,t7,(Eq.trans (@rfl V (iV ((k+1:Nat):Int))) (by rfl)),?_,?_⟩
  · omega
  · omega
  · exact idxS_skip hc (by omega) d1
 refine W_seq_exit (p32 _ _ _ (x1 _ _ (.done (W_r (R_mv rfl (R_e (W_ret ?_)))))))
 refine Ret_1 (@rfl V (iV (-1:Int))) (fz_int ?_)
 · exact (idxS_end hc (by omega)).symm
theorem aindex_pure (l:List (List UInt8)) (s:List UInt8):PureC Try.prog 101 [(V.agg [(V.sl (List.map cS (l)))]),(V.str s)] (V.tup [(iV (ixV l s)),(V.bool (ixB l s))]):=by
 refine pW Try.func101 s101_ok fun hB=>?_
 unfold s101
 dsimp only
 refine W_r (R_box (i:=2) (n:=0) (m:=1) (cs:=[(V.sl (List.map cS (l)))]) rfl (congrArg Blk.ver rfl) rfl rfl rfl (R_mv rfl (R_mv rfl (R_e (W_r (R_fk rfl rfl (R_lk rfl rfl rfl rfl ?_)))))))
 refine R_mv rfl (R_callk (sidx_pure l s) rfl (R_mv rfl (R_e (W_r (R_mv rfl (R_mxI (x:=(idxS l s)) (y:=(0:Int)) rfl rfl (R_mv rfl ?_)))))))
 refine R_geq rfl rfl (R_mv rfl (R_mv rfl (R_e (W_ret ?_))))
 refine Ret_2 (@rfl V (iV ((if (idxS l s) < (0:Int) then (0:Int) else (idxS l s))))) (@rfl V (V.bool (decide ((0:Int)≤(idxS l s))))) (fz_int ?_) (fz_bool ?_)
 · unfold ixV; split <;> split <;> omega
 · rfl
set_option maxHeartbeats 1000000 in
theorem patom_loc (v:Nat) (e:PE) (s:PS) (hs:OkS e s):LocC Try.prog 98 1 [(V.mp 0 v 0 0)] (hpB (bk v 79 6 [[(V.sl (List.map cS (e.ia))),(V.sl (List.map cS (e.oa))),(V.str e.src),(iV ((s.pos:Nat):Int)),(V.str s.wd),(iV ((s.dep:Nat):Int))]])) ((pAtom e s).out 79 75 v e fmV):=by
 refine lW (k0:=0) Try.func98 s98_ok fun hB=>?_
 unfold s98
 dsimp only
 have hlen:=hs.len
 have hpos:=hs.pos
 have hdep:=hs.dep
 refine W_r (R_alloc (i:=2) (n:=0) (m:=3) rfl (congrArg Blk.ver rfl) rfl (R_e (W_r (R_callk (yes_pure) rfl (R_alloc (i:=3) (n:=0) (m:=3) rfl (congrArg Blk.ver rfl) rfl (R_sk rfl rfl rfl rfl rfl rfl rfl rfl rfl (R_e ?_)))))))
 refine W_r (R_mv rfl (R_nilck_mp rfl rfl oB (R_fk rfl rfl (R_lk rfl rfl rfl rfl (R_callk (scp_pure s.wd ([105,110,58]) (by omega)) rfl (R_mv rfl (R_ext rfl rfl ?_)))))))
 refine R_ext rfl rfl (R_mv rfl (R_mv rfl (R_e (W_r (R_mv rfl (R_nilck_mp rfl rfl oB (R_fk rfl rfl ?_)))))))
 refine R_lk rfl rfl rfl rfl (R_callk (scp_pure s.wd ([111,117,116,58]) (by omega)) rfl (R_mv rfl (R_ext rfl rfl (R_ext rfl rfl (R_mv rfl (R_mv rfl (R_e ?_)))))))
 refine W_r (R_mv rfl (R_e (W_seq_blockgP fun Q1 n1 x1 y1 z1 w1=>(W_r (R_mv rfl (R_mv rfl (R_e ?_)))))))
 refine W_ifb rfl (fun c2=>?_) (fun c2=>?_)
 ·
  have q1:prB s.wd [105,110,58]=true:=c2
  refine W_r (R_fk rfl rfl (R_sk rfl rfl rfl rfl rfl rfl rfl rfl rfl (R_e ?_)))
  refine W_regc (fun T H=>T 0=(V.mp 0 v 0 0)∧T 2=(V.mp 2 1 0 0)∧T 3=(V.mp 3 1 0 0)∧T 8=(V.bool (ixB e.ia ((if prB s.wd ([105,110,58])=true then s.wd.drop ([105,110,58]).length else s.wd))))∧H 0=(bk v 79 6 [[(V.sl (List.map cS (e.ia))),(V.sl (List.map cS (e.oa))),(V.str e.src),(iV ((s.pos:Nat):Int)),(V.str s.wd),(iV ((s.dep:Nat):Int))]])∧H 2=(bk 1 24 3 [[(iV (0:Int)),(iV (0:Int)),V.nilsl]])∧H 3=(bk 1 24 3 [[(iV (2:Int)),(iV (ixV e.ia ((if prB s.wd ([105,110,58])=true then s.wd.drop ([105,110,58]).length else s.wd)))),(V.sl (List.map cF ([])))]])∧True) ?_ ?_
  ·
   refine R_mv rfl (R_nilck_mp rfl rfl oB (R_fk rfl rfl (R_lk rfl rfl rfl rfl (R_mv rfl (R_callk (aindex_pure e.ia ((if prB s.wd ([105,110,58])=true then s.wd.drop ([105,110,58]).length else s.wd))) rfl (R_mv rfl (R_ext rfl rfl ?_)))))))
   refine R_ext rfl rfl (R_fk rfl rfl (R_sk rfl rfl rfl rfl rfl rfl rfl rfl rfl (R_mv rfl ?_)))
   exact R_nil ⟨rfl,rfl,rfl,rfl,rfl,rfl,rfl,trivial⟩
  intro T H ⟨t0,t2,t3,t8,h0,h2,h3,_⟩
  refine n1 _ _ (.done (W_seq_seq (W_r (R_mv t8 (R_notb rfl (R_e ?_))))))
  refine W_seq_ifb rfl (fun c3=>?_) (fun c3=>?_)
  ·
   have d8:=c3
   rw [Bool.not_eq_true'] at d8
   rw [← Bool.not_eq_true] at d8
   refine W_seq_seq (W_r (R_mv t0 (R_e (W_seq_seq (pop_pan (i:=0) (pfail_loc v e s (8:Int)) (evcons (@rfl V (V.mp 0 v 0 0)) (evcons (@rfl V (iV (8:Int))) evnil)) rfl h0 rfl fun H'=>(RetL_pan ?_))))))
   first|(exact congrArg _ (pAtom_in0 q1 d8))|(exact congrArg _ (pAtom_out0 q1 q2 d8))
  have d8:=c3
  rw [Bool.not_eq_false'] at d8
  refine W_seq_skip (W_seq_seq (W_r (R_mv t0 (R_e (W_seq_seq ?_)))))
  rcases hx:pNext e s with ⟨u1,s1⟩|⟨a_s1,x_s1⟩
  ·
   obtain ⟨k1,k1d,k1g⟩:=pNext_inv hs hx
   refine pop_ok (i:=0) (by have q:=pnext_loc v e s hs; rw [hx] at q; exact q) (evcons (@rfl V (V.mp 0 v 0 0)) evnil) rfl h0 rfl rfl (fork_ (R:=fun T H=>T 2=(V.mp 2 1 0 0)∧T 3=(V.mp 3 1 0 0)∧T 71=(V.mp 0 v 0 0)∧T 72=(V.tup [])∧H 0=(bk v 79 6 [[(V.sl (List.map cS (e.ia))),(V.sl (List.map cS (e.oa))),(V.str e.src),(iV ((s1.pos:Nat):Int)),(V.str s1.wd),(iV ((s1.dep:Nat):Int))]])∧H 2=(bk 1 24 3 [[(iV (0:Int)),(iV (0:Int)),V.nilsl]])∧H 3=(bk 1 24 3 [[(iV (2:Int)),(iV (ixV e.ia ((if prB s.wd ([105,110,58])=true then s.wd.drop ([105,110,58]).length else s.wd)))),(V.sl (List.map cF ([])))]])∧True) ⟨t2,t3,(@rfl V (V.mp 0 v 0 0)),(@rfl V (V.tup [])),rfl,h2,h3,trivial⟩ ?_)
   intro T H ⟨t2,t3,t71,t72,h0,h2,h3,_⟩
   refine W_reg0 (W_r (R_lk t3 h3 rfl rfl (R_sk t2 rfl rfl h2 rfl rfl rfl rfl rfl (R_e (W_ret ?_)))))
   refine RetL_ok (v:=(V.agg [(iV (2:Int)),(iV (ixV e.ia ((if prB s.wd ([105,110,58])=true then s.wd.drop ([105,110,58]).length else s.wd)))),(V.sl (List.map cF ([])))])) (b:=(bk v 79 6 [[(V.sl (List.map cS (e.ia))),(V.sl (List.map cS (e.oa))),(V.str e.src),(iV ((s1.pos:Nat):Int)),(V.str s1.wd),(iV ((s1.dep:Nat):Int))]])) (resT1 (resV_c (u:=(V.agg [(iV (2:Int)),(iV (ixV e.ia ((if prB s.wd ([105,110,58])=true then s.wd.drop ([105,110,58]).length else s.wd)))),(V.sl (List.map cF ([])))])) t2 (@rfl Blk (bk 1 24 3 [[(iV (2:Int)),(iV (ixV e.ia ((if prB s.wd ([105,110,58])=true then s.wd.drop ([105,110,58]).length else s.wd)))),(V.sl (List.map cF ([])))]])) (lB oB rfl rfl))) ?_ (by simp) (.same (cut_fin 1 _) _) h0 (by simp [locB,loc0])
   exact congrArg _ ((pAtom_in1 q1 d8).trans (aft_ok hx))
  ·
   refine pop_pan (i:=0) (by have q:=pnext_loc v e s hs; rw [hx] at q; exact q) (evcons (@rfl V (V.mp 0 v 0 0)) evnil) rfl h0 rfl fun H'=>(RetL_pan ?_)
   first|(exact congrArg _ ((pAtom_in1 q1 d8).trans (aft_er hx)))|(exact congrArg _ ((pAtom_out1 q1 q2 d8).trans (aft_er hx)))|(exact congrArg _ ((pAtom_fa q1 q2 q3).trans (aft_er hx)))|(exact congrArg _ ((pAtom_tr q1 q2 q3 q4).trans (aft_er hx)))
 have q1: ¬prB s.wd [105,110,58]=true:=by rw [c2]; exact Bool.false_ne_true
 refine W_r (R_mv rfl (R_mv rfl (R_e ?_)))
 refine W_ifb rfl (fun c4=>?_) (fun c4=>?_)
 ·
  have q2:prB s.wd [111,117,116,58]=true:=c4
  refine W_r (R_fk rfl rfl (R_sk rfl rfl rfl rfl rfl rfl rfl rfl rfl (R_e ?_)))
  refine W_regc (fun T H=>T 0=(V.mp 0 v 0 0)∧T 2=(V.mp 2 1 0 0)∧T 3=(V.mp 3 1 0 0)∧T 8=(V.bool (ixB e.oa ((if prB s.wd ([111,117,116,58])=true then s.wd.drop ([111,117,116,58]).length else s.wd))))∧H 0=(bk v 79 6 [[(V.sl (List.map cS (e.ia))),(V.sl (List.map cS (e.oa))),(V.str e.src),(iV ((s.pos:Nat):Int)),(V.str s.wd),(iV ((s.dep:Nat):Int))]])∧H 2=(bk 1 24 3 [[(iV (0:Int)),(iV (0:Int)),V.nilsl]])∧H 3=(bk 1 24 3 [[(iV (3:Int)),(iV (ixV e.oa ((if prB s.wd ([111,117,116,58])=true then s.wd.drop ([111,117,116,58]).length else s.wd)))),(V.sl (List.map cF ([])))]])∧True) ?_ ?_
  ·
   refine R_mv rfl (R_nilck_mp rfl rfl oB (R_fk rfl rfl (R_lk rfl rfl rfl rfl (R_mv rfl (R_callk (aindex_pure e.oa ((if prB s.wd ([111,117,116,58])=true then s.wd.drop ([111,117,116,58]).length else s.wd))) rfl (R_mv rfl (R_ext rfl rfl ?_)))))))
   refine R_ext rfl rfl (R_fk rfl rfl (R_sk rfl rfl rfl rfl rfl rfl rfl rfl rfl (R_mv rfl ?_)))
   exact R_nil ⟨rfl,rfl,rfl,rfl,rfl,rfl,rfl,trivial⟩
  intro T H ⟨t0,t2,t3,t8,h0,h2,h3,_⟩
  refine n1 _ _ (.done (W_seq_seq (W_r (R_mv t8 (R_notb rfl (R_e ?_))))))
  refine W_seq_ifb rfl (fun c5=>?_) (fun c5=>?_)
  ·
   have d8:=c5
   rw [Bool.not_eq_true'] at d8
   rw [← Bool.not_eq_true] at d8
   refine W_seq_seq (W_r (R_mv t0 (R_e (W_seq_seq (pop_pan (i:=0) (pfail_loc v e s (8:Int)) (evcons (@rfl V (V.mp 0 v 0 0)) (evcons (@rfl V (iV (8:Int))) evnil)) rfl h0 rfl fun H'=>(RetL_pan ?_))))))
   first|(exact congrArg _ (pAtom_in0 q1 d8))|(exact congrArg _ (pAtom_out0 q1 q2 d8))
  have d8:=c5
  rw [Bool.not_eq_false'] at d8
  refine W_seq_skip (W_seq_seq (W_r (R_mv t0 (R_e (W_seq_seq ?_)))))
  rcases hx:pNext e s with ⟨u1,s1⟩|⟨a_s1,x_s1⟩
  ·
   obtain ⟨k1,k1d,k1g⟩:=pNext_inv hs hx
   refine pop_ok (i:=0) (by have q:=pnext_loc v e s hs; rw [hx] at q; exact q) (evcons (@rfl V (V.mp 0 v 0 0)) evnil) rfl h0 rfl rfl (fork_ (R:=fun T H=>T 2=(V.mp 2 1 0 0)∧T 3=(V.mp 3 1 0 0)∧T 71=(V.mp 0 v 0 0)∧T 72=(V.tup [])∧H 0=(bk v 79 6 [[(V.sl (List.map cS (e.ia))),(V.sl (List.map cS (e.oa))),(V.str e.src),(iV ((s1.pos:Nat):Int)),(V.str s1.wd),(iV ((s1.dep:Nat):Int))]])∧H 2=(bk 1 24 3 [[(iV (0:Int)),(iV (0:Int)),V.nilsl]])∧H 3=(bk 1 24 3 [[(iV (3:Int)),(iV (ixV e.oa ((if prB s.wd ([111,117,116,58])=true then s.wd.drop ([111,117,116,58]).length else s.wd)))),(V.sl (List.map cF ([])))]])∧True) ⟨t2,t3,(@rfl V (V.mp 0 v 0 0)),(@rfl V (V.tup [])),rfl,h2,h3,trivial⟩ ?_)
   intro T H ⟨t2,t3,t71,t72,h0,h2,h3,_⟩
   refine W_reg0 (W_r (R_lk t3 h3 rfl rfl (R_sk t2 rfl rfl h2 rfl rfl rfl rfl rfl (R_e (W_ret ?_)))))
   refine RetL_ok (v:=(V.agg [(iV (3:Int)),(iV (ixV e.oa ((if prB s.wd ([111,117,116,58])=true then s.wd.drop ([111,117,116,58]).length else s.wd)))),(V.sl (List.map cF ([])))])) (b:=(bk v 79 6 [[(V.sl (List.map cS (e.ia))),(V.sl (List.map cS (e.oa))),(V.str e.src),(iV ((s1.pos:Nat):Int)),(V.str s1.wd),(iV ((s1.dep:Nat):Int))]])) (resT1 (resV_c (u:=(V.agg [(iV (3:Int)),(iV (ixV e.oa ((if prB s.wd ([111,117,116,58])=true then s.wd.drop ([111,117,116,58]).length else s.wd)))),(V.sl (List.map cF ([])))])) t2 (@rfl Blk (bk 1 24 3 [[(iV (3:Int)),(iV (ixV e.oa ((if prB s.wd ([111,117,116,58])=true then s.wd.drop ([111,117,116,58]).length else s.wd)))),(V.sl (List.map cF ([])))]])) (lB oB rfl rfl))) ?_ (by simp) (.same (cut_fin 1 _) _) h0 (by simp [locB,loc0])
   exact congrArg _ ((pAtom_out1 q1 q2 d8).trans (aft_ok hx))
  ·
   refine pop_pan (i:=0) (by have q:=pnext_loc v e s hs; rw [hx] at q; exact q) (evcons (@rfl V (V.mp 0 v 0 0)) evnil) rfl h0 rfl fun H'=>(RetL_pan ?_)
   first|(exact congrArg _ ((pAtom_in1 q1 d8).trans (aft_er hx)))|(exact congrArg _ ((pAtom_out1 q1 q2 d8).trans (aft_er hx)))|(exact congrArg _ ((pAtom_fa q1 q2 q3).trans (aft_er hx)))|(exact congrArg _ ((pAtom_tr q1 q2 q3 q4).trans (aft_er hx)))
 have q2: ¬prB s.wd [111,117,116,58]=true:=by rw [c4]; exact Bool.false_ne_true
 refine W_r (R_mv rfl (R_nilck_mp rfl rfl oB (R_fk rfl rfl (R_lk rfl rfl rfl rfl (R_seql (s:=s.wd) (t:=([102,97,108,115,101])) rfl rfl (R_mv rfl (R_e ?_)))))))
 refine W_if rfl (fun c6=>?_) fun c6=>?_
 ·
  have q3:s.wd=[102,97,108,115,101]:=c6
  refine W_t (R_callk (no_pure) rfl (R_sk rfl rfl rfl rfl rfl rfl rfl rfl rfl (R_e (n1 _ _ (.done (W_seq_seq (W_r ?_)))))))
  refine R_mv rfl (R_notb rfl (R_e ?_))
  refine W_seq_ifb rfl (fun c7=>?_) (fun c7=>?_)
  · cases c7
  have d8:=c7
  rw [Bool.not_eq_false'] at d8
  refine W_seq_skip (W_seq_seq (W_r (R_mv rfl (R_e (W_seq_seq ?_)))))
  rcases hx:pNext e s with ⟨u1,s1⟩|⟨a_s1,x_s1⟩
  ·
   obtain ⟨k1,k1d,k1g⟩:=pNext_inv hs hx
   refine pop_ok (i:=0) (by have q:=pnext_loc v e s hs; rw [hx] at q; exact q) (evcons (@rfl V (V.mp 0 v 0 0)) evnil) rfl (@rfl Blk (bk v 79 6 [[(V.sl (List.map cS (e.ia))),(V.sl (List.map cS (e.oa))),(V.str e.src),(iV ((s.pos:Nat):Int)),(V.str s.wd),(iV ((s.dep:Nat):Int))]])) rfl rfl (fork_ (R:=fun T H=>T 2=(V.mp 2 1 0 0)∧T 3=(V.mp 3 1 0 0)∧T 71=(V.mp 0 v 0 0)∧T 72=(V.tup [])∧H 0=(bk v 79 6 [[(V.sl (List.map cS (e.ia))),(V.sl (List.map cS (e.oa))),(V.str e.src),(iV ((s1.pos:Nat):Int)),(V.str s1.wd),(iV ((s1.dep:Nat):Int))]])∧H 2=(bk 1 24 3 [[(iV (0:Int)),(iV (0:Int)),V.nilsl]])∧H 3=(bk 1 24 3 [[(iV (4:Int)),(iV (0:Int)),(V.sl (List.map cF ([Fm.nd 1 0 []])))]])∧True) ⟨(@rfl V (V.mp 2 1 0 0)),(@rfl V (V.mp 3 1 0 0)),(@rfl V (V.mp 0 v 0 0)),(@rfl V (V.tup [])),rfl,rfl,rfl,trivial⟩ ?_)
   intro T H ⟨t2,t3,t71,t72,h0,h2,h3,_⟩
   refine W_reg0 (W_r (R_lk t3 h3 rfl rfl (R_sk t2 rfl rfl h2 rfl rfl rfl rfl rfl (R_e (W_ret ?_)))))
   refine RetL_ok (v:=(V.agg [(iV (4:Int)),(iV (0:Int)),(V.sl (List.map cF ([Fm.nd 1 0 []])))])) (b:=(bk v 79 6 [[(V.sl (List.map cS (e.ia))),(V.sl (List.map cS (e.oa))),(V.str e.src),(iV ((s1.pos:Nat):Int)),(V.str s1.wd),(iV ((s1.dep:Nat):Int))]])) (resT1 (resV_c (u:=(V.agg [(iV (4:Int)),(iV (0:Int)),(V.sl (List.map cF ([Fm.nd 1 0 []])))])) t2 (@rfl Blk (bk 1 24 3 [[(iV (4:Int)),(iV (0:Int)),(V.sl (List.map cF ([Fm.nd 1 0 []])))]])) (lB oB rfl rfl))) ?_ (by simp) (.same (cut_fin 1 _) _) h0 (by simp [locB,loc0])
   exact congrArg _ ((pAtom_fa q1 q2 q3).trans (aft_ok hx))
  ·
   refine pop_pan (i:=0) (by have q:=pnext_loc v e s hs; rw [hx] at q; exact q) (evcons (@rfl V (V.mp 0 v 0 0)) evnil) rfl (@rfl Blk (bk v 79 6 [[(V.sl (List.map cS (e.ia))),(V.sl (List.map cS (e.oa))),(V.str e.src),(iV ((s.pos:Nat):Int)),(V.str s.wd),(iV ((s.dep:Nat):Int))]])) rfl fun H'=>(RetL_pan ?_)
   first|(exact congrArg _ ((pAtom_in1 q1 d8).trans (aft_er hx)))|(exact congrArg _ ((pAtom_out1 q1 q2 d8).trans (aft_er hx)))|(exact congrArg _ ((pAtom_fa q1 q2 q3).trans (aft_er hx)))|(exact congrArg _ ((pAtom_tr q1 q2 q3 q4).trans (aft_er hx)))
 have q3: ¬s.wd=[102,97,108,115,101]:=c6
 refine W_seq_regc (fun T H=>T 0=(V.mp 0 v 0 0)∧T 2=(V.mp 2 1 0 0)∧T 3=(V.mp 3 1 0 0)∧T 8=(V.bool true)∧T 59=(V.bool (decide (¬(s.wd=[116,114,117,101]))))∧H 0=(bk v 79 6 [[(V.sl (List.map cS (e.ia))),(V.sl (List.map cS (e.oa))),(V.str e.src),(iV ((s.pos:Nat):Int)),(V.str s.wd),(iV ((s.dep:Nat):Int))]])∧H 2=(bk 1 24 3 [[(iV (0:Int)),(iV (0:Int)),V.nilsl]])∧H 3=(bk 1 24 3 [[(iV (1:Int)),(iV (0:Int)),(V.sl (List.map cF ([])))]])∧True) ?_ ?_
 ·
  refine R_mv rfl (R_nilck_mp rfl rfl oB (R_fk rfl rfl (R_lk rfl rfl rfl rfl (R_sneq (s:=s.wd) (t:=([116,114,117,101])) rfl rfl (R_mv rfl ?_)))))
  exact R_nil ⟨rfl,rfl,rfl,rfl,rfl,rfl,rfl,rfl,trivial⟩
 intro T H ⟨t0,t2,t3,t8,t59,h0,h2,h3,_⟩
 refine W_if t59 (fun c8=>?_) fun c8=>?_
 ·
  have q4: ¬s.wd=[116,114,117,101]:=c8
  refine W_r (R_mv t0 (R_e (pop_pan (i:=0) (pfail_loc v e s (5:Int)) (evcons (@rfl V (V.mp 0 v 0 0)) (evcons (@rfl V (iV (5:Int))) evnil)) rfl h0 rfl fun H'=>(w1 _ _ _ (RetL_pan ?_)))))
  exact congrArg _ (pAtom_no q1 q2 q3 q4)
 have q4:s.wd=[116,114,117,101]:=Decidable.not_not.1 c8
 refine W_skip (n1 _ _ (.done (W_seq_seq (W_r (R_mv t8 (R_notb rfl (R_e ?_)))))))
 refine W_seq_ifb rfl (fun c9=>?_) (fun c9=>?_)
 · cases c9
 have d8:=c9
 rw [Bool.not_eq_false'] at d8
 refine W_seq_skip (W_seq_seq (W_r (R_mv t0 (R_e (W_seq_seq ?_)))))
 rcases hx:pNext e s with ⟨u1,s1⟩|⟨a_s1,x_s1⟩
 ·
  obtain ⟨k1,k1d,k1g⟩:=pNext_inv hs hx
  refine pop_ok (i:=0) (by have q:=pnext_loc v e s hs; rw [hx] at q; exact q) (evcons (@rfl V (V.mp 0 v 0 0)) evnil) rfl h0 rfl rfl (fork_ (R:=fun T H=>T 2=(V.mp 2 1 0 0)∧T 3=(V.mp 3 1 0 0)∧T 71=(V.mp 0 v 0 0)∧T 72=(V.tup [])∧H 0=(bk v 79 6 [[(V.sl (List.map cS (e.ia))),(V.sl (List.map cS (e.oa))),(V.str e.src),(iV ((s1.pos:Nat):Int)),(V.str s1.wd),(iV ((s1.dep:Nat):Int))]])∧H 2=(bk 1 24 3 [[(iV (0:Int)),(iV (0:Int)),V.nilsl]])∧H 3=(bk 1 24 3 [[(iV (1:Int)),(iV (0:Int)),(V.sl (List.map cF ([])))]])∧True) ⟨t2,t3,(@rfl V (V.mp 0 v 0 0)),(@rfl V (V.tup [])),rfl,h2,h3,trivial⟩ ?_)
  intro T H ⟨t2,t3,t71,t72,h0,h2,h3,_⟩
  refine W_reg0 (W_r (R_lk t3 h3 rfl rfl (R_sk t2 rfl rfl h2 rfl rfl rfl rfl rfl (R_e (W_ret ?_)))))
  refine RetL_ok (v:=(V.agg [(iV (1:Int)),(iV (0:Int)),(V.sl (List.map cF ([])))])) (b:=(bk v 79 6 [[(V.sl (List.map cS (e.ia))),(V.sl (List.map cS (e.oa))),(V.str e.src),(iV ((s1.pos:Nat):Int)),(V.str s1.wd),(iV ((s1.dep:Nat):Int))]])) (resT1 (resV_c (u:=(V.agg [(iV (1:Int)),(iV (0:Int)),(V.sl (List.map cF ([])))])) t2 (@rfl Blk (bk 1 24 3 [[(iV (1:Int)),(iV (0:Int)),(V.sl (List.map cF ([])))]])) (lB oB rfl rfl))) ?_ (by simp) (.same (cut_fin 1 _) _) h0 (by simp [locB,loc0])
  exact congrArg _ ((pAtom_tr q1 q2 q3 q4).trans (aft_ok hx))
 ·
  refine pop_pan (i:=0) (by have q:=pnext_loc v e s hs; rw [hx] at q; exact q) (evcons (@rfl V (V.mp 0 v 0 0)) evnil) rfl h0 rfl fun H'=>(RetL_pan ?_)
  first|(exact congrArg _ ((pAtom_in1 q1 d8).trans (aft_er hx)))|(exact congrArg _ ((pAtom_out1 q1 q2 d8).trans (aft_er hx)))|(exact congrArg _ ((pAtom_fa q1 q2 q3).trans (aft_er hx)))|(exact congrArg _ ((pAtom_tr q1 q2 q3 q4).trans (aft_er hx)))
theorem pun_step (v:Nat) (e:PE) (s:PS) (hs:OkS e s) (k:Nat) (hkb:k≤4294967296) (ihU: ∀ (s:PS) (r:PR Fm),OkS e s→pF e k .un s=some r→LocC Try.prog 92 1 [.mp 0 v 0 0] (hpB (bk v 79 6 [pCells e s])) (r.out 79 75 v e fmV)) (ihF: ∀ (s:PS) (r:PR Fm),OkS e s→pF e k .form s=some r→LocC Try.prog 37 1 [.mp 0 v 0 0] (hpB (bk v 79 6 [pCells e s])) (r.out 79 75 v e fmV)) (r:PR Fm) (h:pF e (k+1) .un s=some r):LocC Try.prog 92 1 [(V.mp 0 v 0 0)] (hpB (bk v 79 6 [[(V.sl (List.map cS (e.ia))),(V.sl (List.map cS (e.oa))),(V.str e.src),(iV ((s.pos:Nat):Int)),(V.str s.wd),(iV ((s.dep:Nat):Int))]])) (r.out 79 75 v e fmV):=by
 refine lW (k0:=0) Try.func92 s92_ok fun hB=>?_
 unfold s92
 dsimp only
 have hlen:=hs.len
 have hpos:=hs.pos
 have hdep:=hs.dep
 refine W_r (R_alloc (i:=2) (n:=0) (m:=3) rfl (congrArg Blk.ver rfl) rfl (R_e (W_seq_seq (W_r (R_mv rfl (R_nilck_mp rfl rfl oB (R_fk rfl rfl ?_)))))))
 refine R_lk rfl rfl rfl rfl (R_e (W_seq_blockgP fun Q1 n1 x1 y1 z1 w1=>(W_r (R_seql (s:=s.wd) (t:=([33])) rfl rfl (R_mv rfl (R_e ?_))))))
 refine W_if rfl (fun c2=>?_) fun c2=>?_
 ·
  have q1:s.wd=[33]:=c2
  refine W_seq_seq (W_r (R_mv rfl (R_mv rfl (R_mkm (evcons rfl evnil) evnil (R_e (W_seq_seq ?_))))))
  rcases hx:pPart e (pF e k .un) s with _|(⟨f1,s1⟩|⟨a_s1,x_s1⟩)
  ·
   exfalso; rw [pF,if_pos q1] at h; rw [hx] at h; simp only [mapP] at h; cases h
  ·
   obtain ⟨k1,k1d⟩:=pPart_keeps (pF_keeps e k .un) _ _ _ hs hx
   refine pop_ok (i:=0) (ppart_loc v e s hs 92 (pF e k .un) ihU (pF_keeps e k .un) _ hx) (evcons (@rfl V (V.mp 0 v 0 0)) (evcons (@rfl V (V.fn 92 [(V.mp 0 v 0 0)] [])) evnil)) rfl (@rfl Blk (bk v 79 6 [[(V.sl (List.map cS (e.ia))),(V.sl (List.map cS (e.oa))),(V.str e.src),(iV ((s.pos:Nat):Int)),(V.str s.wd),(iV ((s.dep:Nat):Int))]])) rfl rfl (fork_ (R:=fun T H=>T 2=(V.mp 2 1 0 0)∧T 10=(V.mp 0 v 0 0)∧T 12=(V.fn 92 [(V.mp 0 v 0 0)] [])∧T 13=(V.agg [(iV (f1.op)),(iV (f1.arg)),(V.sl (List.map cF (f1.kids)))])∧H 0=(bk v 79 6 [[(V.sl (List.map cS (e.ia))),(V.sl (List.map cS (e.oa))),(V.str e.src),(iV ((s1.pos:Nat):Int)),(V.str s1.wd),(iV ((s1.dep:Nat):Int))]])∧H 2=(bk 1 24 3 [[(iV (0:Int)),(iV (0:Int)),V.nilsl]])∧H 3=(⟨0,false,false,0,0,[]⟩:Blk)∧True) ⟨(@rfl V (V.mp 2 1 0 0)),(@rfl V (V.mp 0 v 0 0)),(@rfl V (V.fn 92 [(V.mp 0 v 0 0)] [])),(@rfl V (V.agg [(iV (f1.op)),(iV (f1.arg)),(V.sl (List.map cF (f1.kids)))])),rfl,rfl,rfl,trivial⟩ ?_)
   intro T H ⟨t2,t10,t12,t13,h0,h2,h3,_⟩
   refine W_r (R_callk (not_pure f1) (evcons t13 evnil) (R_sk t2 rfl rfl h2 rfl rfl rfl rfl rfl (R_e (W_ret (y1 _ _ ?_)))))
   refine RetL_ok (v:=(V.agg [(iV (4:Int)),(iV (0:Int)),(V.sl (List.map cF ([f1])))])) (b:=(bk v 79 6 [[(V.sl (List.map cS (e.ia))),(V.sl (List.map cS (e.oa))),(V.str e.src),(iV ((s1.pos:Nat):Int)),(V.str s1.wd),(iV ((s1.dep:Nat):Int))]])) (resT1 (resV_c (u:=(V.agg [(iV (4:Int)),(iV (0:Int)),(V.sl (List.map cF ([f1])))])) t2 (@rfl Blk (bk 1 24 3 [[(iV (4:Int)),(iV (0:Int)),(V.sl (List.map cF ([f1])))]])) (lB oB rfl rfl))) ?_ (by simp) (.same (cut_fin 1 _) _) h0 (by simp [locB,loc0])
   rw [pF,if_pos q1] at h; rw [hx] at h; simp only [mapP] at h; cases h; rfl
  ·
   refine pop_pan (i:=0) (ppart_loc v e s hs 92 (pF e k .un) ihU (pF_keeps e k .un) _ hx) (evcons (@rfl V (V.mp 0 v 0 0)) (evcons (@rfl V (V.fn 92 [(V.mp 0 v 0 0)] [])) evnil)) rfl (@rfl Blk (bk v 79 6 [[(V.sl (List.map cS (e.ia))),(V.sl (List.map cS (e.oa))),(V.str e.src),(iV ((s.pos:Nat):Int)),(V.str s.wd),(iV ((s.dep:Nat):Int))]])) rfl fun H'=>(w1 _ _ _ (RetL_pan ?_))
   rw [pF,if_pos q1] at h; rw [hx] at h; simp only [mapP] at h; cases h; rfl
 have q1: ¬s.wd=[33]:=c2
 refine W_r (R_seql (s:=s.wd) (t:=([88])) rfl rfl (R_mv rfl (R_e ?_)))
 refine W_if rfl (fun c3=>?_) fun c3=>?_
 ·
  have q2:s.wd=[88]:=c3
  refine W_seq_seq (W_r (R_mv rfl (R_mv rfl (R_mkm (evcons rfl evnil) evnil (R_e (W_seq_seq ?_))))))
  rcases hx:pPart e (pF e k .un) s with _|(⟨f1,s1⟩|⟨a_s1,x_s1⟩)
  ·
   exfalso; rw [pF,if_neg q1,if_pos q2] at h; rw [hx] at h; simp only [mapP] at h; cases h
  ·
   obtain ⟨k1,k1d⟩:=pPart_keeps (pF_keeps e k .un) _ _ _ hs hx
   refine pop_ok (i:=0) (ppart_loc v e s hs 92 (pF e k .un) ihU (pF_keeps e k .un) _ hx) (evcons (@rfl V (V.mp 0 v 0 0)) (evcons (@rfl V (V.fn 92 [(V.mp 0 v 0 0)] [])) evnil)) rfl (@rfl Blk (bk v 79 6 [[(V.sl (List.map cS (e.ia))),(V.sl (List.map cS (e.oa))),(V.str e.src),(iV ((s.pos:Nat):Int)),(V.str s.wd),(iV ((s.dep:Nat):Int))]])) rfl rfl (fork_ (R:=fun T H=>T 2=(V.mp 2 1 0 0)∧T 17=(V.mp 0 v 0 0)∧T 19=(V.fn 92 [(V.mp 0 v 0 0)] [])∧T 20=(V.agg [(iV (f1.op)),(iV (f1.arg)),(V.sl (List.map cF (f1.kids)))])∧H 0=(bk v 79 6 [[(V.sl (List.map cS (e.ia))),(V.sl (List.map cS (e.oa))),(V.str e.src),(iV ((s1.pos:Nat):Int)),(V.str s1.wd),(iV ((s1.dep:Nat):Int))]])∧H 2=(bk 1 24 3 [[(iV (0:Int)),(iV (0:Int)),V.nilsl]])∧H 3=(⟨0,false,false,0,0,[]⟩:Blk)∧True) ⟨(@rfl V (V.mp 2 1 0 0)),(@rfl V (V.mp 0 v 0 0)),(@rfl V (V.fn 92 [(V.mp 0 v 0 0)] [])),(@rfl V (V.agg [(iV (f1.op)),(iV (f1.arg)),(V.sl (List.map cF (f1.kids)))])),rfl,rfl,rfl,trivial⟩ ?_)
   intro T H ⟨t2,t17,t19,t20,h0,h2,h3,_⟩
   refine W_r (R_bslice (mcons (congrArg (fun v=>(0,v)) t20) rfl) rfl (R_callk (node_pure ((7:Int)) ([f1])) (evcons rfl (evcons (sl_F1 (x:=f1) rfl) evnil)) (R_sk t2 rfl rfl h2 rfl rfl rfl rfl rfl (R_e (W_ret (y1 _ _ ?_))))))
   refine RetL_ok (v:=(V.agg [(iV (((7:Int)))),(iV (0:Int)),(V.sl (List.map cF (([f1]))))])) (b:=(bk v 79 6 [[(V.sl (List.map cS (e.ia))),(V.sl (List.map cS (e.oa))),(V.str e.src),(iV ((s1.pos:Nat):Int)),(V.str s1.wd),(iV ((s1.dep:Nat):Int))]])) (resT1 (resV_c (u:=(V.agg [(iV (((7:Int)))),(iV (0:Int)),(V.sl (List.map cF (([f1]))))])) t2 (@rfl Blk (bk 1 24 3 [[(iV (((7:Int)))),(iV (0:Int)),(V.sl (List.map cF (([f1]))))]])) (lB oB rfl rfl))) ?_ (by simp) (.same (cut_fin 1 _) _) h0 (by simp [locB,loc0])
   rw [pF,if_neg q1,if_pos q2] at h; rw [hx] at h; simp only [mapP] at h; cases h; rfl
  ·
   refine pop_pan (i:=0) (ppart_loc v e s hs 92 (pF e k .un) ihU (pF_keeps e k .un) _ hx) (evcons (@rfl V (V.mp 0 v 0 0)) (evcons (@rfl V (V.fn 92 [(V.mp 0 v 0 0)] [])) evnil)) rfl (@rfl Blk (bk v 79 6 [[(V.sl (List.map cS (e.ia))),(V.sl (List.map cS (e.oa))),(V.str e.src),(iV ((s.pos:Nat):Int)),(V.str s.wd),(iV ((s.dep:Nat):Int))]])) rfl fun H'=>(w1 _ _ _ (RetL_pan ?_))
   rw [pF,if_neg q1,if_pos q2] at h; rw [hx] at h; simp only [mapP] at h; cases h; rfl
 have q2: ¬s.wd=[88]:=c3
 refine W_r (R_seql (s:=s.wd) (t:=([78])) rfl rfl (R_mv rfl (R_e ?_)))
 refine W_if rfl (fun c4=>?_) fun c4=>?_
 ·
  have q3:s.wd=[78]:=c4
  refine W_seq_seq (W_r (R_mv rfl (R_mv rfl (R_mkm (evcons rfl evnil) evnil (R_e (W_seq_seq ?_))))))
  rcases hx:pPart e (pF e k .un) s with _|(⟨f1,s1⟩|⟨a_s1,x_s1⟩)
  ·
   exfalso; rw [pF,if_neg q1,if_neg q2,if_pos q3] at h; rw [hx] at h; simp only [mapP] at h; cases h
  ·
   obtain ⟨k1,k1d⟩:=pPart_keeps (pF_keeps e k .un) _ _ _ hs hx
   refine pop_ok (i:=0) (ppart_loc v e s hs 92 (pF e k .un) ihU (pF_keeps e k .un) _ hx) (evcons (@rfl V (V.mp 0 v 0 0)) (evcons (@rfl V (V.fn 92 [(V.mp 0 v 0 0)] [])) evnil)) rfl (@rfl Blk (bk v 79 6 [[(V.sl (List.map cS (e.ia))),(V.sl (List.map cS (e.oa))),(V.str e.src),(iV ((s.pos:Nat):Int)),(V.str s.wd),(iV ((s.dep:Nat):Int))]])) rfl rfl (fork_ (R:=fun T H=>T 2=(V.mp 2 1 0 0)∧T 25=(V.mp 0 v 0 0)∧T 27=(V.fn 92 [(V.mp 0 v 0 0)] [])∧T 28=(V.agg [(iV (f1.op)),(iV (f1.arg)),(V.sl (List.map cF (f1.kids)))])∧H 0=(bk v 79 6 [[(V.sl (List.map cS (e.ia))),(V.sl (List.map cS (e.oa))),(V.str e.src),(iV ((s1.pos:Nat):Int)),(V.str s1.wd),(iV ((s1.dep:Nat):Int))]])∧H 2=(bk 1 24 3 [[(iV (0:Int)),(iV (0:Int)),V.nilsl]])∧H 3=(⟨0,false,false,0,0,[]⟩:Blk)∧True) ⟨(@rfl V (V.mp 2 1 0 0)),(@rfl V (V.mp 0 v 0 0)),(@rfl V (V.fn 92 [(V.mp 0 v 0 0)] [])),(@rfl V (V.agg [(iV (f1.op)),(iV (f1.arg)),(V.sl (List.map cF (f1.kids)))])),rfl,rfl,rfl,trivial⟩ ?_)
   intro T H ⟨t2,t25,t27,t28,h0,h2,h3,_⟩
   refine W_r (R_bslice (mcons (congrArg (fun v=>(0,v)) t28) rfl) rfl (R_callk (node_pure ((9:Int)) ([f1])) (evcons rfl (evcons (sl_F1 (x:=f1) rfl) evnil)) (R_sk t2 rfl rfl h2 rfl rfl rfl rfl rfl (R_e (W_ret (y1 _ _ ?_))))))
   refine RetL_ok (v:=(V.agg [(iV (((9:Int)))),(iV (0:Int)),(V.sl (List.map cF (([f1]))))])) (b:=(bk v 79 6 [[(V.sl (List.map cS (e.ia))),(V.sl (List.map cS (e.oa))),(V.str e.src),(iV ((s1.pos:Nat):Int)),(V.str s1.wd),(iV ((s1.dep:Nat):Int))]])) (resT1 (resV_c (u:=(V.agg [(iV (((9:Int)))),(iV (0:Int)),(V.sl (List.map cF (([f1]))))])) t2 (@rfl Blk (bk 1 24 3 [[(iV (((9:Int)))),(iV (0:Int)),(V.sl (List.map cF (([f1]))))]])) (lB oB rfl rfl))) ?_ (by simp) (.same (cut_fin 1 _) _) h0 (by simp [locB,loc0])
   rw [pF,if_neg q1,if_neg q2,if_pos q3] at h; rw [hx] at h; simp only [mapP] at h; cases h; rfl
  ·
   refine pop_pan (i:=0) (ppart_loc v e s hs 92 (pF e k .un) ihU (pF_keeps e k .un) _ hx) (evcons (@rfl V (V.mp 0 v 0 0)) (evcons (@rfl V (V.fn 92 [(V.mp 0 v 0 0)] [])) evnil)) rfl (@rfl Blk (bk v 79 6 [[(V.sl (List.map cS (e.ia))),(V.sl (List.map cS (e.oa))),(V.str e.src),(iV ((s.pos:Nat):Int)),(V.str s.wd),(iV ((s.dep:Nat):Int))]])) rfl fun H'=>(w1 _ _ _ (RetL_pan ?_))
   rw [pF,if_neg q1,if_neg q2,if_pos q3] at h; rw [hx] at h; simp only [mapP] at h; cases h; rfl
 have q3: ¬s.wd=[78]:=c4
 refine W_r (R_seql (s:=s.wd) (t:=([70])) rfl rfl (R_mv rfl (R_e ?_)))
 refine W_if rfl (fun c5=>?_) fun c5=>?_
 ·
  have q4:s.wd=[70]:=c5
  refine W_seq_seq (W_r (R_callk (yes_pure) rfl (R_mv rfl (R_mv rfl (R_mkm (evcons rfl evnil) evnil (R_e (W_seq_seq ?_)))))))
  rcases hx:pPart e (pF e k .un) s with _|(⟨f1,s1⟩|⟨a_s1,x_s1⟩)
  ·
   exfalso; rw [pF,if_neg q1,if_neg q2,if_neg q3,if_pos q4] at h; rw [hx] at h; simp only [mapP] at h; cases h
  ·
   obtain ⟨k1,k1d⟩:=pPart_keeps (pF_keeps e k .un) _ _ _ hs hx
   refine pop_ok (i:=0) (ppart_loc v e s hs 92 (pF e k .un) ihU (pF_keeps e k .un) _ hx) (evcons (@rfl V (V.mp 0 v 0 0)) (evcons (@rfl V (V.fn 92 [(V.mp 0 v 0 0)] [])) evnil)) rfl (@rfl Blk (bk v 79 6 [[(V.sl (List.map cS (e.ia))),(V.sl (List.map cS (e.oa))),(V.str e.src),(iV ((s.pos:Nat):Int)),(V.str s.wd),(iV ((s.dep:Nat):Int))]])) rfl rfl (fork_ (R:=fun T H=>T 2=(V.mp 2 1 0 0)∧T 33=(V.agg [(iV (1:Int)),(iV (0:Int)),(V.sl (List.map cF ([])))])∧T 34=(V.mp 0 v 0 0)∧T 36=(V.fn 92 [(V.mp 0 v 0 0)] [])∧T 37=(V.agg [(iV (f1.op)),(iV (f1.arg)),(V.sl (List.map cF (f1.kids)))])∧H 0=(bk v 79 6 [[(V.sl (List.map cS (e.ia))),(V.sl (List.map cS (e.oa))),(V.str e.src),(iV ((s1.pos:Nat):Int)),(V.str s1.wd),(iV ((s1.dep:Nat):Int))]])∧H 2=(bk 1 24 3 [[(iV (0:Int)),(iV (0:Int)),V.nilsl]])∧H 3=(⟨0,false,false,0,0,[]⟩:Blk)∧True) ⟨(@rfl V (V.mp 2 1 0 0)),(@rfl V (V.agg [(iV (1:Int)),(iV (0:Int)),(V.sl (List.map cF ([])))])),(@rfl V (V.mp 0 v 0 0)),(@rfl V (V.fn 92 [(V.mp 0 v 0 0)] [])),(@rfl V (V.agg [(iV (f1.op)),(iV (f1.arg)),(V.sl (List.map cF (f1.kids)))])),rfl,rfl,rfl,trivial⟩ ?_)
   intro T H ⟨t2,t33,t34,t36,t37,h0,h2,h3,_⟩
   refine W_r (R_bslice (mcons (congrArg (fun v=>(0,v)) t33) (mcons (congrArg (fun v=>(1,v)) t37) rfl)) rfl (R_callk (node_pure ((8:Int)) ([(Fm.nd (1:Int) (0:Int) []),f1])) (evcons rfl (evcons (sl_F2 (x:=((Fm.nd (1:Int) (0:Int) []))) (y:=f1) rfl) evnil)) (R_sk t2 rfl rfl h2 rfl rfl rfl rfl rfl (R_e (W_ret (y1 _ _ ?_))))))
   refine RetL_ok (v:=(V.agg [(iV (((8:Int)))),(iV (0:Int)),(V.sl (List.map cF (([(Fm.nd (1:Int) (0:Int) []),f1]))))])) (b:=(bk v 79 6 [[(V.sl (List.map cS (e.ia))),(V.sl (List.map cS (e.oa))),(V.str e.src),(iV ((s1.pos:Nat):Int)),(V.str s1.wd),(iV ((s1.dep:Nat):Int))]])) (resT1 (resV_c (u:=(V.agg [(iV (((8:Int)))),(iV (0:Int)),(V.sl (List.map cF (([(Fm.nd (1:Int) (0:Int) []),f1]))))])) t2 (@rfl Blk (bk 1 24 3 [[(iV (((8:Int)))),(iV (0:Int)),(V.sl (List.map cF (([(Fm.nd (1:Int) (0:Int) []),f1]))))]])) (lB oB rfl rfl))) ?_ (by simp) (.same (cut_fin 1 _) _) h0 (by simp [locB,loc0])
   rw [pF,if_neg q1,if_neg q2,if_neg q3,if_pos q4] at h; rw [hx] at h; simp only [mapP] at h; cases h; rfl
  ·
   refine pop_pan (i:=0) (ppart_loc v e s hs 92 (pF e k .un) ihU (pF_keeps e k .un) _ hx) (evcons (@rfl V (V.mp 0 v 0 0)) (evcons (@rfl V (V.fn 92 [(V.mp 0 v 0 0)] [])) evnil)) rfl (@rfl Blk (bk v 79 6 [[(V.sl (List.map cS (e.ia))),(V.sl (List.map cS (e.oa))),(V.str e.src),(iV ((s.pos:Nat):Int)),(V.str s.wd),(iV ((s.dep:Nat):Int))]])) rfl fun H'=>(w1 _ _ _ (RetL_pan ?_))
   rw [pF,if_neg q1,if_neg q2,if_neg q3,if_pos q4] at h; rw [hx] at h; simp only [mapP] at h; cases h; rfl
 have q4: ¬s.wd=[70]:=c5
 refine W_r (R_seql (s:=s.wd) (t:=([71])) rfl rfl (R_mv rfl (R_e ?_)))
 refine W_if rfl (fun c6=>?_) fun c6=>?_
 ·
  have q5:s.wd=[71]:=c6
  refine W_seq_seq (W_r (R_callk (no_pure) rfl (R_mv rfl (R_mv rfl (R_mkm (evcons rfl evnil) evnil (R_e (W_seq_seq ?_)))))))
  rcases hx:pPart e (pF e k .un) s with _|(⟨f1,s1⟩|⟨a_s1,x_s1⟩)
  ·
   exfalso; rw [pF,if_neg q1,if_neg q2,if_neg q3,if_neg q4,if_pos q5] at h; rw [hx] at h; simp only [mapP] at h; cases h
  ·
   obtain ⟨k1,k1d⟩:=pPart_keeps (pF_keeps e k .un) _ _ _ hs hx
   refine pop_ok (i:=0) (ppart_loc v e s hs 92 (pF e k .un) ihU (pF_keeps e k .un) _ hx) (evcons (@rfl V (V.mp 0 v 0 0)) (evcons (@rfl V (V.fn 92 [(V.mp 0 v 0 0)] [])) evnil)) rfl (@rfl Blk (bk v 79 6 [[(V.sl (List.map cS (e.ia))),(V.sl (List.map cS (e.oa))),(V.str e.src),(iV ((s.pos:Nat):Int)),(V.str s.wd),(iV ((s.dep:Nat):Int))]])) rfl rfl (fork_ (R:=fun T H=>T 2=(V.mp 2 1 0 0)∧T 42=(V.agg [(iV (4:Int)),(iV (0:Int)),(V.sl (List.map cF ([Fm.nd 1 0 []])))])∧T 43=(V.mp 0 v 0 0)∧T 45=(V.fn 92 [(V.mp 0 v 0 0)] [])∧T 46=(V.agg [(iV (f1.op)),(iV (f1.arg)),(V.sl (List.map cF (f1.kids)))])∧H 0=(bk v 79 6 [[(V.sl (List.map cS (e.ia))),(V.sl (List.map cS (e.oa))),(V.str e.src),(iV ((s1.pos:Nat):Int)),(V.str s1.wd),(iV ((s1.dep:Nat):Int))]])∧H 2=(bk 1 24 3 [[(iV (0:Int)),(iV (0:Int)),V.nilsl]])∧H 3=(⟨0,false,false,0,0,[]⟩:Blk)∧True) ⟨(@rfl V (V.mp 2 1 0 0)),(@rfl V (V.agg [(iV (4:Int)),(iV (0:Int)),(V.sl (List.map cF ([Fm.nd 1 0 []])))])),(@rfl V (V.mp 0 v 0 0)),(@rfl V (V.fn 92 [(V.mp 0 v 0 0)] [])),(@rfl V (V.agg [(iV (f1.op)),(iV (f1.arg)),(V.sl (List.map cF (f1.kids)))])),rfl,rfl,rfl,trivial⟩ ?_)
   intro T H ⟨t2,t42,t43,t45,t46,h0,h2,h3,_⟩
   refine W_r (R_bslice (mcons (congrArg (fun v=>(0,v)) t42) (mcons (congrArg (fun v=>(1,v)) t46) rfl)) rfl (R_callk (node_pure ((10:Int)) ([(Fm.nd (4:Int) (0:Int) [Fm.nd 1 0 []]),f1])) (evcons rfl (evcons (sl_F2 (x:=((Fm.nd (4:Int) (0:Int) [Fm.nd 1 0 []]))) (y:=f1) rfl) evnil)) (R_sk t2 rfl rfl h2 rfl rfl rfl rfl rfl (R_e (W_ret (y1 _ _ ?_))))))
   refine RetL_ok (v:=(V.agg [(iV (((10:Int)))),(iV (0:Int)),(V.sl (List.map cF (([(Fm.nd (4:Int) (0:Int) [Fm.nd 1 0 []]),f1]))))])) (b:=(bk v 79 6 [[(V.sl (List.map cS (e.ia))),(V.sl (List.map cS (e.oa))),(V.str e.src),(iV ((s1.pos:Nat):Int)),(V.str s1.wd),(iV ((s1.dep:Nat):Int))]])) (resT1 (resV_c (u:=(V.agg [(iV (((10:Int)))),(iV (0:Int)),(V.sl (List.map cF (([(Fm.nd (4:Int) (0:Int) [Fm.nd 1 0 []]),f1]))))])) t2 (@rfl Blk (bk 1 24 3 [[(iV (((10:Int)))),(iV (0:Int)),(V.sl (List.map cF (([(Fm.nd (4:Int) (0:Int) [Fm.nd 1 0 []]),f1]))))]])) (lB oB rfl rfl))) ?_ (by simp) (.same (cut_fin 1 _) _) h0 (by simp [locB,loc0])
   rw [pF,if_neg q1,if_neg q2,if_neg q3,if_neg q4,if_pos q5] at h; rw [hx] at h; simp only [mapP] at h; cases h; rfl
  ·
   refine pop_pan (i:=0) (ppart_loc v e s hs 92 (pF e k .un) ihU (pF_keeps e k .un) _ hx) (evcons (@rfl V (V.mp 0 v 0 0)) (evcons (@rfl V (V.fn 92 [(V.mp 0 v 0 0)] [])) evnil)) rfl (@rfl Blk (bk v 79 6 [[(V.sl (List.map cS (e.ia))),(V.sl (List.map cS (e.oa))),(V.str e.src),(iV ((s.pos:Nat):Int)),(V.str s.wd),(iV ((s.dep:Nat):Int))]])) rfl fun H'=>(w1 _ _ _ (RetL_pan ?_))
   rw [pF,if_neg q1,if_neg q2,if_neg q3,if_neg q4,if_pos q5] at h; rw [hx] at h; simp only [mapP] at h; cases h; rfl
 have q5: ¬s.wd=[71]:=c6
 refine W_r (R_seql (s:=s.wd) (t:=([40])) rfl rfl (R_mv rfl (R_e ?_)))
 refine W_if rfl (fun c7=>?_) fun c7=>?_
 ·
  have q6:s.wd=[40]:=c7
  refine W_seq_seq (W_r (R_mv rfl (R_mv rfl (R_mkm (evcons rfl evnil) evnil (R_e (W_seq_seq ?_))))))
  rcases hx:pPart e (pF e k .form) s with _|(⟨f1,s1⟩|⟨a_s1,x_s1⟩)
  ·
   exfalso; rw [pF,if_neg q1,if_neg q2,if_neg q3,if_neg q4,if_neg q5,if_pos q6] at h; rw [hx] at h; cases h
  ·
   obtain ⟨k1,k1d⟩:=pPart_keeps (pF_keeps e k .form) _ _ _ hs hx
   refine pop_ok (i:=0) (ppart_loc v e s hs 37 (pF e k .form) ihF (pF_keeps e k .form) _ hx) (evcons (@rfl V (V.mp 0 v 0 0)) (evcons (@rfl V (V.fn 37 [(V.mp 0 v 0 0)] [])) evnil)) rfl (@rfl Blk (bk v 79 6 [[(V.sl (List.map cS (e.ia))),(V.sl (List.map cS (e.oa))),(V.str e.src),(iV ((s.pos:Nat):Int)),(V.str s.wd),(iV ((s.dep:Nat):Int))]])) rfl rfl (fork_ (R:=fun T H=>T 0=(V.mp 0 v 0 0)∧T 2=(V.mp 2 1 0 0)∧T 51=(V.mp 0 v 0 0)∧T 53=(V.fn 37 [(V.mp 0 v 0 0)] [])∧T 54=(V.agg [(iV (f1.op)),(iV (f1.arg)),(V.sl (List.map cF (f1.kids)))])∧H 0=(bk v 79 6 [[(V.sl (List.map cS (e.ia))),(V.sl (List.map cS (e.oa))),(V.str e.src),(iV ((s1.pos:Nat):Int)),(V.str s1.wd),(iV ((s1.dep:Nat):Int))]])∧H 2=(bk 1 24 3 [[(iV (0:Int)),(iV (0:Int)),V.nilsl]])∧H 3=(⟨0,false,false,0,0,[]⟩:Blk)∧True) ⟨(@rfl V (V.mp 0 v 0 0)),(@rfl V (V.mp 2 1 0 0)),(@rfl V (V.mp 0 v 0 0)),(@rfl V (V.fn 37 [(V.mp 0 v 0 0)] [])),(@rfl V (V.agg [(iV (f1.op)),(iV (f1.arg)),(V.sl (List.map cF (f1.kids)))])),rfl,rfl,rfl,trivial⟩ ?_)
   intro T H ⟨t0,t2,t51,t53,t54,h0,h2,h3,_⟩
   refine W_r (R_alloc (i:=3) (n:=0) (m:=3) rfl (congrArg Blk.ver h3) rfl (R_sk rfl t54 rfl rfl rfl rfl rfl rfl rfl (R_e (W_seq_seq (W_r (R_mv t0 (R_nilck_mp rfl h0 oB ?_)))))))
   refine R_fk rfl h0 (R_lk rfl h0 rfl rfl (R_sneq (s:=s1.wd) (t:=([41])) rfl rfl (R_e ?_)))
   refine W_seq_if rfl (fun c8=>?_) fun c8=>?_
   ·
    have d1: ¬s1.wd=[41]:=c8
    refine W_seq_seq (W_r (R_mv t0 (R_e (W_seq_seq (pop_pan (i:=0) (pfail_loc v e s1 (5:Int)) (evcons (@rfl V (V.mp 0 v 0 0)) (evcons (@rfl V (iV (5:Int))) evnil)) rfl h0 rfl fun H'=>(w1 _ _ _ (RetL_pan ?_)))))))
    rw [pF,if_neg q1,if_neg q2,if_neg q3,if_neg q4,if_neg q5,if_pos q6] at h; rw [hx] at h; simp only at h; rw [if_neg d1] at h; cases h; rfl
   have d1:s1.wd=[41]:=Decidable.not_not.1 c8
   refine W_seq_skip (W_seq_seq (W_r (R_mv t0 (R_e (W_seq_seq ?_)))))
   rcases hy:pNext e s1 with ⟨u2,s2⟩|⟨a_s2,x_s2⟩
   ·
    obtain ⟨k2,k2d,k2g⟩:=pNext_inv k1 hy
    refine pop_ok (i:=0) (by have q:=pnext_loc v e s1 k1; rw [hy] at q; exact q) (evcons (@rfl V (V.mp 0 v 0 0)) evnil) rfl h0 rfl rfl (fork_ (R:=fun T H=>T 2=(V.mp 2 1 0 0)∧T 3=(V.mp 3 1 0 0)∧T 62=(V.mp 0 v 0 0)∧T 63=(V.tup [])∧H 0=(bk v 79 6 [[(V.sl (List.map cS (e.ia))),(V.sl (List.map cS (e.oa))),(V.str e.src),(iV ((s2.pos:Nat):Int)),(V.str s2.wd),(iV ((s2.dep:Nat):Int))]])∧H 2=(bk 1 24 3 [[(iV (0:Int)),(iV (0:Int)),V.nilsl]])∧H 3=(bk 1 24 3 [[(iV (f1.op)),(iV (f1.arg)),(V.sl (List.map cF (f1.kids)))]])∧True) ⟨t2,(@rfl V (V.mp 3 1 0 0)),(@rfl V (V.mp 0 v 0 0)),(@rfl V (V.tup [])),rfl,h2,rfl,trivial⟩ ?_)
    intro T H ⟨t2,t3,t62,t63,h0,h2,h3,_⟩
    refine W_reg0 (W_r (R_lk t3 h3 rfl rfl (R_sk t2 rfl rfl h2 rfl rfl rfl rfl rfl (R_e (W_ret (y1 _ _ ?_))))))
    refine RetL_ok (v:=(V.agg [(iV (f1.op)),(iV (f1.arg)),(V.sl (List.map cF (f1.kids)))])) (b:=(bk v 79 6 [[(V.sl (List.map cS (e.ia))),(V.sl (List.map cS (e.oa))),(V.str e.src),(iV ((s2.pos:Nat):Int)),(V.str s2.wd),(iV ((s2.dep:Nat):Int))]])) (resT1 (resV_c (u:=(V.agg [(iV (f1.op)),(iV (f1.arg)),(V.sl (List.map cF (f1.kids)))])) t2 (@rfl Blk (bk 1 24 3 [[(iV (f1.op)),(iV (f1.arg)),(V.sl (List.map cF (f1.kids)))]])) (lB oB rfl rfl))) ?_ (by simp) (.same (cut_fin 1 _) _) h0 (by simp [locB,loc0])
    rw [pF,if_neg q1,if_neg q2,if_neg q3,if_neg q4,if_neg q5,if_pos q6] at h; rw [hx] at h; simp only at h; rw [if_pos d1,hy] at h; cases h; rfl
   ·
    refine pop_pan (i:=0) (by have q:=pnext_loc v e s1 k1; rw [hy] at q; exact q) (evcons (@rfl V (V.mp 0 v 0 0)) evnil) rfl h0 rfl fun H'=>(w1 _ _ _ (RetL_pan ?_))
    rw [pF,if_neg q1,if_neg q2,if_neg q3,if_neg q4,if_neg q5,if_pos q6] at h; rw [hx] at h; simp only at h; rw [if_pos d1,hy] at h; cases h; rfl
  ·
   refine pop_pan (i:=0) (ppart_loc v e s hs 37 (pF e k .form) ihF (pF_keeps e k .form) _ hx) (evcons (@rfl V (V.mp 0 v 0 0)) (evcons (@rfl V (V.fn 37 [(V.mp 0 v 0 0)] [])) evnil)) rfl (@rfl Blk (bk v 79 6 [[(V.sl (List.map cS (e.ia))),(V.sl (List.map cS (e.oa))),(V.str e.src),(iV ((s.pos:Nat):Int)),(V.str s.wd),(iV ((s.dep:Nat):Int))]])) rfl fun H'=>(w1 _ _ _ (RetL_pan ?_))
   rw [pF,if_neg q1,if_neg q2,if_neg q3,if_neg q4,if_neg q5,if_pos q6] at h; rw [hx] at h; cases h; rfl
 have q6: ¬s.wd=[40]:=c7
 refine W_skip (n1 _ _ (.done (W_seq_seq (W_r (R_mv rfl (R_e (W_seq_seq ?_)))))))
 rcases hx:pAtom e s with ⟨f1,s1⟩|⟨a1,x1⟩
 ·
  refine pop_ok (i:=0) (by have q:=patom_loc v e s hs; rw [hx] at q; exact q) (evcons (@rfl V (V.mp 0 v 0 0)) evnil) rfl (@rfl Blk (bk v 79 6 [[(V.sl (List.map cS (e.ia))),(V.sl (List.map cS (e.oa))),(V.str e.src),(iV ((s.pos:Nat):Int)),(V.str s.wd),(iV ((s.dep:Nat):Int))]])) rfl rfl (fork_ (R:=fun T H=>T 2=(V.mp 2 1 0 0)∧T 65=(V.mp 0 v 0 0)∧T 66=(V.agg [(iV (f1.op)),(iV (f1.arg)),(V.sl (List.map cF (f1.kids)))])∧H 0=(bk v 79 6 [[(V.sl (List.map cS (e.ia))),(V.sl (List.map cS (e.oa))),(V.str e.src),(iV ((s1.pos:Nat):Int)),(V.str s1.wd),(iV ((s1.dep:Nat):Int))]])∧H 2=(bk 1 24 3 [[(iV (0:Int)),(iV (0:Int)),V.nilsl]])∧H 3=(⟨0,false,false,0,0,[]⟩:Blk)∧True) ⟨(@rfl V (V.mp 2 1 0 0)),(@rfl V (V.mp 0 v 0 0)),(@rfl V (V.agg [(iV (f1.op)),(iV (f1.arg)),(V.sl (List.map cF (f1.kids)))])),rfl,rfl,rfl,trivial⟩ ?_)
  intro T H ⟨t2,t65,t66,h0,h2,h3,_⟩
  refine W_r (R_sk t2 t66 rfl h2 rfl rfl rfl rfl rfl (R_e (W_ret ?_)))
  refine RetL_ok (v:=(V.agg [(iV (f1.op)),(iV (f1.arg)),(V.sl (List.map cF (f1.kids)))])) (b:=(bk v 79 6 [[(V.sl (List.map cS (e.ia))),(V.sl (List.map cS (e.oa))),(V.str e.src),(iV ((s1.pos:Nat):Int)),(V.str s1.wd),(iV ((s1.dep:Nat):Int))]])) (resT1 (resV_c (u:=(V.agg [(iV (f1.op)),(iV (f1.arg)),(V.sl (List.map cF (f1.kids)))])) t2 (@rfl Blk (bk 1 24 3 [[(iV (f1.op)),(iV (f1.arg)),(V.sl (List.map cF (f1.kids)))]])) (lB oB rfl rfl))) ?_ (by simp) (.same (cut_fin 1 _) _) h0 (by simp [locB,loc0])
  rw [pF,if_neg q1,if_neg q2,if_neg q3,if_neg q4,if_neg q5,if_neg q6] at h; rw [hx] at h; cases h; rfl
 ·
  refine pop_pan (i:=0) (by have q:=patom_loc v e s hs; rw [hx] at q; exact q) (evcons (@rfl V (V.mp 0 v 0 0)) evnil) rfl (@rfl Blk (bk v 79 6 [[(V.sl (List.map cS (e.ia))),(V.sl (List.map cS (e.oa))),(V.str e.src),(iV ((s.pos:Nat):Int)),(V.str s.wd),(iV ((s.dep:Nat):Int))]])) rfl fun H'=>(RetL_pan ?_)
  rw [pF,if_neg q1,if_neg q2,if_neg q3,if_neg q4,if_neg q5,if_neg q6] at h; rw [hx] at h; cases h; rfl
def s34:SF:=⟨13,[.tmp 4],.seq (.reg [sO 2 (.box 37 1 (.t 0)),sO 3 (.box 37 1 (.t 1)),qI 4 0]) (.seq (.seq (.reg [qL 6 1 2,sO 7 (.call false 55 [.t 6]),qM 5 7]) (.seq (.reg [qM 8 5,qC 9 .neq 8 0]) (.cond (.t 9) (.seq (.reg [qM 10 5,qM 4 10]) (.ret)) (.skip)))) (.seq (.reg [qL 11 1 3,sO 12 (.call false 55 [.t 11]),qM 4 12]) (.ret)))⟩
theorem s34_ok:slimF Try.prog ⟨[31,36,37,38,40,41,42,44,45,59,60,61,65,66,67,71,72,73,81,82,84,92,93,98,99,102,104],[],[],[]⟩ Try.f34=some s34:=by kernel_rfl
def b55_0:SC:=.seq (.reg [qP 19 .lss 18 17]) (.seq (.cond (.t 19) (.skip) (.exit 1)) (.seq (.block 2 (.seq (.reg [qM 20 18,qA 21 1 16 18,ql 22 21,qM 3 20,qM 4 22]) (.seq (.seq (.reg [qM 23 4,sO 24 (.call false 77 [.t 23]),sO 25 (.un .not (.t 24))]) (.cond (.t 25) (.seq (.reg [qI 2 9]) (.ret)) (.skip))) (.seq (.reg [qF 26 0 1,ql 27 26,qM 28 3,sO 29 (.slice 1 (.t 27) none (some (.t 28))),qM 30 4,sO 31 (.call false 78 [.t 29,.t 30])]) (.cond (.t 31) (.seq (.reg [qI 2 7]) (.ret)) (.skip)))))) (.reg [qC 32 .add 18 1,qM 18 32])))
def s55:SF:=⟨33,[.tmp 2],.seq (.reg [sO 1 (.box 37 1 (.t 0)),qI 2 0]) (.seq (.block 0 (.seq (.reg [qF 6 0 1,ql 7 6,qN 8 7,qC 9 .eql 8 0,qM 5 9]) (.cond (.t 5) (.seq (.reg [qI 2 19]) (.ret)) (.seq (.reg [qF 11 0 1,ql 12 11,qN 13 12,qC 14 .gtr 13 64,qM 10 14]) (.cond (.t 10) (.seq (.reg [qI 2 3]) (.ret)) (.skip)))))) (.seq (.seq (.reg [qF 15 0 1,ql 16 15,qN 17 16,qI 18 0]) (.block 1 (.loop b55_0))) (.seq (.reg [qI 2 0]) (.ret))))⟩
theorem s55_ok:slimF Try.prog ⟨[31,36,37,38,40,41,42,44,45,59,60,61,65,66,67,71,72,73,81,82,84,92,93,98,99,102,104],[],[],[]⟩ Try.f55=some s55:=by kernel_rfl
theorem bytes_at {s:ByteArray} {pos:Nat} (hp:pos < s.size):(s.data.toList.drop pos).all ltr=(ltr (s[pos]'hp)&&(s.data.toList.drop (pos+1)).all ltr):=by
  have h:pos < s.data.toList.length:=by simpa using hp
  rw [List.drop_eq_getElem_cons h,List.all_cons]
  congr 1
theorem name_out {s:ByteArray} {pos:Nat} (hc:s.data.toList.all ltr=(s.data.toList.drop pos).all ltr) (hp:pos < s.size) (h:ltr (s[pos]'hp)=false):nmB s.data.toList=false:=by
  unfold nmB; rw [hc,bytes_at hp,h]; rfl
set_option maxHeartbeats 4000000 in
set_option maxRecDepth 1000000 in
theorem name_calls (s : ByteArray) (w : World) (hs : s.size ≤ 1048576) :
    Calls Try.prog 77 #[.string s] w fun e w'=>e=.returned (.bool (nmB s.data.toList))∧ ∃ pos,w'=w.iter s pos:=by
  go_enter Try.func77,Try.ntmps77
  go_wp2
  go_loopw [] (fun w'=> ∃ (pos:Nat),w'=w.iter s pos∧s.data.toList.all ltr=(s.data.toList.drop pos).all ltr) (fun w'=>s.size - w'.iterPos w.heap.size)
  case atStart=>exact ⟨0,rfl,rfl⟩
  case round =>
    obtain ⟨pos,rfl,hc⟩:=hrel
    by_cases hp:pos < s.size
    · by_cases ha:(s[pos]'hp).toNat < 128
      · have hnx : ∀ ty, (Instr.next (.pointer (some ⟨w.heap.size, 0, none⟩)) true ty).run Try.prog (w.iter s pos) = _ := fun ty => run_next_ascii w s pos ty hp ha
        go_wp2
        all_goals clear hnx
        all_goals first
          | (have q : ltr (s[pos]'hp) = false := decide_eq_false (by (try simp only [Bool.not_eq_true', Bool.not_eq_false', bne_eq_false_iff_eq, decide_eq_false_iff_not, bne_iff_ne, ne_eq, Bool.or_eq_true, decide_eq_true_eq, Bool.or_eq_false_iff, Bool.and_eq_true, Bool.not_eq_true, not_and, not_or, Bool.and_eq_false_iff, Int.not_le, Int.not_lt] at *); omega)
             go_ret; exact ⟨by rw [name_out hc hp q]; rfl,_,rfl⟩)
          | (have q : ltr (s[pos]'hp) = true := decide_eq_true (by (try simp only [Bool.not_eq_true', Bool.not_eq_false', bne_eq_false_iff_eq, decide_eq_false_iff_not, bne_iff_ne, ne_eq, Bool.or_eq_true, decide_eq_true_eq, Bool.or_eq_false_iff, Bool.and_eq_true, Bool.not_eq_true, not_and, not_or, Bool.and_eq_false_iff, Int.not_le, Int.not_lt] at *); omega)
             go_roundw
             case rel=>exact ⟨pos+1,rfl,by rw [hc,bytes_at hp,q,Bool.true_and]⟩
             case measure=>simp; omega)
      · have hd:=decode_high s pos hp (by omega)
        have q:ltr (s[pos]'hp)=false:=decide_eq_false (by omega)
        have hnx: ∀ ty,(Instr.next (.pointer (some ⟨w.heap.size,0,none⟩)) true ty).run Try.prog (w.iter s pos)=_:=fun ty=>run_next_any w s pos ty hp
        have h1:=hd.1
        generalize (Utf8.decode s pos).1=c at hnx h1
        go_wp2
        all_goals first
          |(exfalso; clear hnx; simp at*; omega)
          |(go_ret; exact ⟨by rw [name_out hc hp q]; rfl,_,rfl⟩)
    · have hnx: ∀ ty,(Instr.next (.pointer (some ⟨w.heap.size,0,none⟩)) true ty).run Try.prog (w.iter s pos)=_:=fun ty=>run_next_end w s pos ty hp
      have hall:s.data.toList.all ltr=true:=by rw [hc,List.drop_eq_nil_of_le (by simpa using hp)]; rfl
      have hsz:s.data.toList.length=s.size:=by simp
      go_wp2
      all_goals go_ret
      all_goals refine ⟨?_,_,rfl⟩
      all_goals unfold nmB
      all_goals rw [hall,Bool.true_and]
      all_goals first
        |exact congrArg (fun b=>Ending.returned (Value.bool b)) (decide_eq_decide.2 (by rw [hsz]; omega))
        |exact congrArg (fun b=>Ending.returned (Value.bool b)) (decide_eq_false (by rw [hsz]; omega)).symm
theorem name_pure (s:List UInt8) (hl:s.length≤1048576):PureC Try.prog 77 [.str s] (.bool (nmB s)):=fun H=>by
  refine ⟨⟨_,Try.func77,by kernel_rfl,by kernel_rfl⟩,fun x cs hxH hx hr=>?_⟩
  obtain ⟨hlen,hr⟩:=hr
  match cs,hlen with
  | [c1], _ =>
    have h1:=hr 0 _ rfl
    simp only [List.getD_cons_zero] at h1
    cases h1
    refine (name_calls ⟨s.toArray⟩ x.w (show s.toArray.size≤1048576 by simpa using hl)).mono fun e w' h=>?_
    obtain ⟨h1,pos,h2⟩:=h
    obtain ⟨s1,s2⟩:=step_pure hx (.stringIter ⟨s.toArray⟩ pos)
    exact ⟨_,{x with w:=x.w.alloc (.stringIter ⟨s.toArray⟩ pos),Z:=fun b=>x.Z b∨b=x.w.heap.size},h1,h2.symm,hxH,s1,.bool _,s2⟩
def s78:SF:=⟨9,[.tmp 4],.seq (.reg [sO 4 (.mv (.c (.bool false)))]) (.seq (.reg [qM 5 0,qM 6 1,sO 7 (.call false 90 [.t 5,.t 6]),qC 8 .geq 7 0,qM 4 8]) (.ret))⟩
theorem s78_ok:slimF Try.prog ⟨[31,36,37,38,40,41,42,44,45,59,60,61,65,66,67,71,72,73,81,82,84,92,93,98,99,102,104],[],[],[]⟩ Try.f78=some s78:=by kernel_rfl
theorem scon_pure (l:List (List UInt8)) (s:List UInt8):PureC Try.prog 78 [(V.sl (List.map cS (l))),(V.str s)] (V.bool (decide (0≤idxS l s))):=by
 refine pW Try.func78 s78_ok fun hB=>?_
 unfold s78
 dsimp only
 refine W_r (R_mv rfl (R_e (W_r (R_mv rfl (R_mv rfl (R_callk (sidx_pure l s) rfl (R_geq rfl rfl ?_)))))))
 refine R_mv rfl (R_e (W_ret ?_))
 refine Ret_1 (@rfl V (V.bool (decide ((0:Int)≤(idxS l s))))) (fz_bool ?_)
 · rfl
theorem av_pure (l:List (List UInt8)) (hn: ∀ k,k < l.length→(nth l k).length≤100):PureC Try.prog 55 [(V.agg [(V.sl (List.map cS (l)))])] (iV (aval l)):=by
 refine pW Try.func55 s55_ok fun hB=>?_
 unfold s55
 dsimp only
 refine W_r (R_box (i:=1) (n:=0) (m:=1) (cs:=[(V.sl (List.map cS (l)))]) rfl (congrArg Blk.ver rfl) rfl rfl rfl (R_mv rfl (R_e (W_seq_blockg fun Q1 n1 x1 y1 z1=>(W_r (R_fk rfl rfl (R_lk rfl rfl rfl rfl ?_)))))))
 refine R_len rfl (R_eql rfl rfl (R_mv rfl (R_e ?_)))
 refine W_if rfl (fun c2=>?_) fun c2=>?_
 ·
  refine W_r (R_mv rfl (R_e (W_ret (y1 _ _ ?_))))
  refine Ret_1 (@rfl V (iV (19:Int))) (fz_int ?_)
  · unfold aval; rw [if_pos (by omega)]
 refine W_r (R_fk rfl rfl (R_lk rfl rfl rfl rfl (R_len rfl (R_gtr rfl rfl (R_mv rfl (R_e ?_))))))
 refine W_if rfl (fun c3=>?_) fun c3=>?_
 ·
  refine W_r (R_mv rfl (R_e (W_ret (y1 _ _ ?_))))
  refine Ret_1 (@rfl V (iV (3:Int))) (fz_int ?_)
  · unfold aval; rw [if_neg (by omega),if_pos (by omega)]
 refine W_skip (n1 _ _ (.done (W_seq_seq (W_r (R_fk rfl rfl (R_lk rfl rfl rfl rfl (R_len rfl ?_)))))))
 refine R_mv rfl (R_e (W_seq_blockg fun Q4 n4 x4 y4 z4=>?_))
 refine W_loop (fun mm T H=> ∃ (k:Nat),mm=l.length - k∧T 1=(V.mp 1 1 0 0)∧T 16=(V.sl (List.map cS (l)))∧T 17=(iV ((l.length:Nat):Int))∧T 18=(iV ((k:Nat):Int))∧H 1=(bk 1 37 1 [[(V.sl (List.map cS (l)))]])∧(k≤l.length)∧(aval l=fe (avE l) k (l.length - k))) ?_ ?_
 ·
  refine ⟨_,0,rfl,rfl,rfl,rfl,(Eq.trans (@rfl V (iV (0:Int))) rfl),rfl,?_,?_⟩
  · omega
  · unfold aval; rw [if_neg (by omega),if_neg (by omega)]; rfl
 intro mm T H ⟨k,hmm,t1,t16,t17,t18,h1,hk,hc⟩ Q5 p15 p25 p35
 unfold b55_0
 refine W_r (R_lss t18 t17 (R_e ?_))
 refine W_seq_if rfl (fun c6=>?_) fun c6=>?_
 ·
  refine W_seq_skip (W_seq_blockg fun Q7 n7 x7 y7 z7=>(W_r (R_mv t18 (R_idx (i:=k) t16 t18 (by omega) rfl (R_load_pp rfl rfl (R_mv rfl (R_mv rfl ?_)))))))
  refine R_e (W_seq_seq (W_r (R_mv rfl (R_callk (name_pure ((nth (l) (k))) (Nat.le_trans (hn k (by omega)) (by decide))) rfl (R_notb rfl (R_e ?_))))))
  refine W_seq_ifb rfl (fun c8=>?_) (fun c8=>?_)
  ·
   have d1:nmB (nth l k)=false:=by simpa using c8
   refine W_seq_seq (W_r (R_mv rfl (R_e (W_seq_ret (y7 _ _ (p25 _ _ (y4 _ _ ?_)))))))
   refine Ret_1 (@rfl V (iV (9:Int))) (fz_int ?_)
   · rw [hc,fe_hit (by unfold avE; rw [if_pos d1]; decide) (by omega)]; unfold avE; rw [if_pos d1]
  have d1:nmB (nth l k)=true:=by simpa using c8
  refine W_seq_skip (W_r (R_fk t1 h1 (R_lk rfl h1 rfl rfl (R_mv rfl (R_slice_hi (n:=k) (@rfl V (V.sl (List.map cS (l)))) (@rfl V (iV ((k:Nat):Int))) (by omega) (fun _=>rfl) (R_mv rfl (R_callk (scon_pure (List.take (k) (l)) ((nth (l) (k)))) rfl ?_)))))))
  refine R_e ?_
  refine W_ifb rfl (fun c9=>?_) (fun c9=>?_)
  ·
   have d2:dupB l k=true:=by rw [← dup_take (by omega)]; exact c9
   refine W_r (R_mv rfl (R_e (W_ret (y7 _ _ (p25 _ _ (y4 _ _ ?_))))))
   refine Ret_1 (@rfl V (iV (7:Int))) (fz_int ?_)
   · rw [hc,fe_hit (by unfold avE; rw [if_neg (by simp [d1]),if_pos d2]; decide) (by omega)]; unfold avE; rw [if_neg (by simp [d1]),if_pos d2]
  have d2:dupB l k=false:=by rw [← dup_take (by omega)]; simpa using c9
  refine W_skip (n7 _ _ (.done (W_t (R_addN t18 (@rfl V (iV ((1:Nat):Int))) (by omega) (R_mv rfl (R_e ?_))))))
  refine p15 _ _ _ ?_ ⟨(k+1),rfl,t1,t16,t17,(Eq.trans (@rfl V (iV ((k+1:Nat):Int))) (by rfl)),h1,?_,?_⟩
  · omega
  · omega
  · rw [hc,fe_skip (by unfold avE; rw [if_neg (by simp [d1]),if_neg (by simp [d2])]) (by omega)]
 refine W_seq_exit (p35 _ _ _ (x4 _ _ (.done (W_r (R_mv rfl (R_e (W_ret ?_)))))))
 refine Ret_1 (@rfl V (iV (0:Int))) (fz_int ?_)
 · rw [hc,fe_end (by omega)]
theorem names_pure (l m:List (List UInt8)) (hn: ∀ k,k < l.length→(nth l k).length≤100) (hm: ∀ k,k < m.length→(nth m k).length≤100):PureC Try.prog 34 [(V.agg [(V.sl (List.map cS (l)))]),(V.agg [(V.sl (List.map cS (m)))])] (iV (avs l m)):=by
 refine pW Try.func34 s34_ok fun hB=>?_
 unfold s34
 dsimp only
 refine W_r (R_box (i:=2) (n:=0) (m:=1) (cs:=[(V.sl (List.map cS (l)))]) rfl (congrArg Blk.ver rfl) rfl rfl rfl (R_box (i:=3) (n:=0) (m:=1) (cs:=[(V.sl (List.map cS (m)))]) rfl (congrArg Blk.ver rfl) rfl rfl rfl (R_mv rfl (R_e (W_seq_seq (W_r (R_lk rfl rfl rfl rfl ?_)))))))
 refine R_callk (av_pure l hn) rfl (R_mv rfl (R_e (W_seq_seq (W_r (R_mv rfl (R_neq rfl rfl (R_e ?_)))))))
 refine W_seq_if rfl (fun c1=>?_) fun c1=>?_
 ·
  refine W_seq_seq (W_r (R_mv rfl (R_mv rfl (R_e (W_seq_ret ?_)))))
  refine Ret_1 (@rfl V (iV (aval l))) (fz_int ?_)
  · unfold avs; rw [if_pos (by omega)]
 refine W_seq_skip (W_r (R_lk rfl rfl rfl rfl (R_callk (av_pure m hm) rfl (R_mv rfl (R_e (W_ret ?_))))))
 refine Ret_1 (@rfl V (iV (aval m))) (fz_int ?_)
 · unfold avs; rw [if_neg (by omega)]
theorem pF_loc (v:Nat) (e:PE): ∀ k:Nat,k≤4294967296→
    (∀ (s:PS) (r:PR Fm),OkS e s→pF e k .form s=some r→LocC Try.prog 37 1 [.mp 0 v 0 0] (hpB (bk v 79 6 [pCells e s])) (r.out 79 75 v e fmV))∧
    (∀ (s:PS) (r:PR Fm),OkS e s→pF e k .conj s=some r→LocC Try.prog 60 1 [.mp 0 v 0 0] (hpB (bk v 79 6 [pCells e s])) (r.out 79 75 v e fmV))∧
    (∀ (s:PS) (r:PR Fm),OkS e s→pF e k .bin s=some r→LocC Try.prog 81 1 [.mp 0 v 0 0] (hpB (bk v 79 6 [pCells e s])) (r.out 79 75 v e fmV))∧
    (∀ (s:PS) (r:PR Fm),OkS e s→pF e k .un s=some r→LocC Try.prog 92 1 [.mp 0 v 0 0] (hpB (bk v 79 6 [pCells e s])) (r.out 79 75 v e fmV))
  | 0, _ => by
    refine ⟨?_,?_,?_,?_⟩ <;> (intro s r _ h; cases h)
  | k + 1, hk => by
    obtain ⟨a,b,c,d⟩:=pF_loc v e k (by omega)
    exact ⟨fun s r hs h=>pform_step v e s hs k (by omega) b a r h,fun s r hs h=>pconj_step v e s hs k (by omega) c r h,
      fun s r hs h=>pbin_step v e s hs k (by omega) d c r h,fun s r hs h=>pun_step v e s hs k (by omega) d a r h⟩
noncomputable def rg35:Nat→Array Oper
  | 0 => match Try.f35.body with
    |some (.seq (.region _ o _) _)=>o
    |_=>#[]
  | _ => match Try.f35.body with
    |some (.seq _ (.seq (.region _ o _) _))=>o
    |_=>#[]
noncomputable def tl35:Code:=match Try.f35.body with
  |some (.seq _ (.seq _ (.cond _ a _)))=>a
  |_=>.skip
noncomputable def op35 (r k : Nat) : Oper := (rg35 r).getD k ⟨none, .assign (.const .nilIface), 0, "", #[], none⟩
theorem b35:Try.f35.body=some (.seq (.region 0 #[op35 0 0,op35 0 1] false) (.seq (.region 1 #[op35 1 0,op35 1 1] false) (.cond (.tmp 8) tl35 .skip))):=by kernel_rfl
def s35t : SC := .seq (.reg [qM 10 3, sO 11 (.tas 75 (.t 10)), qM 9 11, qE 12 9 0, qE 13 9 1, sO 4 (.alloc 75 [.int .i64 0, .int .i64 0]), sN (.store 2 (.t 4) (.t 12)), qM 5 13])
  (.seq (.seq (.reg [qM 14 5,sO 15 (.un .not (.t 14))]) (.cond (.t 15) (.seq (.reg [qM 16 3]) (.seq (.pop none (.raise (.t 16))) (.reg []))) (.skip)))
    (.reg [sO 17 (.build [.int .i64 0,.int .i64 0,.nilsl] []),qF 18 0 4,sO 19 (.ldp false 1 (.t 18)),qF 20 1 4,sO 21 (.ldp false 1 (.t 20)),sN (.store 3 (.t 0) (.t 17)),sN (.store 1 (.t 1) (.t 19)),sN (.store 1 (.t 2) (.t 21))]))
theorem s35t_ok:slim Try.prog ⟨[],[19,21],[],[]⟩ 22 tl35=some s35t:=by kernel_rfl
theorem u20:Try.prog.underlying 20=some (.interface #[]):=by kernel_rfl
theorem r35 (tmps:Array Value) (w:World):(results Try.f35 tmps).run Try.prog w=.ok (.tuple #[]) w:=by
  have:Try.f35.results=#[]:=by kernel_rfl
  simp [results,this]
theorem n35:Try.f35.ntmps=22:=by kernel_rfl
theorem idle35 (a b c:Value) (w:World):CallsD Try.prog 35 #[a,b,c] .returning w fun e u' w'=>e=.returned (.tuple #[])∧u'=.returning∧w'=w:=by
  refine callsD_of_wpS Try.func35 b35 fun c₀ cs hu=>?_
  refine wpS_seq (wpS_recover (t1:=6) (t2:=3) (v:=.nilIface) (cs':=c₀::cs) (by kernel_rfl) (by kernel_rfl) (by kernel_rfl) (by kernel_rfl) (by kernel_rfl) (by kernel_rfl) (by simp [n35]) (.inr ⟨by simp [recoverD,hu],rfl,rfl⟩) ?_)
  refine wpS_seq (wpS_of_wp (wp_nnil (t1:=3) (t2:=7) (t3:=8) (v:=.nilIface) (b:=false) u20 (by kernel_rfl) (by kernel_rfl) (by kernel_rfl) (by kernel_rfl) (by kernel_rfl) (by kernel_rfl) (by simp [n35,Act.put]) (eval_put (by simp [n35,Act.put])) (.inr ⟨rfl,rfl⟩) ?_))
  refine wpS_cond (t:=false) (eval_put (by simp [n35,Act.put])) ?_
  rw [if_neg (by simp)]
  refine wpS_of_wp (wp_skip ?_)
  refine ⟨rfl,.returning,?_,_,r35 _ _,rfl,rfl,rfl⟩
  cases c₀; simp at hu; simp [hu]
theorem catchW {H:Heap} {T:Nat→V} {a:Nat} {x:Int} {u1 u2 u3 u4 u5:V} (t0:T 0=.mp 6 1 0 0) (t1:T 1=.mp 7 1 0 0) (t2:T 2=.mp 8 1 0 0) (t3:T 3=.raw (failC 75 a x))
    (h6:H 6=bk 1 24 3 [[u1,u2,u3]]) (h7:H 7=bk 1 3 1 [[u4]]) (h8:H 8=bk 1 27 1 [[u5]]):
    W Try.prog 1000 s35t (fun e _ H'=>e=.norm∧H' 6=bk 1 24 3 [[iV 0,iV 0,.nilsl]]∧H' 7=bk 1 3 1 [[iV a]]∧H' 8=bk 1 27 1 [[iV x]]) T H:=by
  unfold s35t
  generalize hm:(H 1004).ver=m
  refine W_r (R_mv t3 (R_tas (v:=.tup [.agg [iV a,iV x],.bool true]) rfl rfl (R_mv rfl (R_ext rfl rfl (R_ext rfl rfl (R_alloc (i:=1004) rfl hm rfl (R_sk (id:=1004) (v:=.agg [iV a,iV x]) (B':=bk (m+1) 75 2 [[iV a,iV x]]) rfl rfl rfl rfl rfl rfl rfl rfl rfl (R_mv rfl (R_e ?_)))))))))
  refine W_seq_seq (W_r (R_mv rfl (R_notb rfl (R_e (W_seq_cond (bb:=false) rfl (by intro h; cases h) fun _=>?_)))))
  refine .freezeP 1004 4 (m+1) 0 0 [iV a,iV x] rfl rfl rfl rfl (.done ?_)
  refine W_t (R_build rfl rfl (R_fld_pp (cs:=[iV a,iV x]) rfl rfl (R_ldp rfl rfl (R_fld_pp (cs:=[iV a,iV x]) rfl rfl (R_ldp rfl rfl ?_)))))
  refine R_sk (id:=6) (v:=.agg [iV 0,iV 0,.nilsl]) (B':=bk 1 24 3 [[iV 0,iV 0,.nilsl]]) t0 rfl rfl h6 rfl rfl rfl rfl rfl ?_
  refine R_sk (id:=7) (v:=iV a) (B':=bk 1 3 1 [[iV a]]) t1 rfl rfl h7 rfl rfl rfl rfl rfl ?_
  refine R_sk (id:=8) (v:=iV x) (B':=bk 1 27 1 [[iV x]]) t2 rfl rfl h8 rfl rfl rfl rfl rfl ?_
  exact R_e ⟨rfl,rfl,rfl,rfl⟩
theorem catch35 {x:Cx} (hx:Inv x) {p6 p7 p8:Value} {a:Nat} {e:Int} {u1 u2 u3 u4 u5:V} (r6:R x (.mp 6 1 0 0) p6) (r7:R x (.mp 7 1 0 0) p7) (r8:R x (.mp 8 1 0 0) p8)
    (h6:x.H 6=bk 1 24 3 [[u1,u2,u3]]) (h7:x.H 7=bk 1 3 1 [[u4]]) (h8:x.H 8=bk 1 27 1 [[u5]]):
    CallsD Try.prog 35 #[p6,p7,p8] (.panicking [⟨failC 75 a e,false,false⟩]) x.w fun en u' w'=>en=.returned (.tuple #[])∧u'=.panicking [⟨failC 75 a e,true,false⟩]∧
      ∃ y:Cx,y.w=w'∧Inv y∧Frame x y∧y.H 6=bk 1 24 3 [[iV 0,iV 0,.nilsl]]∧y.H 7=bk 1 3 1 [[iV a]]∧y.H 8=bk 1 27 1 [[iV e]]:=by
  refine callsD_of_wpS Try.func35 b35 fun c₀ cs hu=>?_
  rw [n35]
  refine wpS_seq (wpS_recover (t1:=6) (t2:=3) (v:=failC 75 a e) (cs':={c₀ with mode:=.panicking [⟨failC 75 a e,true,false⟩]}::cs) (by kernel_rfl) (by kernel_rfl) (by kernel_rfl) (by kernel_rfl) (by kernel_rfl) (by kernel_rfl) (by simp) (.inl (by simp [recoverD,hu])) ?_)
  refine wpS_seq (wpS_of_wp (wp_nnil (t1:=3) (t2:=7) (t3:=8) (v:=failC 75 a e) (b:=true) u20 (by kernel_rfl) (by kernel_rfl) (by kernel_rfl) (by kernel_rfl) (by kernel_rfl) (by kernel_rfl) (by simp [Act.put]) (eval_put (by simp [Act.put])) (.inl ⟨_,_,rfl,rfl⟩) ?_))
  refine wpS_cond (t:=true) (eval_put (by simp [Act.put])) ?_
  rw [if_pos rfl]
  have hr:RL x [.mp 6 1 0 0,.mp 7 1 0 0,.mp 8 1 0 0] [p6,p7,p8]:=⟨rfl,fun j v hj=>by
    match j,hj with
    |0,hj=>cases hj; exact r6
    |1,hj=>cases hj; exact r7
    |2,hj=>cases hj; exact r8
    |n+3,hj=>simp at hj⟩
  have hT:=TRel_start (n:=22) hr (by simp)
  have hf:R x (.raw (failC 75 a e)) (failC 75 a e):=.raw _ rfl
  have hT2:=(((hT.put (d:=some 6) (fun _ h=>by cases h; omega) hf).put (d:=some 3) (fun _ h=>by cases h; omega) hf).put (d:=some 7) (fun _ h=>by cases h; omega) hf).put (d:=some 8) (fun _ h=>by cases h; omega) (.bool true)
  have hW:=catchW (H:=x.H) (T:=putT (putT (putT (putT (T0 [.mp 6 1 0 0,.mp 7 1 0 0,.mp 8 1 0 0]) (some 6) (.raw (failC 75 a e))) (some 3) (.raw (failC 75 a e))) (some 7) (.raw (failC 75 a e))) (some 8) (.bool true)) (a:=a) (x:=e) rfl rfl rfl rfl h6 h7 h8
  refine wpS_of_wp (wp_mono (W_sound tl35 s35t s35t_ok _ x x _ _ hW hx hT2 (Frame.refl x)) ?_)
  intro e' a' w' hp
  obtain ⟨e2,T',y,he,hw,⟨rfl,g6,g7,g8⟩,hy,hT',hF'⟩:=hp
  cases e' with
  |normal=>exact ⟨hT'.defers,_,rfl,_,r35 _ _,rfl,rfl,y,hw,hy,hF',g6,g7,g8⟩
  |panic l=>obtain ⟨c,h⟩:=exOf_panic he; cases h
  |_=>cases he
structure End19 (r:Fm×Int×Int) (T:Nat→V) (H:Heap):Prop where
  t6:T 6=.mp 6 1 0 0
  t7:T 7=.mp 7 1 0 0
  t8:T 8=.mp 8 1 0 0
  h6: ∃ kv,H 6=bk 1 24 3 [[iV r.1.op,iV r.1.arg,kv]]∧(kv=.sl (r.1.kids.map cF)∨kv=.nilsl∧r.1.kids=[])
  h7:H 7=bk 1 3 1 [[iV r.2.1]]
  h8:H 8=bk 1 27 1 [[iV r.2.2]]
theorem End19.res {r:Fm×Int×Int} {T:Nat→V} {H:Heap} (h:End19 r T H): ∃ u,resT [.cell 6 true 3,.cell 7 false 1,.cell 8 false 1] T H=some u∧fzv true H 6 u=.tup [fmV r.1,iV r.2.1,iV r.2.2]:=by
  obtain ⟨t6,t7,t8,⟨kv,h6,hk⟩,h7,h8⟩:=h
  have e7:resV T H (.cell 7 false 1)=some (iV r.2.1):=resV_c t7 h7 (lB oB rfl rfl)
  have e8:resV T H (.cell 8 false 1)=some (iV r.2.2):=resV_c t8 h8 (lB oB rfl rfl)
  rcases hk with rfl|⟨rfl,h0⟩
  · have e6:resV T H (.cell 6 true 3)=some (.agg [iV r.1.op,iV r.1.arg,.sl (r.1.kids.map cF)]):=resV_c t6 h6 (lB oB rfl rfl)
    exact ⟨.tup [.agg [iV r.1.op,iV r.1.arg,.sl (r.1.kids.map cF)],iV r.2.1,iV r.2.2],by simp only [resT,mapO,e6,e7,e8],by simp⟩
  · have e6:resV T H (.cell 6 true 3)=some (.agg [iV r.1.op,iV r.1.arg,.nilsl]):=resV_c t6 h6 (lB oB rfl rfl)
    exact ⟨.tup [.agg [iV r.1.op,iV r.1.arg,.nilsl],iV r.2.1,iV r.2.2],by simp only [resT,mapO,e6,e7,e8],by simp [fzv,h0]⟩
abbrev z24:List V:=[.int .i64 0,.int .i64 0,.nilsl]
abbrev sP0:SC:=.reg [sO 3 (.box 37 1 (.t 0)),sO 4 (.box 37 1 (.t 1)),sO 6 (.alloc 24 z24),sO 7 (.alloc 3 [.int .i64 0]),sO 8 (.alloc 27 [.int .i64 0])]
abbrev sP1:SC:=.seq (.reg [qL 12 1 3,qL 13 1 4,sO 14 (.call false 34 [.t 12,.t 13]),qM 9 14]) (.seq (.reg [qM 15 9,qC 16 .neq 15 0]) (.cond (.t 16) (.seq (.reg [sO 17 (.build z24 []),qM 18 9,sN (.store 3 (.t 6) (.t 17)),sN (.store 1 (.t 7) (.c (.int .i64 0))),sN (.store 1 (.t 8) (.t 18))]) (.ret)) (.skip)))
abbrev sP2:SC:=.seq (.reg [qM 19 2,sO 20 (.slen (.t 19)),qC 21 .gtr 20 1048576]) (.cond (.t 21) (.seq (.reg [sO 22 (.build z24 []),sN (.store 3 (.t 6) (.t 22)),sN (.store 1 (.t 7) (.c (.int .i64 0))),sN (.store 1 (.t 8) (.c (.int .i64 3)))]) (.ret)) (.skip))
def sPre:SC:=.seq sP0 (.seq sP1 (.seq sP2 .skip))
def QPre (ia oa:List (List UInt8)) (src:List UInt8):Ex→(Nat→V)→Heap→Prop
  | .norm,T,H=> ¬avs ia oa≠0∧ ¬1048576 < src.length∧T 2=.str src∧T 3=.mp 3 1 0 0∧T 4=.mp 4 1 0 0∧H 3=bk 1 37 1 [[.sl (ia.map cS)]]∧H 4=bk 1 37 1 [[.sl (oa.map cS)]]∧End19 (.nd 0 0 [],0,0) T H
  | .ret,T,H=>End19 (prs ia oa src) T H
  |_,_,_=>False
theorem pre19 (ia oa:List (List UInt8)) (src:List UInt8) (hn: ∀ k,k < ia.length→(nth ia k).length≤100) (hm: ∀ k,k < oa.length→(nth oa k).length≤100):
    W Try.prog 0 sPre (QPre ia oa src) (T0 [.agg [.sl (ia.map cS)],.agg [.sl (oa.map cS)],.str src]) H0:=by
  unfold sPre
  refine W_r (R_box (i:=3) rfl rfl rfl rfl rfl (R_box (i:=4) rfl rfl rfl rfl rfl (R_alloc (i:=6) rfl rfl rfl (R_alloc (i:=7) rfl rfl rfl (R_alloc (i:=8) rfl rfl rfl (R_e ?_))))))
  refine W_seq_seq (W_r (R_lk (v:=.agg [.sl (ia.map cS)]) rfl rfl rfl rfl (R_lk (v:=.agg [.sl (oa.map cS)]) rfl rfl rfl rfl (R_callk (names_pure ia oa hn hm) rfl (R_mv rfl (R_e ?_))))))
  refine W_seq_seq (W_r (R_mv rfl (R_neq rfl rfl (R_e (W_seq_cond (bb:=decide (avs ia oa≠0)) rfl ?_ ?_)))))
  · intro h
    have h:=of_decide_eq_true h
    refine W_seq_seq (W_r (R_build rfl rfl (R_mv rfl ?_)))
    refine R_sk (id:=6) (v:=.agg [iV 0,iV 0,.nilsl]) (B':=bk 1 24 3 [[iV 0,iV 0,.nilsl]]) rfl rfl rfl rfl rfl rfl rfl rfl rfl ?_
    refine R_sk (id:=7) (v:=iV 0) (B':=bk 1 3 1 [[iV 0]]) rfl rfl rfl rfl rfl rfl rfl rfl rfl ?_
    refine R_sk (id:=8) (v:=iV (avs ia oa)) (B':=bk 1 27 1 [[iV (avs ia oa)]]) rfl rfl rfl rfl rfl rfl rfl rfl rfl (R_e (W_seq_ret ?_))
    show End19 (prs ia oa src) _ _
    rw [prs,if_pos h]
    exact ⟨rfl,rfl,rfl,⟨.nilsl,rfl,.inr ⟨rfl,rfl⟩⟩,rfl,rfl⟩
  · intro h
    have h:=of_decide_eq_false h
    refine W_seq_skip (W_seq_seq (W_r (R_mv rfl (R_slen (s:=src) rfl (R_gtr rfl rfl (R_e (W_seq_cond (bb:=decide ((1048576:Int) < (src.length:Nat))) rfl ?_ ?_)))))))
    · intro h2
      have h2:1048576 < src.length:=by have:=of_decide_eq_true h2; omega
      refine W_seq_seq (W_r (R_build rfl rfl ?_))
      refine R_sk (id:=6) (v:=.agg [iV 0,iV 0,.nilsl]) (B':=bk 1 24 3 [[iV 0,iV 0,.nilsl]]) rfl rfl rfl rfl rfl rfl rfl rfl rfl ?_
      refine R_sk (id:=7) (v:=iV 0) (B':=bk 1 3 1 [[iV 0]]) rfl rfl rfl rfl rfl rfl rfl rfl rfl ?_
      refine R_sk (id:=8) (v:=iV 3) (B':=bk 1 27 1 [[iV 3]]) rfl rfl rfl rfl rfl rfl rfl rfl rfl (R_e (W_seq_ret ?_))
      show End19 (prs ia oa src) _ _
      rw [prs,if_neg h,if_pos h2]
      exact ⟨rfl,rfl,rfl,⟨.nilsl,rfl,.inr ⟨rfl,rfl⟩⟩,rfl,rfl⟩
    · intro h2
      have h2: ¬1048576 < src.length:=by have:=of_decide_eq_false h2; omega
      refine W_seq_skip (W_skip ?_)
      exact ⟨h,h2,rfl,rfl,rfl,rfl,rfl,rfl,rfl,rfl,⟨.nilsl,rfl,.inr ⟨rfl,rfl⟩⟩,rfl,rfl⟩
theorem pop_panH {P:Program} {k0 f i:Nat} {Q:Ex→(Nat→V)→Heap→Prop} {T:Nat→V} {H:Heap} {d:Option Nat} {r:SC} {us us':List V} {args:List SX} {b b1:Blk} {c:Value} (hc:LocC P f 1 us (hpB b) (.pan c)) (he:evs T args=us') (ha:us.map (ren fun _=>i)=us') (hb:H i=b1) (h1:b1=renB (fun _=>i) b)
    (h: ∀ H',(∀ j,j≠i→H' j=H j)→Q (.pan c) T H'):W P k0 (.seq (.pop d (.call f args)) r) Q T H:=by
  subst he
  exact ⟨.pan c [i],hc.usep ha hb h1,fun H' hH=>h H' fun j hj=>hH j (by simpa using hj)⟩
abbrev sR1:SC:=.reg [qL 24 1 3,qL 25 1 4,qM 26 2,sO 27 (.build [.nilsl,.nilsl,.str [],.int .i64 0,.str [],.int .i64 0] [(0,1,.t 24),(1,1,.t 25),(2,1,.t 26)]),sO 28 (.box 79 6 (.t 27)),qM 10 28]
abbrev sR2:SC:=.seq (.reg [qM 29 10]) (.seq (.pop (some 30) (.call 36 [.t 29])) (.reg []))
abbrev sR3:SC:=.seq (.reg [qM 31 10]) (.seq (.pop (some 32) (.call 37 [.t 31])) (.reg [sN (.store 3 (.t 6) (.t 32))]))
abbrev sR4:SC:=.seq (.reg [qM 33 10,sO 34 (.nilck (.t 33)),qF 35 4 34,ql 36 35,sO 37 (.sbin .neq (.t 36) (.c (.str [])))]) (.cond (.t 37) (.seq (.reg [qM 38 10]) (.seq (.pop (some 39) (.call 38 [.t 38,.c (.int .i64 5)])) (.reg []))) (.skip))
abbrev sR5:SC:=.seq (.seq (.reg [qL 40 3 6,sO 41 (.call false 14 [.t 40]),qM 11 41]) (.seq (.reg [qM 42 11,qC 43 .neq 42 0]) (.cond (.t 43) (.seq (.reg [sO 44 (.build z24 []),qM 45 2,sO 46 (.slen (.t 45)),qM 47 11,sN (.store 3 (.t 6) (.t 44)),sN (.store 1 (.t 7) (.t 46)),sN (.store 1 (.t 8) (.t 47))]) (.ret)) (.skip))))
  (.seq (.reg [qL 48 3 6,sN (.store 3 (.t 6) (.t 48)),sN (.store 1 (.t 7) (.c (.int .i64 0))),sN (.store 1 (.t 8) (.c (.int .i64 0)))]) (.ret))
def sRest:SC:=.seq sR1 (.seq sR2 (.seq sR3 (.seq sR4 sR5)))
def QR (r:Fm×Int×Int):Ex→(Nat→V)→Heap→Prop
  | .ret,T,H=>End19 r T H
  | .pan c,T,H=> ∃ (a:Nat) (x:Int),c=failC 75 a x∧r=(.nd 0 0 [],(a:Int),x)∧T 6=.mp 6 1 0 0∧T 7=.mp 7 1 0 0∧T 8=.mp 8 1 0 0∧
      ∃ u1 u2 u3 u4 u5,H 6=bk 1 24 3 [[u1,u2,u3]]∧H 7=bk 1 3 1 [[u4]]∧H 8=bk 1 27 1 [[u5]]
  |_,_,_=>False
theorem rest5 (e:PE) (f:Fm) (r:Fm×Int×Int) (hr:r=if fval f≠0 then (.nd 0 0 [],((e.src.length:Nat):Int),fval f) else (f,0,0)) {T:Nat→V} {H:Heap} (t2:T 2=.str e.src) (t6:T 6=.mp 6 1 0 0) (t7:T 7=.mp 7 1 0 0) (t8:T 8=.mp 8 1 0 0)
    (h6:H 6=bk 1 24 3 [[iV f.op,iV f.arg,.sl (f.kids.map cF)]]) (h7:H 7=bk 1 3 1 [[iV 0]]) (h8:H 8=bk 1 27 1 [[iV 0]]):W Try.prog 0 sR5 (QR r) T H:=by
  refine W_seq_seq (W_r (R_lk (v:=fmV f) t6 h6 rfl rfl (R_callk (fvalid_pure f) rfl (R_mv rfl (R_e (W_seq_seq (W_r (R_mv rfl (R_neq rfl rfl (R_e (W_seq_cond (bb:=decide (fval f≠0)) rfl ?_ ?_)))))))))))
  · intro h
    have h:=of_decide_eq_true h
    refine W_seq_seq (W_r (R_build rfl rfl (R_mv t2 (R_slen rfl (R_mv rfl ?_)))))
    refine R_sk (id:=6) (v:=.agg [iV 0,iV 0,.nilsl]) (B':=bk 1 24 3 [[iV 0,iV 0,.nilsl]]) t6 rfl rfl h6 rfl rfl rfl rfl rfl ?_
    refine R_sk (id:=7) (v:=iV (e.src.length:Nat)) (B':=bk 1 3 1 [[iV (e.src.length:Nat)]]) t7 rfl rfl h7 rfl rfl rfl rfl rfl ?_
    refine R_sk (id:=8) (v:=iV (fval f)) (B':=bk 1 27 1 [[iV (fval f)]]) t8 rfl rfl h8 rfl rfl rfl rfl rfl (R_e (W_seq_ret ?_))
    show End19 r _ _
    rw [hr,if_pos h]
    exact ⟨t6,t7,t8,⟨.nilsl,rfl,.inr ⟨rfl,rfl⟩⟩,rfl,rfl⟩
  · intro h
    have h:=of_decide_eq_false h
    refine W_seq_skip (W_r (R_lk (v:=fmV f) t6 h6 rfl rfl ?_))
    refine R_sk (id:=6) (v:=fmV f) (B':=bk 1 24 3 [[iV f.op,iV f.arg,.sl (f.kids.map cF)]]) t6 rfl rfl h6 rfl rfl rfl rfl rfl ?_
    refine R_sk (id:=7) (v:=iV 0) (B':=bk 1 3 1 [[iV 0]]) t7 rfl rfl h7 rfl rfl rfl rfl rfl ?_
    refine R_sk (id:=8) (v:=iV 0) (B':=bk 1 27 1 [[iV 0]]) t8 rfl rfl h8 rfl rfl rfl rfl rfl (R_e (W_ret ?_))
    show End19 r _ _
    rw [hr,if_neg h]
    exact ⟨t6,t7,t8,⟨_,rfl,.inl rfl⟩,rfl,rfl⟩
theorem rest4 (e:PE) (v:Nat) (s:PS) (f:Fm) (r:Fm×Int×Int) (hr:r=if s.wd≠[] then (.nd 0 0 [],(s.pos:Int),5) else if fval f≠0 then (.nd 0 0 [],((e.src.length:Nat):Int),fval f) else (f,0,0)) {T:Nat→V} {H:Heap}
    (t2:T 2=.str e.src) (t6:T 6=.mp 6 1 0 0) (t7:T 7=.mp 7 1 0 0) (t8:T 8=.mp 8 1 0 0) (t10:T 10=.mp 28 v 0 0) (h28:H 28=bk v 79 6 [pCells e s])
    (h6:H 6=bk 1 24 3 [[iV f.op,iV f.arg,.sl (f.kids.map cF)]]) (h7:H 7=bk 1 3 1 [[iV 0]]) (h8:H 8=bk 1 27 1 [[iV 0]]):W Try.prog 0 (.seq sR4 sR5) (QR r) T H:=by
  refine W_seq_seq (W_r (R_mv t10 (R_nilck_mp rfl h28 oB (R_fk rfl h28 (R_lk (v:=.str s.wd) rfl h28 rfl rfl (R_sneq rfl rfl (R_e (W_seq_cond (bb:=decide (¬s.wd=[])) rfl ?_ ?_))))))))
  · intro h
    have h:=of_decide_eq_true h
    refine W_seq_seq (W_r (R_mv t10 (R_e (W_seq_seq (pop_panH (i:=28) (pfail_loc v e s 5) (evcons rfl (evcons rfl evnil)) rfl h28 rfl fun H' hH=>?_)))))
    rw [if_pos h] at hr
    exact ⟨s.pos,5,rfl,hr,t6,t7,t8,_,_,_,_,_,(hH 6 (by omega)).trans h6,(hH 7 (by omega)).trans h7,(hH 8 (by omega)).trans h8⟩
  · intro h
    have h:=of_decide_eq_false h
    rw [if_neg h] at hr
    exact W_seq_skip (rest5 e f r hr t2 t6 t7 t8 h6 h7 h8)
theorem rest19 (e:PE) (hl:e.src.length≤1048576) {T:Nat→V} {H:Heap} (t2:T 2=.str e.src) (t3:T 3=.mp 3 1 0 0) (t4:T 4=.mp 4 1 0 0) (h3:H 3=bk 1 37 1 [[.sl (e.ia.map cS)]]) (h4:H 4=bk 1 37 1 [[.sl (e.oa.map cS)]]) (hE:End19 (.nd 0 0 [],0,0) T H):
    W Try.prog 0 sRest (QR (prsE e)) T H:=by
  obtain ⟨t6,t7,t8,⟨kv,h6,_⟩,h7,h8⟩:=hE
  unfold sRest
  generalize hv:(H 28).ver=m
  have hs0:OkS e ⟨0,[],0⟩:=⟨hl,by simp,by simp⟩
  refine W_r (R_lk (v:=.agg [.sl (e.ia.map cS)]) t3 h3 rfl rfl (R_lk (v:=.agg [.sl (e.oa.map cS)]) t4 h4 rfl rfl (R_mv t2 (R_build rfl rfl (R_box (i:=28) rfl hv rfl rfl rfl (R_mv rfl (R_e ?_)))))))
  refine W_seq_seq (W_r (R_mv rfl (R_e (W_seq_seq ?_))))
  rcases hx:pNext e ⟨0,[],0⟩ with ⟨u,s1⟩|⟨a,x⟩
  · obtain ⟨k1,_,_⟩:=pNext_inv hs0 hx
    refine pop_ok (i:=28) (by have q:=pnext_loc (m+1) e ⟨0,[],0⟩ hs0; rw [hx] at q; exact q) (evcons (@rfl V (.mp 28 (m+1) 0 0)) evnil) rfl rfl rfl rfl ?_
    refine W_reg0 (W_seq_seq (W_r (R_mv rfl (R_e (W_seq_seq ?_)))))
    obtain ⟨r,hF⟩:=pF_all k1
    have hloc:=(pF_loc (m+1) e (fuE e) (by unfold fuE; omega)).1 s1 r k1 hF
    rcases r with ⟨f,s2⟩|⟨a,x⟩
    · refine pop_ok (i:=28) hloc (evcons (@rfl V (.mp 28 (m+1) 0 0)) evnil) rfl rfl rfl rfl ?_
      refine W_r (R_sk (id:=6) (v:=fmV f) (B':=bk 1 24 3 [[iV f.op,iV f.arg,.sl (f.kids.map cF)]]) t6 rfl rfl h6 rfl rfl rfl rfl rfl (R_e ?_))
      exact rest4 e (m+1) s2 f _ (by rw [prsE,hx]; simp only [hF]) t2 t6 t7 t8 rfl rfl rfl h7 h8
    · refine pop_panH (i:=28) hloc (evcons (@rfl V (.mp 28 (m+1) 0 0)) evnil) rfl rfl rfl fun H' hH=>?_
      exact ⟨a,x,rfl,by rw [prsE,hx]; simp only [hF],t6,t7,t8,_,_,_,_,_,(hH 6 (by omega)).trans h6,(hH 7 (by omega)).trans h7,(hH 8 (by omega)).trans h8⟩
  · refine pop_panH (i:=28) (by have q:=pnext_loc (m+1) e ⟨0,[],0⟩ hs0; rw [hx] at q; exact q) (evcons (@rfl V (.mp 28 (m+1) 0 0)) evnil) rfl rfl rfl fun H' hH=>?_
    exact ⟨a,x,rfl,by rw [prsE,hx],t6,t7,t8,_,_,_,_,_,(hH 6 (by omega)).trans h6,(hH 7 (by omega)).trans h7,(hH 8 (by omega)).trans h8⟩
noncomputable def c19:Code:=match Try.f19.body with
  |some c=>c
  |_=>.skip
noncomputable def g19:Array Oper:=match sufC 3 c19 with
  | .seq (.region _ o _) _=>o
  |_=>#[]
noncomputable def op19 (k : Nat) : Oper := g19.getD k ⟨none, .assign (.const .nilIface), 0, "", #[], none⟩
noncomputable def rt19:Code:=match sufC 3 c19 with
  | .seq _ r=>r
  |_=>.skip
abbrev em19:List Nat:=[31,36,37,38,59,60,61,81,92,98]
abbrev pa19:List Nat:=[36,37,38,59,60,61,81,92,98]
theorem b19:Try.f19.body=some c19:=by kernel_rfl
theorem n19:Try.f19.ntmps=49:=by kernel_rfl
theorem pre_ok:preS Try.prog ⟨em19,[],pa19,[]⟩ 49 3 c19=some sPre:=by kernel_rfl
theorem suf_ok:sufC 3 c19=.seq (.region 6 #[op19 0,op19 1] false) rt19:=by kernel_rfl
theorem rest_ok:slim Try.prog ⟨em19,[],pa19,[]⟩ 49 rt19=some sRest:=by kernel_rfl
theorem res_ok:mapO (slimRes Try.prog 49) Try.f19.results.toList=some [.cell 6 true 3,.cell 7 false 1,.cell 8 false 1]:=by kernel_rfl
theorem inv35 (cap:Array Value) (w:World):(invoke (.fn (.func 35) cap) #[]).run Try.prog w=.ok (.enter 35 cap) w:=by
  have e: ∀ args w,(callFunc 35 args).run Try.prog w=.ok (.enter 35 args) w:=fun args w=>by
    have h2 : (Try.f35.name == "runtime.NumGoroutine") = false := by kernel_rfl
    have h1 : Try.f35.name ≠ "runtime.NumGoroutine" := by simpa using h2
    simp [callFunc,Try.func35,h1,b35,mark]
  simp [invoke,e]
theorem prs_pure (ia oa : List (List UInt8)) (src : List UInt8) (hn : ∀ k, k < ia.length → (nth ia k).length ≤ 100) (hm : ∀ k, k < oa.length → (nth oa k).length ≤ 100) :
    PureC Try.prog 19 [.agg [.sl (ia.map cS)],.agg [.sl (oa.map cS)],.str src] (.tup [fmV (prs ia oa src).1,iV (prs ia oa src).2.1,iV (prs ia oa src).2.2]):=by
  refine pure_of_calls ⟨Try.f19,Try.func19,by kernel_rfl,by kernel_rfl⟩ (by simp) (by simp) fun x cs hxH hx hr hb=>?_
  refine calls_of_wp_defers Try.func19 b19 ?_
  rw [n19]
  -- the end,where nothing is put off
  have fin: ∀ (D:List Deferred) (T:Nat→V) (a:Act) (y:Cx),Inv y→TRel D 49 y T a→Frame x y→End19 (prs ia oa src) T y.H→
      Leaves Try.prog Try.f19 a.tmps (fun e w'=> ∃ c u y,e=.returned c∧y.w=w'∧fzv true y.H 6 u=.tup [fmV (prs ia oa src).1,iV (prs ia oa src).2.1,iV (prs ia oa src).2.2]∧Inv y∧R y u c∧Frame x y) [] .returning y.w:=fun D T a y hy hT hF hE=>by
    obtain ⟨u,h1,h2⟩:=hE.res
    obtain ⟨c,h3,h4⟩:=results_run res_ok hy hT h1
    exact ⟨c,h3,c,u,y,rfl,rfl,h2,hy,h4,hF⟩
  refine W_sound_pre 3 c19 sPre pre_ok (QPre ia oa src) x x _ _ (by rw [hxH]; exact pre19 ia oa src hn hm) hx (TRel_start hr (by simp)) (Frame.refl x) _ ?_ ?_
  · intro T a y hq hy hT hF
    obtain ⟨q1,q2,t2,t3,t4,h3,h4,hE⟩:=hq
    have hE':=hE
    obtain ⟨t6,t7,t8,_,_,_⟩:=hE'
    have r6:R y (.mp 6 1 0 0) (a.eval (.tmp 6)):=by have:=hT.tmps 6; rw [t6] at this; exact this
    have r7:R y (.mp 7 1 0 0) (a.eval (.tmp 7)):=by have:=hT.tmps 7; rw [t7] at this; exact this
    have r8:R y (.mp 8 1 0 0) (a.eval (.tmp 8)):=by have:=hT.tmps 8; rw [t8] at this; exact this
    rw [suf_ok]
    refine wp_seq (wp_defer (t:=23) (g:=35) (caps:=#[.tmp 6,.tmp 7,.tmp 8]) (tys:=#[]) (by kernel_rfl) (by kernel_rfl) (by kernel_rfl) (by kernel_rfl) (by kernel_rfl) (by kernel_rfl) (by rw [hT.size]; omega) ?_)
    simp only [Exit.then]
    have hcap:(#[.tmp 6,.tmp 7,.tmp 8]:Array Operand).map a.eval=#[a.eval (.tmp 6),a.eval (.tmp 7),a.eval (.tmp 8)]:=by simp
    rw [hcap]
    have hfn:R y (.fn 35 [] [.mp 6 1 0 0,.mp 7 1 0 0,.mp 8 1 0 0]) (.func (.func 35) #[] #[a.eval (.tmp 6),a.eval (.tmp 7),a.eval (.tmp 8)]):=by
      refine .fn _ _ _ _ _ rfl rfl (fun j v h=>by simp at h) fun j v h=>?_
      match j,h with
      |0,h=>cases h; exact r6
      |1,h=>cases h; exact r7
      |2,h=>cases h; exact r8
      |n+3,h=>simp at h
    have hp:=hT.put (d:=some 23) (fun _ h=>by cases h; omega) hfn
    refine wp_mono (W_sound (D:=[⟨.fn (.func 35) #[a.eval (.tmp 6),a.eval (.tmp 7),a.eval (.tmp 8)],#[]⟩]) rt19 sRest rest_ok (QR (prsE ⟨ia,oa,src⟩)) y y (putT T (some 23) (.fn 35 [] [.mp 6 1 0 0,.mp 7 1 0 0,.mp 8 1 0 0])) _
      (rest19 ⟨ia,oa,src⟩ (by simpa using q2) t2 t3 t4 h3 h4 ⟨t6,t7,t8,hE.h6,hE.h7,hE.h8⟩) hy ⟨hp.tmps,by simp only [hT.defers],hp.size⟩ (Frame.refl y)) ?_
    have hpe:prs ia oa src=prsE ⟨ia,oa,src⟩:=by rw [prs,if_neg q1,if_neg q2]
    intro e a' w' hp'
    obtain ⟨e',T',z,he,hw,hq,hz,hT',hF'⟩:=hp'
    subst hw
    cases e with
    | ret =>
      cases he
      show Leaves _ _ _ _ a'.defers _ _
      rw [hT'.defers]
      refine leaves_cons (by simp) (inv35 _ _) ((idle35 _ _ _ _).mono ?_)
      rintro e u' w'' ⟨rfl,rfl,rfl⟩
      exact fin _ T' a' z hz hT' (hF.trans hF') (by rw [hpe]; exact hq)
    | panic l =>
      obtain ⟨c,rfl⟩:=exOf_panic he
      have hl:l=[⟨c,false,false⟩]:=by
        simp only [exOf] at he
        split at he
        · cases he; rfl
        · cases he
      subst hl
      obtain ⟨a1,x1,rfl,hr1,t6',t7',t8',u1,u2,u3,u4,u5,g6,g7,g8⟩:=hq
      show Leaves _ _ _ _ a'.defers _ _
      rw [hT'.defers]
      refine leaves_cons (by simp) (inv35 _ _) ((catch35 hz (r6.frame hy hF') (r7.frame hy hF') (r8.frame hy hF') g6 g7 g8).mono ?_)
      rintro e u' w'' ⟨rfl,rfl,y2,rfl,i2,f2,k6,k7,k8⟩
      refine fin _ T' a' y2 i2 (hT'.frame hz f2) ((hF.trans hF').trans f2) ?_
      rw [hpe,hr1]
      exact ⟨t6',t7',t8',⟨.nilsl,k6,.inr ⟨rfl,rfl⟩⟩,k7,k8⟩
    |normal=>cases he; exact hq.elim
    |exit id=>cases he; exact hq.elim
    |goto l=>cases he
    |outgrown=>cases he
  · intro e a w hne hp
    obtain ⟨e',T,y,he,hw,hq,hy,hT,hF⟩:=hp
    subst hw
    cases e with
    | ret =>
      cases he
      show Leaves _ _ _ _ a.defers _ _
      rw [hT.defers]
      exact fin _ T a y hy hT hF hq
    |normal=>exact absurd rfl hne
    |panic l=>obtain ⟨c,rfl⟩:=exOf_panic he; exact hq.elim
    |exit id=>cases he; exact hq.elim
    |goto l=>cases he
    |outgrown=>cases he
def s21:SF:=⟨38,[.tmp 6,.tmp 7],.seq (.reg [sO 3 (.box 37 1 (.t 0)),sO 4 (.box 37 1 (.t 1)),sO 5 (.box 24 3 (.t 2)),sO 6 (.mv (.c (.str []))),qI 7 0]) (.seq (.seq (.reg [qL 11 1 3,qL 12 1 4,sO 13 (.call false 34 [.t 11,.t 12]),qM 8 13]) (.seq (.reg [qM 14 8,qC 15 .neq 14 0]) (.cond (.t 15) (.seq (.reg [qM 16 8,sO 6 (.mv (.c (.str []))),qM 7 16]) (.ret)) (.skip)))) (.seq (.seq (.reg [qL 17 3 5,sO 18 (.call false 14 [.t 17]),qM 9 18]) (.seq (.reg [qM 19 9,qC 20 .neq 19 0]) (.cond (.t 20) (.seq (.reg [qM 21 9,sO 6 (.mv (.c (.str []))),qM 7 21]) (.ret)) (.skip)))) (.seq (.seq (.reg [qL 22 1 3,qL 23 1 4,qL 24 3 5,sO 25 (.call false 43 [.t 22,.t 23,.t 24]),sO 26 (.un .not (.t 25))]) (.cond (.t 26) (.seq (.reg [sO 6 (.mv (.c (.str []))),qI 7 2]) (.ret)) (.skip))) (.seq (.reg [qL 27 1 3,qL 28 1 4,sO 29 (.build [.nilsl,.nilsl,.nilp,.nilsl] [(0,1,.t 27),(1,1,.t 28)]),sO 30 (.box 94 4 (.t 29)),qM 10 30]) (.seq (.reg [qM 31 10,qL 32 3 5,sO 33 (.call true 44 [.t 31,.t 32])]) (.seq (.reg [qM 34 10,sO 35 (.nilck (.t 34)),qF 36 2 35,sO 37 (.call true 45 [.t 36]),qM 6 37,qI 7 0]) (.ret)))))))⟩
theorem s21_ok:slimF Try.prog ⟨[31,36,37,38,40,41,42,44,45,59,60,61,65,66,67,71,72,73,81,82,84,92,93,98,99,102,104],[],[],[]⟩ Try.f21=some s21:=by kernel_rfl
def r43_1:List SO:=[
 qF 7 0 5,
 ql 8 7,
 qC 9 .eql 8 2,
 qM 10 9,
 ⟨some (10,true),some 11,.fld 1 (.t 5)⟩,
 ⟨some (10,true),some 12,.load false 1 (.t 11)⟩,
 ⟨some (10,true),some 13,.fld 0 (.t 3)⟩,
 ⟨some (10,true),some 14,.load false 1 (.t 13)⟩,
 ⟨some (10,true),some 15,.len (.t 14)⟩,
 ⟨some (10,true),some 16,.bin .geq (.t 12) (.t 15)⟩,
 sO 17 (.pick (.t 10) (.t 16) (.c (.bool false))),
 qM 18 17,
 ⟨some (18,false),some 19,.fld 0 (.t 5)⟩,
 ⟨some (18,false),some 20,.load false 1 (.t 19)⟩,
 ⟨some (18,false),some 21,.bin .eql (.t 20) (.c (.int .i64 3))⟩,
 ⟨some (18,false),some 22,.mv (.t 21)⟩,
 ⟨some (22,true),some 23,.fld 1 (.t 5)⟩,
 ⟨some (22,true),some 24,.load false 1 (.t 23)⟩,
 ⟨some (22,true),some 25,.fld 0 (.t 4)⟩,
 ⟨some (22,true),some 26,.load false 1 (.t 25)⟩,
 ⟨some (22,true),some 27,.len (.t 26)⟩,
 ⟨some (22,true),some 28,.bin .geq (.t 24) (.t 27)⟩,
 ⟨some (18,false),some 29,.pick (.t 22) (.t 28) (.c (.bool false))⟩,
 sO 30 (.pick (.t 18) (.c (.bool true)) (.t 29))]
def s43:SF:=⟨36,[.tmp 6],.seq (.reg [sO 3 (.box 37 1 (.t 0)),sO 4 (.box 37 1 (.t 1)),sO 5 (.box 24 3 (.t 2)),sO 6 (.mv (.c (.bool false)))]) (.seq (.seq (.reg r43_1) (.cond (.t 30) (.seq (.reg [sO 6 (.mv (.c (.bool false)))]) (.ret)) (.skip))) (.seq (.reg [qF 31 2 5,ql 32 31,sO 33 (.mkf 70 [.t 3,.t 4]),sO 34 (.call false 69 [.t 32,.t 33]),sO 35 (.un .not (.t 34)),qM 6 35]) (.ret)))⟩
theorem s43_ok:slimF Try.prog ⟨[31,36,37,38,40,41,42,44,45,59,60,61,65,66,67,71,72,73,81,82,84,92,93,98,99,102,104],[],[],[]⟩ Try.f43=some s43:=by kernel_rfl
def s69:SF:=⟨9,[.tmp 4],.seq (.reg [sO 4 (.mv (.c (.bool false)))]) (.seq (.reg [qM 5 0,qM 6 1,sO 7 (.call false 83 [.t 5,.t 6]),qC 8 .geq 7 0,qM 4 8]) (.ret))⟩
theorem s69_ok:slimF Try.prog ⟨[31,36,37,38,40,41,42,44,45,59,60,61,65,66,67,71,72,73,81,82,84,92,93,98,99,102,104],[],[],[]⟩ Try.f69=some s69:=by kernel_rfl
def b83_0:SC:=.seq (.reg [qP 9 .lss 8 7]) (.seq (.cond (.t 9) (.skip) (.exit 0)) (.seq (.block 1 (.seq (.reg [qM 10 8,qM 5 10]) (.seq (.reg [qM 11 1,qM 12 0,qM 13 5,qA 14 3 12 13,qL 15 3 14,sO 16 (.callv false (.t 11) [.t 15])]) (.cond (.t 16) (.seq (.reg [qM 17 5,qM 4 17]) (.ret)) (.skip))))) (.reg [qC 18 .add 8 1,qM 8 18])))
def s83:SF:=⟨19,[.tmp 4],.seq (.reg [qI 4 0]) (.seq (.seq (.reg [qM 6 0,qN 7 6,qI 8 0]) (.block 0 (.loop b83_0))) (.seq (.reg [sO 4 (.mv (.c (.int .i64 (-1))))]) (.ret)))⟩
theorem s83_ok:slimF Try.prog ⟨[31,36,37,38,40,41,42,44,45,59,60,61,65,66,67,71,72,73,81,82,84,92,93,98,99,102,104],[],[],[]⟩ Try.f83=some s83:=by kernel_rfl
theorem idxf_pure (p:Fm→Bool) (w:List Fm) (g:Nat) (caps:List V) (hca:canonL caps=true) (hpu:pureL caps=true) (hq: ∀ k,k < w.length→PureC Try.prog g (V.agg [iV (nth w k).op,iV (nth w k).arg,V.sl (List.map cF (nth w k).kids)]::caps) (.bool (p (nth w k)))):PureC Try.prog 83 [(V.sl (List.map cF (w))),(V.fn g [] caps)] (iV (fi (fun jx=>p (nth w jx)) 0 w.length)):=by
 refine pure_of_Wb true 6 Try.func83 s83_ok (by kernel_rfl) (by simp [s83]) (by simp [hpu]) (by simp) fun hB=>?_
 simp only [bnd_map,bnd_int,bnd_bool,bnd_str,bnd_agg,bnd_pp,bnd_nil,bnd_cons,implies_true,and_true,true_and] at hB
 unfold s83
 dsimp only
 refine W_r (R_mv rfl (R_e (W_seq_seq (W_r (R_mv rfl (R_len rfl (R_mv rfl ?_)))))))
 refine R_e (W_seq_blockg fun Q1 n1 x1 y1 z1=>?_)
 refine W_loop (fun mm T H=> ∃ (k:Nat),mm=w.length - k∧T 0=(V.sl (List.map cF (w)))∧T 1=(V.fn g [] caps)∧T 7=(iV ((w.length:Nat):Int))∧T 8=(iV ((k:Nat):Int))∧(k≤w.length)∧(fi (fun j=>p (nth w j)) 0 w.length=fi (fun j=>p (nth w j)) k (w.length - k))) ?_ ?_
 ·
  refine ⟨_,0,rfl,rfl,rfl,rfl,(Eq.trans (@rfl V (iV (0:Int))) rfl),?_,?_⟩
  · omega
  · rfl
 intro mm T H ⟨k,hmm,t0,t1,t7,t8,hk,hc⟩ Q2 p12 p22 p32
 unfold b83_0
 refine W_r (R_lss t8 t7 (R_e ?_))
 refine W_seq_if rfl (fun c3=>?_) fun c3=>?_
 ·
  refine W_seq_skip (W_seq_blockg fun Q4 n4 x4 y4 z4=>(W_r (R_mv t8 (R_mv rfl (R_e (W_r (R_mv t1 ?_)))))))
  refine R_mv t0 (R_mv rfl (R_idxu (i:=k) (@rfl V (V.sl (List.map cF (w)))) (@rfl V (iV ((k:Nat):Int))) (by omega) (cF_eq _) rfl (R_load_pp rfl rfl (R_callv (@rfl V (V.fn g [] caps)) (evcons (@rfl V (V.agg [(iV (((nth (w) (k))).op)),(iV (((nth (w) (k))).arg)),(V.sl (List.map cF (((nth (w) (k))).kids)))])) evnil) (hq k (by omega)) (fzv_mapcanon _ _ (by simp [hca])) (by simp [hpu]) (Or.inl (by simp [hpu])) (R_e ?_)))))
  refine W_ifb rfl (fun c5=>?_) (fun c5=>?_)
  ·
   have d1:=c5
   refine W_r (R_mv rfl (R_mv rfl (R_e (W_ret (y4 _ _ (p22 _ _ (y1 _ _ ?_)))))))
   refine Ret_1 (@rfl V (iV ((k:Nat):Int))) (fz_int ?_)
   · rw [hc,fi_hit (by exact d1) (by omega)]
  have d1:=c5
  refine W_skip (n4 _ _ (.done (W_t (R_addN t8 (@rfl V (iV ((1:Nat):Int))) (by omega) (R_mv rfl (R_e ?_))))))
  refine p12 _ _ _ ?_ ⟨(k+1),rfl,t0,t1,t7,(Eq.trans (@rfl V (iV ((k+1:Nat):Int))) (by rfl)),?_,?_⟩
  · omega
  · omega
  · rw [hc,fi_skip (by exact d1) (by omega)]
 refine W_seq_exit (p32 _ _ _ (x1 _ _ (.done (W_r (R_mv rfl (R_e (W_ret ?_)))))))
 refine Ret_1 (@rfl V (iV (-1:Int))) (fz_int ?_)
 · rw [hc,fi_end (by omega)]
theorem conf_pure (p:Fm→Bool) (w:List Fm) (g:Nat) (caps:List V) (hca:canonL caps=true) (hpu:pureL caps=true) (hq: ∀ k,k < w.length→PureC Try.prog g (V.agg [iV (nth w k).op,iV (nth w k).arg,V.sl (List.map cF (nth w k).kids)]::caps) (.bool (p (nth w k)))):PureC Try.prog 69 [(V.sl (List.map cF (w))),(V.fn g [] caps)] (V.bool (decide (0≤fi (fun jx=>p (nth w jx)) 0 w.length))):=by
 refine pure_of_Wb true 6 Try.func69 s69_ok (by kernel_rfl) (by simp [s69]) (by simp [hpu]) (by simp) fun hB=>?_
 simp only [bnd_map,bnd_int,bnd_bool,bnd_str,bnd_agg,bnd_pp,bnd_nil,bnd_cons,implies_true,and_true,true_and] at hB
 unfold s69
 dsimp only
 refine W_r (R_mv rfl (R_e (W_r (R_mv rfl (R_mv rfl (R_call (evcons (@rfl V (V.sl (List.map cF (w)))) (evcons (@rfl V (V.fn g [] caps)) evnil)) (idxf_pure p w g caps hca hpu hq) (fzv_mapcanon _ _ (by simp [hca,hpu,-List.map_take,-List.map_drop,-List.map_append,-List.map_reverse])) (by simp [hca,hpu,-List.map_take,-List.map_drop,-List.map_append,-List.map_reverse]) (Or.inl (by simp [hca,hpu,-List.map_take,-List.map_drop,-List.map_append,-List.map_reverse])) (R_geq rfl rfl ?_)))))))
 refine R_mv rfl (R_e (W_ret ?_))
 refine Ret_1 (@rfl V (V.bool (decide ((0:Int)≤(fi (fun jx=>p (nth w jx)) 0 w.length))))) (fz_bool ?_)
 · first|rfl|omega|simp_all
def s70:SF:=⟨10,[.tmp 4],.seq (.reg [sO 3 (.box 24 3 (.t 0)),sO 4 (.mv (.c (.bool false)))]) (.seq (.reg [qL 5 1 1,qL 6 1 2,qL 7 3 3,sO 8 (.call false 43 [.t 5,.t 6,.t 7]),sO 9 (.un .not (.t 8)),qM 4 9]) (.ret))⟩
theorem s70_ok:slimF Try.prog ⟨[31,36,37,38,40,41,42,44,45,59,60,61,65,66,67,71,72,73,81,82,84,92,93,98,99,102,104],[],[],[]⟩ Try.f70=some s70:=by kernel_rfl
theorem named1_pure (f:Fm) (ia oa:List (List UInt8)) (hq:PureC Try.prog 43 [(V.agg [(V.sl (List.map cS (ia)))]),(V.agg [(V.sl (List.map cS (oa)))]),(V.agg [(iV (f.op)),(iV (f.arg)),(V.sl (List.map cF (f.kids)))])] (V.bool (nmd ((ia.length:Nat):Int) ((oa.length:Nat):Int) f))):PureC Try.prog 70 [(V.agg [(iV (f.op)),(iV (f.arg)),(V.sl (List.map cF (f.kids)))]),(V.pp [(V.sl (List.map cS (ia)))]),(V.pp [(V.sl (List.map cS (oa)))])] (V.bool (!(nmd ((ia.length:Nat):Int) ((oa.length:Nat):Int) f))):=by
 refine pW Try.func70 s70_ok fun hB=>?_
 unfold s70
 dsimp only
 refine W_r (R_box (i:=3) (n:=0) (m:=3) (cs:=[(iV (f.op)),(iV (f.arg)),(V.sl (List.map cF (f.kids)))]) rfl (congrArg Blk.ver rfl) rfl rfl rfl (R_mv rfl (R_e (W_r (R_load_pp rfl rfl (R_load_pp rfl rfl (R_lk rfl rfl rfl rfl ?_)))))))
 refine R_callc (evcons rfl (evcons rfl (evcons rfl evnil))) (hq) (R_notb rfl (R_mv rfl (R_e (W_ret ?_))))
 refine Ret_1 (@rfl V (V.bool ((!nmd ((ia.length:Nat):Int) ((oa.length:Nat):Int) f)))) (fz_bool ?_)
 · rfl
theorem named_pure_step (ia oa:List (List UInt8)) (f:Fm) (ih: ∀ (ia oa:List (List UInt8)) (g:Fm),g.sz < f.sz→PureC Try.prog 43 [(V.agg [(V.sl (List.map cS (ia)))]),(V.agg [(V.sl (List.map cS (oa)))]),(V.agg [(iV (g.op)),(iV (g.arg)),(V.sl (List.map cF (g.kids)))])] (V.bool (nmd ((ia.length:Nat):Int) ((oa.length:Nat):Int) g))):PureC Try.prog 43 [(V.agg [(V.sl (List.map cS (ia)))]),(V.agg [(V.sl (List.map cS (oa)))]),(V.agg [(iV (f.op)),(iV (f.arg)),(V.sl (List.map cF (f.kids)))])] (V.bool (nmd ((ia.length:Nat):Int) ((oa.length:Nat):Int) f)):=by
 refine pW Try.func43 s43_ok fun hB=>?_
 unfold s43
 dsimp only
 refine W_r (R_box (i:=3) (n:=0) (m:=1) (cs:=[(V.sl (List.map cS (ia)))]) rfl (congrArg Blk.ver rfl) rfl rfl rfl (R_box (i:=4) (n:=0) (m:=1) (cs:=[(V.sl (List.map cS (oa)))]) rfl (congrArg Blk.ver rfl) rfl rfl rfl (R_box (i:=5) (n:=0) (m:=3) (cs:=[(iV (f.op)),(iV (f.arg)),(V.sl (List.map cF (f.kids)))]) rfl (congrArg Blk.ver rfl) rfl rfl rfl (R_mv rfl (R_e (W_seq_seq (W_r ?_)))))))
 refine R_fk rfl rfl (R_lk rfl rfl rfl rfl (R_eql rfl rfl (R_mv rfl ?_)))
 refine Ops_seg 7 (fun T H=>T 3=(V.mp 3 1 0 0)∧T 4=(V.mp 4 1 0 0)∧T 5=(V.mp 5 1 0 0)∧T 17=(V.bool (decide (((f.op)=(2:Int))∧(((ia.length:Nat):Int)≤(f.arg)))))∧H 3=(bk 1 37 1 [[(V.sl (List.map cS (ia)))]])∧H 4=(bk 1 37 1 [[(V.sl (List.map cS (oa)))]])∧H 5=(bk 1 24 3 [[(iV (f.op)),(iV (f.arg)),(V.sl (List.map cF (f.kids)))]])∧True) ?_ ?_
 ·
  by_cases g1:(f.op)=(2:Int)
  ·
   refine G_yes (edT g1 rfl) (R_fk rfl rfl (G_yes (edT g1 rfl) (R_lk rfl rfl rfl rfl (G_yes (edT g1 rfl) (R_fk rfl rfl (G_yes (edT g1 rfl) (R_lk rfl rfl rfl rfl ?_)))))))
   refine G_yes (edT g1 rfl) (R_len rfl (G_yes (edT g1 rfl) (R_geq rfl rfl (R_pickT (edT g1 rfl) rfl ?_))))
   exact ⟨rfl,rfl,rfl,(dec_andT g1),rfl,rfl,rfl,trivial⟩
  ·
   refine G_n (edF g1 rfl) (G_n (edF g1 rfl) (G_n (edF g1 rfl) (G_n (edF g1 rfl) (G_n (edF g1 rfl) (G_n (edF g1 rfl) (R_pickF (edF g1 rfl) rfl ?_))))))
   exact ⟨rfl,rfl,rfl,(dec_andF g1),rfl,rfl,rfl,trivial⟩
 intro T H ⟨t3,t4,t5,t17,h3,h4,h5,_⟩
 refine R_mv t17 ?_
 refine Ops_seg 12 (fun T H=>T 3=(V.mp 3 1 0 0)∧T 4=(V.mp 4 1 0 0)∧T 5=(V.mp 5 1 0 0)∧T 30=(V.bool (decide ((((f.op)=(2:Int))∧(((ia.length:Nat):Int)≤(f.arg)))∨(((f.op)=(3:Int))∧(((oa.length:Nat):Int)≤(f.arg))))))∧H 3=(bk 1 37 1 [[(V.sl (List.map cS (ia)))]])∧H 4=(bk 1 37 1 [[(V.sl (List.map cS (oa)))]])∧H 5=(bk 1 24 3 [[(iV (f.op)),(iV (f.arg)),(V.sl (List.map cF (f.kids)))]])∧True) ?_ ?_
 ·
  by_cases g2:((f.op)=(2:Int))∧(((ia.length:Nat):Int)≤(f.arg))
  ·
   refine G_n (edT g2 rfl) (G_n (edT g2 rfl) (G_n (edT g2 rfl) (G_n (edT g2 rfl) (G_raw (@rfl V (V.raw undef)) (G_raw (@rfl V (V.raw undef)) (G_raw (@rfl V (V.raw undef)) (G_raw (@rfl V (V.raw undef)) ?_)))))))
   refine G_raw (@rfl V (V.raw undef)) (G_raw (@rfl V (V.raw undef)) (G_n (edT g2 rfl) (R_pickT (edT g2 rfl) rfl ?_)))
   exact ⟨t3,t4,t5,(dec_orT g2),h3,h4,h5,trivial⟩
  ·
   refine G_yes (edF g2 rfl) (R_fk t5 h5 (G_yes (edF g2 rfl) (R_lk rfl h5 rfl rfl (G_yes (edF g2 rfl) (R_eql rfl rfl (G_yes (edF g2 rfl) (R_mv rfl ?_)))))))
   refine Ops_seg 7 (fun T H=>T 3=(V.mp 3 1 0 0)∧T 4=(V.mp 4 1 0 0)∧T 5=(V.mp 5 1 0 0)∧T 18=(V.bool false)∧T 29=(V.bool (decide (((f.op)=(3:Int))∧(((oa.length:Nat):Int)≤(f.arg)))))∧H 3=(bk 1 37 1 [[(V.sl (List.map cS (ia)))]])∧H 4=(bk 1 37 1 [[(V.sl (List.map cS (oa)))]])∧H 5=(bk 1 24 3 [[(iV (f.op)),(iV (f.arg)),(V.sl (List.map cF (f.kids)))]])∧True) ?_ ?_
   ·
    by_cases g3:(f.op)=(3:Int)
    ·
     refine G_yes (edT g3 rfl) (R_fk t5 h5 (G_yes (edT g3 rfl) (R_lk rfl h5 rfl rfl (G_yes (edT g3 rfl) (R_fk t4 h4 (G_yes (edT g3 rfl) (R_lk rfl h4 rfl rfl ?_)))))))
     refine G_yes (edT g3 rfl) (R_len rfl (G_yes (edT g3 rfl) (R_geq rfl rfl (G_yes (edF g2 rfl) (R_pickT (edT g3 rfl) rfl ?_)))))
     exact ⟨t3,t4,t5,(edF g2 rfl),(dec_andT g3),h3,h4,h5,trivial⟩
    ·
     refine G_n (edF g3 rfl) (G_n (edF g3 rfl) (G_n (edF g3 rfl) (G_n (edF g3 rfl) (G_n (edF g3 rfl) (G_n (edF g3 rfl) (G_yes (edF g2 rfl) (R_pickF (edF g3 rfl) rfl ?_)))))))
     exact ⟨t3,t4,t5,(edF g2 rfl),(dec_andF g3),h3,h4,h5,trivial⟩
   intro T H ⟨t3,t4,t5,t18,t29,h3,h4,h5,_⟩
   refine R_pickF t18 t29 ?_
   exact ⟨t3,t4,t5,(dec_orF g2),h3,h4,h5,trivial⟩
 intro T H ⟨t3,t4,t5,t30,h3,h4,h5,_⟩
 refine R_e ?_
 refine W_seq_if t30 (fun c4=>?_) fun c4=>?_
 ·
  refine W_seq_seq (W_r (R_mv rfl (R_e (W_seq_ret ?_))))
  refine Ret_1 (@rfl V (V.bool false)) (fz_bool ?_)
  · exact (nmd_no (by omega)).symm
 refine W_seq_skip (W_r (R_fk t5 h5 (R_lk rfl h5 rfl rfl (R_mkf (evcons t3 (evcons t4 evnil)) (R_call (evcons (@rfl V (V.sl (List.map cF (f.kids)))) (evcons (@rfl V (V.fn 70 [] [(V.mp 3 1 0 0),(V.mp 4 1 0 0)])) evnil)) (conf_pure (fun g=> !(nmd ((ia.length:Nat):Int) ((oa.length:Nat):Int) g)) f.kids 70 ([(V.pp [(V.sl (List.map cS (ia)))]),(V.pp [(V.sl (List.map cS (oa)))])]) (by simp) (by simp) (fun k hk=>named1_pure (nth f.kids k) ia oa (ih ia oa (nth f.kids k) (Fm.sz_kid hk)))) (mcons (fzv_canon 6 _ (by simp [-List.map_take,-List.map_drop,-List.map_append,-List.map_reverse])) (mcons (by simp [fzv,Blk.own,h3,h4,h5]) rfl)) (by simp [-List.map_take,-List.map_drop,-List.map_append,-List.map_reverse]) (Or.inr rfl) (R_not rfl (R_mv rfl ?_)))))))
 refine R_e (W_ret ?_)
 refine Ret_1 (@rfl V (V.bool (decide (¬(0≤fi (fun jx=>(fun g=> !(nmd ((ia.length:Nat):Int) ((oa.length:Nat):Int) g)) (nth f.kids jx)) 0 f.kids.length))))) (fz_bool ?_)
 · rw [nmd_go (by omega),decide_not]; exact fi_all (p:=nmd ((ia.length:Nat):Int) ((oa.length:Nat):Int))
theorem named_pure (ia oa:List (List UInt8)) (f:Fm):PureC Try.prog 43 [(V.agg [(V.sl (List.map cS (ia)))]),(V.agg [(V.sl (List.map cS (oa)))]),(V.agg [(iV (f.op)),(iV (f.arg)),(V.sl (List.map cF (f.kids)))])] (V.bool (nmd ((ia.length:Nat):Int) ((oa.length:Nat):Int) f)):=by
  have key: ∀ (mm:Nat) (ia oa:List (List UInt8)) (f:Fm),f.sz < mm→PureC Try.prog 43 [(V.agg [(V.sl (List.map cS (ia)))]),(V.agg [(V.sl (List.map cS (oa)))]),(V.agg [(iV (f.op)),(iV (f.arg)),(V.sl (List.map cF (f.kids)))])] (V.bool (nmd ((ia.length:Nat):Int) ((oa.length:Nat):Int) f)):=by
    intro mm
    induction mm with
    |zero=>intro ia oa f hlt; exact absurd hlt (Nat.not_lt_zero _)
    | succ mm ih =>
      intro ia oa f hlt
      exact named_pure_step ia oa f fun ia2 oa2 f2 hlt2=>ih ia2 oa2 f2 (by omega)
  exact key (f.sz+1) ia oa f (Nat.lt_succ_self _)
def r44_5:List SO:=[
 qM 14 0,
 sO 15 (.nilck (.t 14)),
 qF 16 2 15,
 qM 17 0,
 sO 18 (.nilck (.t 17)),
 qF 19 0 18,
 qF 20 0 19,
 ql 21 20,
 qF 22 1 3,
 ql 23 22,
 qA 24 1 21 23,
 ql 25 24,
 sO 26 (.sbin .add (.c (.str [105,110,58])) (.t 25)),
 sO 27 (.call true 71 [.t 16,.t 26])]
def r44_7:List SO:=[
 qM 30 0,
 sO 31 (.nilck (.t 30)),
 qF 32 2 31,
 qM 33 0,
 sO 34 (.nilck (.t 33)),
 qF 35 1 34,
 qF 36 0 35,
 ql 37 36,
 qF 38 1 3,
 ql 39 38,
 qA 40 1 37 39,
 ql 41 40,
 sO 42 (.sbin .add (.c (.str [111,117,116,58])) (.t 41)),
 sO 43 (.call true 71 [.t 32,.t 42])]
def s44:SF:=⟨128,[],.seq (.reg [sO 3 (.box 24 3 (.t 1))]) (.seq (.reg [qF 4 0 3,ql 5 4]) (.block 0 (.seq (.reg [qC 7 .eql 5 1,qM 6 7]) (.cond (.t 6) (.reg [qM 8 0,sO 9 (.nilck (.t 8)),qF 10 2 9,sO 11 (.call true 71 [.t 10,.c (.str [116,114,117,101])])]) (.seq (.reg [qC 13 .eql 5 2,qM 12 13]) (.cond (.t 12) (.reg r44_5) (.seq (.reg [qC 29 .eql 5 3,qM 28 29]) (.cond (.t 28) (.reg r44_7) (.seq (.reg [qC 45 .eql 5 4,qM 44 45]) (.cond (.t 44) (.seq (.reg [qM 46 0,sO 47 (.nilck (.t 46)),qF 48 2 47,sO 49 (.call true 71 [.t 48,.c (.str [33])])]) (.reg [qM 50 0,qF 51 2 3,ql 52 51,sO 53 (.idx 3 (.t 52) (.c (.int .i64 0))),qL 54 3 53,sO 55 (.call true 72 [.t 50,.t 54,.c (.int .i64 4)])])) (.seq (.reg [qC 57 .eql 5 7,qM 56 57]) (.cond (.t 56) (.seq (.reg [qM 58 0,sO 59 (.nilck (.t 58)),qF 60 2 59,sO 61 (.call true 71 [.t 60,.c (.str [88,32])])]) (.reg [qM 62 0,qF 63 2 3,ql 64 63,sO 65 (.idx 3 (.t 64) (.c (.int .i64 0))),qL 66 3 65,sO 67 (.call true 72 [.t 62,.t 66,.c (.int .i64 4)])])) (.seq (.reg [qC 69 .eql 5 9,qM 68 69]) (.cond (.t 68) (.seq (.reg [qM 70 0,sO 71 (.nilck (.t 70)),qF 72 2 71,sO 73 (.call true 71 [.t 72,.c (.str [78,32])])]) (.reg [qM 74 0,qF 75 2 3,ql 76 75,sO 77 (.idx 3 (.t 76) (.c (.int .i64 0))),qL 78 3 77,sO 79 (.call true 72 [.t 74,.t 78,.c (.int .i64 4)])])) (.seq (.reg [qC 81 .eql 5 6,qM 80 81]) (.cond (.t 80) (.reg [qM 82 0,qF 83 2 3,ql 84 83,sO 85 (.call true 73 [.t 82,.t 84,.c (.str [32,124,32]),.c (.int .i64 2)])]) (.seq (.reg [qC 87 .eql 5 5,qM 86 87]) (.cond (.t 86) (.reg [qM 88 0,qF 89 2 3,ql 90 89,sO 91 (.call true 73 [.t 88,.t 90,.c (.str [32,38,32]),.c (.int .i64 3)])]) (.seq (.reg [qC 93 .eql 5 8,qM 92 93]) (.cond (.t 92) (.seq (.reg [qM 94 0,qF 95 2 3,ql 96 95,sO 97 (.idx 3 (.t 96) (.c (.int .i64 0))),qL 98 3 97,sO 99 (.call true 72 [.t 94,.t 98,.c (.int .i64 4)])]) (.seq (.reg [qM 100 0,sO 101 (.nilck (.t 100)),qF 102 2 101,sO 103 (.call true 71 [.t 102,.c (.str [32,85,32])])]) (.reg [qM 104 0,qF 105 2 3,ql 106 105,sO 107 (.idx 3 (.t 106) (.c (.int .i64 1))),qL 108 3 107,sO 109 (.call true 72 [.t 104,.t 108,.c (.int .i64 3)])]))) (.seq (.reg [qC 111 .eql 5 10,qM 110 111]) (.cond (.t 110) (.seq (.reg [qM 112 0,qF 113 2 3,ql 114 113,sO 115 (.idx 3 (.t 114) (.c (.int .i64 0))),qL 116 3 115,sO 117 (.call true 72 [.t 112,.t 116,.c (.int .i64 4)])]) (.seq (.reg [qM 118 0,sO 119 (.nilck (.t 118)),qF 120 2 119,sO 121 (.call true 71 [.t 120,.c (.str [32,82,32])])]) (.reg [qM 122 0,qF 123 2 3,ql 124 123,sO 125 (.idx 3 (.t 124) (.c (.int .i64 1))),qL 126 3 125,sO 127 (.call true 72 [.t 122,.t 126,.c (.int .i64 3)])]))) (.skip)))))))))))))))))))))))⟩
theorem s44_ok:slimF Try.prog ⟨[31,36,37,38,40,41,42,44,45,59,60,61,65,66,67,71,72,73,81,82,84,92,93,98,99,102,104],[],[],[]⟩ Try.f44=some s44:=by kernel_rfl
def r71_2:List SO:=[
 qM 8 0,
 qM 9 0,
 sO 10 (.nilck (.t 9)),
 qF 11 1 10,
 ql 12 11,
 qM 13 1,
 sO 14 (.append 5 1 1 (.t 12) (.t 13)),
 sO 15 (.nilck (.t 8)),
 qF 16 1 15,
 sN (.store 1 (.t 16) (.t 14))]
def s71:SF:=⟨19,[.tmp 4,.tmp 5],.seq (.reg [qI 4 0,sO 5 (.mv (.c (.raw .nilIface)))]) (.seq (.reg [qM 6 0,sO 7 (.call true 84 [.t 6])]) (.seq (.reg r71_2) (.seq (.reg [qM 17 1,sO 18 (.slen (.t 17)),qM 4 18,sO 5 (.mv (.c (.raw .nilIface)))]) (.ret))))⟩
theorem s71_ok:slimF Try.prog ⟨[31,36,37,38,40,41,42,44,45,59,60,61,65,66,67,71,72,73,81,82,84,92,93,98,99,102,104],[],[],[]⟩ Try.f71=some s71:=by kernel_rfl
theorem bu89:Try.prog.underlying 89=some (.pointer 92):=by kernel_rfl
theorem bu129:Try.prog.underlying 129=some .unsafePointer:=by kernel_rfl
theorem bi92:(Try.prog.info? 92).map (·.size)=some 2:=by kernel_rfl
theorem blies1:(fun n:Nat=>liesAt Try.prog Try.prog.depth 94 (n+1) 2 92 1)=fun _=>true:=by kernel_rfl
theorem bcells:Try.prog.cellsOf 94=4:=by kernel_rfl
theorem blies {m:Nat} (h:4≤m):liesAt Try.prog Try.prog.depth 94 (m / Try.prog.cellsOf 94) 2 92 1=true:=by
  rw [bcells]
  obtain ⟨n,hn⟩: ∃ n,m / 4=n+1:=⟨m / 4 - 1,by omega⟩
  rw [hn]; exact congrFun blies1 n
set_option maxHeartbeats 1000000 in
set_option maxRecDepth 100000 in
theorem copy_used (b:Nat) (w:World) (h0:w.cell? ⟨b,2,none⟩=some (.pointer (some ⟨b,2,none⟩))):
    Calls Try.prog 84 #[.pointer (some ⟨b,2,none⟩)] w fun e w'=>e=.returned (.tuple #[])∧w'=w:=by
  obtain ⟨j,hj,_⟩:=Option.map_eq_some_iff.1 bi92
  go_enter Try.func84,Try.ntmps84
  go_wp2
  rw [Lib.run_neq_ptr_same w _ bu89 hj]
  go_wp2
  go_end0
  exact ⟨rfl,rfl⟩
set_option maxHeartbeats 1000000 in
set_option maxRecDepth 100000 in
theorem copy_fresh (b m:Nat) (w:World) (hm:4≤m) (h0:w.cell? ⟨b,2,none⟩=some (.pointer none)) (hsh:w.shape? b=some (94,m)) (hfz:w.frozen? ⟨b,2,none⟩=false):
    Calls Try.prog 84 #[.pointer (some ⟨b,2,none⟩)] w fun e w'=>e=.returned (.tuple #[])∧w'=w.setCell ⟨b,2,none⟩ (.pointer (some ⟨b,2,none⟩)):=by
  obtain ⟨j,hj,hjs⟩:=Option.map_eq_some_iff.1 bi92
  go_enter Try.func84,Try.ntmps84
  go_wp2
  rw [Lib.run_to_unsafe w ⟨b,2,none⟩ bu89 bu129 hj (by rw [hjs]; decide) hsh (by show 2 < m; omega)]
  simp only [Result.andThen]
  rw [Oper.upon_value]
  go_wp2
  rw [run_callFunc_extern Try.func94 (by kernel_rfl) (by kernel_rfl) (by kernel_rfl) (e:=Extern.AbiNoEscape.same) (by kernel_rfl)]
  rw [Lib.run_noEscape]
  simp only [Result.andThen]
  rw [Oper.upon_value]
  go_wp2
  rw [Lib.run_from_unsafe w ⟨b,2,none⟩ bu129 bu89 hj hsh (blies hm)]
  simp only [Result.andThen]
  rw [Oper.upon_value]
  go_wp2
  go_end0
  exact ⟨rfl,rfl⟩
theorem putL_self {ρ:Nat→Nat} {HL H:Heap}: ∀ {n:Nat},(∀ i,i < n→H (ρ i)=renB ρ (HL i))→putL ρ HL H n=H
  |0,_=>rfl
  | n + 1, h => by
    simp only [putL]
    rw [putL_self fun i hi=>h i (by omega)]
    funext j
    by_cases q:j=ρ n
    · subst q; rw [upd_same,h n (by omega)]
    · rw [upd_ne _ _ q]
theorem szOf89:szOf Try.prog 89=some 1:=by kernel_rfl
theorem copy_loc (v : Nat) (i o a buf : V) (B : Blk) (ha : a = .nilp ∨ a = .mp 0 v 0 2) : LocC Try.prog 84 2 [.mp 0 v 0 2] (hpB2 (bk v 94 4 [[i, o, a, buf]]) B) (.ok (.tup []) (hpB2 (bk v 94 4 [[i, o, .mp 0 v 0 2, buf]]) B)) := by
  intro H ρ hρ hH
  refine ⟨⟨_,Try.func84,by kernel_rfl,by kernel_rfl⟩,fun x cs hxH hx hr=>?_⟩
  subst hxH
  have h0:x.H (ρ 0)=bk v 94 4 [[ren0 ρ i,ren0 ρ o,ren0 ρ a,ren0 ρ buf]]:=hH 0 (by omega)
  have h1:x.H (ρ 1)=renB ρ B:=hH 1 (by omega)
  have ho:(x.H (ρ 0)).own=true:=by rw [h0]; rfl
  obtain ⟨cc,g1,g2,g3,g4⟩:=hx.blk (ρ 0) ho
  have hty:(x.H (ρ 0)).ty=94:=by rw [h0]
  have hsz:(x.H (ρ 0)).sz=4:=by rw [h0]
  rw [hty] at g1
  have hcs:4≤cc.size:=by rw [h0] at g3; simpa using g3
  have hrows:(x.H (ρ 0)).rows[0]?=some [ren0 ρ i,ren0 ρ o,ren0 ρ a,ren0 ρ buf]:=by rw [h0]; rfl
  have c2:=g4 0 _ 2 _ hrows rfl
  rw [hsz] at c2
  have hcell:x.w.cell? ⟨x.σ (ρ 0),2,none⟩=some (cc.getD 2 undef):=own_cell g1 (by omega)
  obtain ⟨hlen,hr⟩:=hr
  match cs,hlen with
  | [c1], _ =>
    have r0:R x (.mp (ρ 0) v 0 2) c1:=hr 0 _ rfl
    have r0':=r0
    cases r0 with
    | mp _ _ _ _ p hv' hh =>
      have hp:=hh (by rw [h0]) ho
      rw [hsz] at hp
      simp only [Nat.zero_mul,Nat.zero_add] at hp
      subst hp
      rcases ha with rfl|rfl
      · -- never written yet
        have e2:cc.getD 2 undef=.pointer none:=by
          have c2:R x .nilp (cc.getD 2 undef):=c2
          generalize cc.getD 2 undef=q at c2
          cases c2; rfl
        rw [e2] at hcell
        have hfz:x.w.frozen? ⟨x.σ (ρ 0),2,none⟩=false:=Lib.frozen_of_heap (by exact g1) 2
        have hst:stP x.H 1 (V.mp (ρ 0) v 0 2).cells (.mp (ρ 0) v 0 2)=some (upd x.H (ρ 0) (bk v 94 4 [[ren0 ρ i,ren0 ρ o,.mp (ρ 0) v 0 2,ren0 ρ buf]])):=by
          simp [stP,ok,h0,V.cells,V.one,Blk.own,putAt]
        obtain ⟨y,y1,y2,y3,y4⟩:=store_run (P:=Try.prog) hx hst r0' r0' szOf89
        have hrun:(Instr.storeAt 89 (.pointer (some ⟨x.σ (ρ 0),2,none⟩)) (.pointer (some ⟨x.σ (ρ 0),2,none⟩))).run Try.prog x.w=.ok () (x.w.setCell ⟨x.σ (ρ 0),2,none⟩ (.pointer (some ⟨x.σ (ρ 0),2,none⟩))):=by
          simp [go_sem,hcell,hfz]
        rw [hrun] at y1
        injection y1 with _ y1
        refine (copy_fresh (x.σ (ρ 0)) cc.size x.w hcs hcell (by simp [World.shape?,g1]) hfz).mono fun e w' h=>?_
        obtain ⟨rfl,rfl⟩:=h
        refine ⟨_,y,rfl,y1.symm,?_,y3,.tup [] #[] rfl (fun j v h=>by simp at h),y4⟩
        rw [y2]
        funext j
        simp only [putL]
        by_cases q1:j=ρ 1
        · subst q1
          rw [upd_same,upd_ne _ _ (fun q=>absurd (hρ 1 0 (by omega) (by omega) q) (by omega)),h1]
          rfl
        · rw [upd_ne _ _ q1]
          rfl
      · -- written before
        have e2:cc.getD 2 undef=.pointer (some ⟨x.σ (ρ 0),2,none⟩):=by
          have c2:R x (.mp (ρ 0) v 0 2) (cc.getD 2 undef):=c2
          generalize cc.getD 2 undef=q at c2
          cases c2 with
          | mp _ _ _ _ p hv hh =>
            have:=hh (by rw [h0]) ho
            rw [hsz] at this
            rw [this]
        rw [e2] at hcell
        refine (copy_used (x.σ (ρ 0)) x.w hcell).mono fun e w' h=>?_
        obtain ⟨rfl,rfl⟩:=h
        exact ⟨_,x,rfl,rfl,(putL_self fun i hi=>by
          have:i=0∨i=1:=by omega
          rcases this with rfl|rfl
          · exact h0
          · exact h1).symm,hx,.tup [] #[] rfl (fun j v h=>by simp at h),Frame.refl x⟩
theorem wstr_loc (v u:Nat) (ia oa:List (List UInt8)) (a:V) (l m:List UInt8) (ha:a=.nilp∨a=.mp 0 v 0 2) (hl:l.length+m.length≤4294967296):LocC Try.prog 71 2 [(V.mp 0 v 0 2),(V.str m)] (hpB2 (bk v 94 4 [[(V.sl (List.map cS (ia))),(V.sl (List.map cS (oa))),(a),(V.ms 1 u 0 (List.length (l)))]]) (bz u 5 1 (List.map bB (l)))) (.ok (.tup [iV (m.length:Nat),.raw .nilIface]) (hpB2 (bk v 94 4 [[.sl (ia.map cS),.sl (oa.map cS),.mp 0 v 0 2,.ms 1 ((u+1)) 0 (List.length (l++m))]]) ⟨(u+1),true,true,5,1,(l++m).map bB⟩)):=by
 refine lW2 (k0:=0) (hla:=by rcases ha with rfl|rfl <;> simp [locB,loc0]) (hlb:=bB_loc _) Try.func71 s71_ok fun hB=>?_
 unfold s71
 dsimp only
 refine W_r (R_mv rfl (R_mv rfl (R_e (W_r (R_mv rfl (R_callE (evcons rfl evnil) (LocC.use2 (i:=0) (j:=1) (copy_loc v (V.sl (List.map cS (ia))) (V.sl (List.map cS (oa))) (a) (V.ms 1 u 0 (List.length (l))) (bz u 5 1 (List.map bB (l))) ha) (by decide) rfl (@rfl Blk (bk v 94 4 [[(V.sl (List.map cS (ia))),(V.sl (List.map cS (oa))),(a),(V.ms 1 u 0 (List.length (l)))]])) (@rfl Blk (bz u 5 1 (List.map bB (l)))) (by rcases ha with rfl|rfl <;> rfl) (bB_ren _ _) rfl (bB_ren _ _)) (R_e ?_)))))))
 refine W_r (R_mv rfl (R_mv rfl (R_nilck_mp rfl rfl oB (R_fk rfl rfl (R_lk rfl rfl rfl rfl (R_mv rfl (R_appendB (l:=l) (m:=m) (@rfl V (V.ms 1 u 0 (List.length (l)))) (@rfl Blk (bz u 5 1 (List.map bB (l)))) (by rfl) (@rfl V (V.str m)) (by omega) ?_)))))))
 refine R_nilck_mp rfl rfl oB (R_fk rfl rfl (R_sk rfl rfl rfl rfl rfl rfl rfl rfl rfl (R_e (W_r (R_mv rfl (R_slen (s:=m) rfl (R_mv rfl ?_)))))))
 refine R_mv rfl (R_e (W_ret ?_))
 refine RetL2_ok (v:=(V.tup [(iV ((m.length:Nat):Int)),(V.raw .nilIface)])) (a:=(bk v 94 4 [[(V.sl (List.map cS (ia))),(V.sl (List.map cS (oa))),(V.mp 0 v 0 2),(V.ms 1 (u+1) 0 ((List.length (l))+(m).length))]])) (b:=(bz (u+1) 5 1 (List.map bB (l++m)))) (resT2 (resV_t (@rfl V (iV ((m.length:Nat):Int)))) (resV_t (@rfl V (V.raw .nilIface)))) ?_ (by simp) (FinV.tup2 (.same (cut_fin 2 _) _) (.same (cut_fin 2 _) _)) (@rfl Blk (bk v 94 4 [[(V.sl (List.map cS (ia))),(V.sl (List.map cS (oa))),(V.mp 0 v 0 2),(V.ms 1 (u+1) 0 ((List.length (l))+(m).length))]])) (@rfl Blk (bz (u+1) 5 1 (List.map bB (l++m)))) (by simp [locB,loc0]) (bB_loc _)
 simp [List.length_append]
def s72:SF:=⟨25,[],.seq (.reg [sO 4 (.box 24 3 (.t 1))]) (.seq (.seq (.reg [qF 6 0 4,ql 7 6,sO 8 (.call false 85 [.t 7]),qM 9 2,qP 10 .geq 8 9]) (.cond (.t 10) (.seq (.reg [qM 11 0,qL 12 3 4,sO 13 (.call true 44 [.t 11,.t 12])]) (.ret)) (.skip))) (.seq (.reg [qM 14 0,sO 15 (.nilck (.t 14)),qF 16 2 15,sO 17 (.call true 71 [.t 16,.c (.str [40])])]) (.seq (.reg [qM 18 0,qL 19 3 4,sO 20 (.call true 44 [.t 18,.t 19])]) (.reg [qM 21 0,sO 22 (.nilck (.t 21)),qF 23 2 22,sO 24 (.call true 71 [.t 23,.c (.str [41])])]))))⟩
theorem s72_ok:slimF Try.prog ⟨[31,36,37,38,40,41,42,44,45,59,60,61,65,66,67,71,72,73,81,82,84,92,93,98,99,102,104],[],[],[]⟩ Try.f72=some s72:=by kernel_rfl
def s85:SF:=⟨11,[.tmp 2],.seq (.reg [qI 2 0]) (.seq (.seq (.reg [qM 3 0]) (.block 0 (.seq (.reg [qC 5 .eql 3 6,qM 4 5]) (.cond (.t 4) (.seq (.reg [qI 2 1]) (.ret)) (.seq (.reg [qC 7 .eql 3 5,qM 6 7]) (.cond (.t 6) (.seq (.reg [qI 2 2]) (.ret)) (.seq (.seq (.reg [qC 9 .eql 3 8,qM 8 9]) (.cond (.t 8) (.skip) (.reg [qC 10 .eql 3 10,qM 8 10]))) (.cond (.t 8) (.seq (.reg [qI 2 3]) (.ret)) (.skip))))))))) (.seq (.reg [qI 2 4]) (.ret)))⟩
theorem s85_ok:slimF Try.prog ⟨[31,36,37,38,40,41,42,44,45,59,60,61,65,66,67,71,72,73,81,82,84,92,93,98,99,102,104],[],[],[]⟩ Try.f85=some s85:=by kernel_rfl
end Go.Proofs.Ytdmcmkccifmofaa
namespace Go.Proofs.Ytdmcmkccifmofaa
open Go
structure RS where
  pos:Nat
  dep:Int
  er:Int
  wh:Nat
instance:Inhabited RS:=⟨⟨0,0,0,0⟩⟩
def rCells (e:PE) (s:RS):List V:=[.sl (e.ia.map cS),.sl (e.oa.map cS),.str e.src,iV (s.pos:Nat),iV s.dep,iV s.er,iV (s.wh:Nat)]
def rFail (s:RS) (x:Int):RS:=if s.er=0 then {s with er:=x,wh:=s.pos} else s
def rSkp (e:PE) (s:RS):Nat:=skp (e.src.drop s.pos) s.pos
def rNext (e:PE) (s:RS):List UInt8×RS:=
  if s.er≠0∨rSkp e s=e.src.length then ([],{s with pos:=rSkp e s})
  else if tok (e.src.drop (rSkp e s))=[] then ([],{s with pos:=rSkp e s,er:=5,wh:=rSkp e s})
  else (tok (e.src.drop (rSkp e s)),{s with pos:=rSkp e s})
def rTake (e:PE) (w:List UInt8) (s:RS):Bool×RS:=
  if (rNext e s).1≠w∨(rNext e s).2.er≠0 then (false,(rNext e s).2) else (true,{(rNext e s).2 with pos:=(rNext e s).2.pos+w.length})
def rUp (s:RS):RS:=if 128 < s.dep+1 then rFail {s with dep:=s.dep+1} 16 else {s with dep:=s.dep+1}
def rOpen (e:PE) (s:RS):RS:=rUp (rNext e s).2
def rDn (s:RS):RS:={s with dep:=s.dep - 1}
def rMore (e : PE) (w : List UInt8) (rd : RS → Option (Fm × RS)) : Nat → List Fm → RS → Option (List Fm × RS)
  |0,_,_=>none
  | k + 1, l, s => match rTake e w s with
    |(false,s1)=>some (l,s1)
    | (true, s1) => match rd s1 with
      |none=>none
      |some (f,s2)=>rMore e w rd k (l++[f]) s2
def rFin (op:Int):Option (List Fm×RS)→Option (Fm×RS)
  |none=>none
  |some (l,s)=>some (oneOr op l,s)
def rSev (e:PE) (w:List UInt8) (op:Int) (rd:RS→Option (Fm×RS)) (k:Nat) (s:RS):Option (Fm×RS):=
  match rd s with
  |none=>none
  |some (f,s1)=>rFin op (rMore e w rd k [f] s1)
def fZ:Fm:=.nd 0 0 []
def fT:Fm:=.nd 1 0 []
def fF:Fm:=.nd 4 0 [.nd 1 0 []]
def rAtom (e:PE) (t:List UInt8) (s:RS):Fm×RS:=
  if prB t wIn=true then (if ixB e.ia (t.drop 3)=true then (.nd 2 (ixV e.ia (t.drop 3)) [],{s with pos:=s.pos+t.length}) else (fZ,rFail s 8))
  else if prB t wOut=true then (if ixB e.oa (t.drop 4)=true then (.nd 3 (ixV e.oa (t.drop 4)) [],{s with pos:=s.pos+t.length}) else (fZ,rFail s 8))
  else (fZ,rFail s 5)
inductive RK where
  |form|disj|conj|bin|un|bel
def rMap (g:Fm→Fm):Option (Fm×RS)→Option (Fm×RS)
  |none=>none
  |some (f,s)=>some (g f,s)
def rMapD (g:Fm→Fm):Option (Fm×RS)→Option (Fm×RS)
  |none=>none
  |some (f,s)=>some (g f,rDn s)
def rClose (e:PE) (s:RS):RS:=match rTake e [41] s with
  |(true,s1)=>s1
  |(false,s1)=>rFail (rNext e s1).2 5
def rClo (e:PE):Option (Fm×RS)→Option (Fm×RS)
  |none=>none
  |some (f,s)=>some (f,rClose e (rDn s))
def rF (e : PE) : Nat → RK → RS → Option (Fm × RS)
  |0,_,_=>none
  | k + 1, .form, s => match rF e k .disj s with
    |none=>none
    | some (f, s1) => match rTake e [45, 62] s1 with
      |(false,s2)=>some (f,s2)
      |(true,s2)=>rMapD (fun g=>.nd 6 0 [.nd 4 0 [f],g]) (rF e k .form (rOpen e s2))
  |k+1,.disj,s=>rSev e [124] 6 (rF e k .conj) k s
  |k+1,.conj,s=>rSev e [38] 5 (rF e k .bin) k s
  | k + 1, .bin, s => match rF e k .un s with
    |none=>none
    | some (f, s1) => match rTake e [85] s1 with
      |(true,s2)=>rMapD (fun g=>.nd 8 0 [f,g]) (rF e k .bin (rOpen e s2))
      | (false, s2) => match rTake e [82] s2 with
        |(true,s3)=>rMapD (fun g=>.nd 10 0 [f,g]) (rF e k .bin (rOpen e s3))
        |(false,s3)=>some (f,s3)
  |k+1,.bel,s=>if (rOpen e s).er=0 then rMapD id (rF e k .un (rOpen e s)) else some (fZ,rDn (rOpen e s))
  | k + 1, .un, s => match rNext e s with
    | (t, s1) => if s1.er ≠ 0 then some (fZ, s1) else match rTake e [33] s1 with
      |(true,s2)=>rMap (fun g=>.nd 4 0 [g]) (rF e k .bel s2)
      | (false, s2) => match rTake e [88] s2 with
        |(true,s2)=>rMap (fun g=>.nd 7 0 [g]) (rF e k .bel s2)
        | (false, s2) => match rTake e [78] s2 with
          |(true,s2)=>rMap (fun g=>.nd 9 0 [g]) (rF e k .bel s2)
          | (false, s2) => match rTake e [70] s2 with
            |(true,s2)=>rMap (fun g=>.nd 8 0 [fT,g]) (rF e k .bel s2)
            | (false, s2) => match rTake e [71] s2 with
              |(true,s2)=>rMap (fun g=>.nd 10 0 [fF,g]) (rF e k .bel s2)
              | (false, s2) => match rTake e wTr s2 with
                |(true,s2)=>some (fT,s2)
                | (false, s2) => match rTake e wFa s2 with
                  |(true,s2)=>some (fF,s2)
                  | (false, s2) => match rTake e [40] s2 with
                    |(true,s2)=>rClo e (if (rOpen e s2).er=0 then rF e k .form (rOpen e s2) else some (fZ,rOpen e s2))
                    |(false,s2)=>some (rAtom e t s2)
structure OkR (e:PE) (s:RS):Prop where
  len:e.src.length≤1048576
  pos:s.pos≤e.src.length
  d0:0≤s.dep
  d1:s.dep≤129
  d2:s.er=0→s.dep≤128
theorem rSkp_rng {e:PE} {s:RS} (h:s.pos≤e.src.length):s.pos≤rSkp e s∧rSkp e s≤e.src.length:=by
  have h1:=skp_ge (e.src.drop s.pos) s.pos
  rw [List.length_drop] at h1
  unfold rSkp; omega
theorem rNext_inv {e:PE} {s s1:RS} {w:List UInt8} (hs:OkR e s) (h:rNext e s=(w,s1)):OkR e s1∧s1.dep=s.dep∧s1.pos+w.length≤e.src.length∧(s.er≠0→s1.er=s.er∧s1.wh=s.wh∧w=[]):=by
  have h1:=rSkp_rng hs.pos
  unfold rNext at h
  split at h
  · rename_i hc
    cases h
    exact ⟨⟨hs.len,h1.2,hs.d0,hs.d1,hs.d2⟩,rfl,by simpa using h1.2,fun _=>⟨rfl,rfl,rfl⟩⟩
  · rename_i hc
    have h0:s.er=0:=Decidable.byContradiction fun q=>hc (.inl q)
    split at h
    · cases h
      exact ⟨⟨hs.len,h1.2,hs.d0,hs.d1,fun q=>absurd q (by show (5:Int)≠0; omega)⟩,rfl,by simpa using h1.2,fun q=>absurd h0 q⟩
    · cases h
      have h2:=tok_le (e.src.drop (rSkp e s))
      rw [List.length_drop] at h2
      exact ⟨⟨hs.len,h1.2,hs.d0,hs.d1,hs.d2⟩,rfl,by show rSkp e s+_≤_; omega,fun q=>absurd h0 q⟩
theorem rTake_inv {e:PE} {w:List UInt8} {s s1:RS} {b:Bool} (hs:OkR e s) (h:rTake e w s=(b,s1)):OkR e s1∧s1.dep=s.dep∧(b=true→s1.er=0)∧(s.er≠0→s1.er=s.er∧s1.wh=s.wh∧b=false):=by
  unfold rTake at h
  obtain ⟨k1,k2,k3,k4⟩:=rNext_inv (w:=(rNext e s).1) (s1:=(rNext e s).2) hs rfl
  split at h
  · cases h
    exact ⟨k1,k2,(fun q=>by cases q),fun q=>⟨(k4 q).1,(k4 q).2.1,rfl⟩⟩
  · rename_i hc
    cases h
    have e1:(rNext e s).1=w:=Decidable.byContradiction fun q=>hc (.inl q)
    have e2:(rNext e s).2.er=0:=Decidable.byContradiction fun q=>hc (.inr q)
    rw [e1] at k3
    exact ⟨⟨k1.len,k3,k1.d0,k1.d1,k1.d2⟩,k2,fun _=>e2,fun q=>absurd ((k4 q).1 ▸ e2) q⟩
theorem rFail_er {s:RS} {x:Int} (hx:x≠0):(rFail s x).er≠0:=by
  unfold rFail; split
  · exact hx
  · assumption
theorem rFail_ok {e:PE} {s:RS} {x:Int} (hx:x≠0) (hl:e.src.length≤1048576) (hp:s.pos≤e.src.length) (h0:0≤s.dep) (h1:s.dep≤129):OkR e (rFail s x)∧(rFail s x).dep=s.dep:=by
  have:=rFail_er (s:=s) hx
  refine ⟨⟨hl,?_,?_,?_,fun q=>absurd q this⟩,?_⟩ <;> unfold rFail <;> split <;> first|assumption|rfl
theorem rOpen_inv {e:PE} {s:RS} (hs:OkR e s) (h0:s.er=0):OkR e (rOpen e s)∧(rOpen e s).dep=s.dep+1:=by
  obtain ⟨k1,k2,_,_⟩:=rNext_inv (w:=(rNext e s).1) (s1:=(rNext e s).2) hs rfl
  have h3:=hs.d2 h0
  unfold rOpen rUp
  split
  · obtain ⟨g1,g2⟩:=rFail_ok (e:=e) (s:={(rNext e s).2 with dep:=(rNext e s).2.dep+1}) (x:=16) (by omega) k1.len k1.pos (by have:=k1.d0; show 0≤(rNext e s).2.dep+1; omega) (by show (rNext e s).2.dep+1≤129; omega)
    exact ⟨g1,by rw [g2,← k2]⟩
  · rename_i hc
    exact ⟨⟨k1.len,k1.pos,by have:=k1.d0; show 0≤(rNext e s).2.dep+1; omega,by show (rNext e s).2.dep+1≤129; omega,fun _=>by show (rNext e s).2.dep+1≤128; omega⟩,by rw [← k2]⟩
def RKeeps (e:PE) (R:RS→Option (Fm×RS)):Prop:= ∀ s f s1,OkR e s→R s=some (f,s1)→OkR e s1∧s1.dep=s.dep
theorem rDn_inv {e:PE} {s s1:RS} (h:OkR e s1) (hd:s1.dep=s.dep+1) (h0:0≤s.dep):OkR e (rDn s1)∧(rDn s1).dep=s.dep:=
  ⟨⟨h.len,h.pos,by show 0≤s1.dep - 1; omega,by have:=h.d1; show s1.dep - 1≤129; omega,fun _=>by have:=h.d1; show s1.dep - 1≤128; omega⟩,by show s1.dep - 1=_; omega⟩
theorem rMore_keeps {e : PE} {w : List UInt8} {R : RS → Option (Fm × RS)} (hR : RKeeps e R) : ∀ (k : Nat) (l : List Fm) (s : RS) (l1 : List Fm) (s1 : RS), OkR e s → rMore e w R k l s = some (l1, s1) → OkR e s1 ∧ s1.dep = s.dep
  |0,_,_,_,_,_,h=>by cases h
  | k + 1, l, s, l1, s1, hs, h => by
    rw [rMore] at h
    rcases hx:rTake e w s with ⟨b,s2⟩
    rw [hx] at h
    obtain ⟨k1,k2,_,_⟩:=rTake_inv hs hx
    cases b with
    |false=>cases h; exact ⟨k1,k2⟩
    | true =>
      simp only at h
      cases hy:R s2 with
      |none=>rw [hy] at h; cases h
      | some q =>
        obtain ⟨f,s3⟩:=q
        rw [hy] at h
        obtain ⟨k3,k4⟩:=hR _ _ _ k1 hy
        obtain ⟨k5,k6⟩:=rMore_keeps hR k _ _ _ _ k3 h
        exact ⟨k5,by omega⟩
theorem rSev_keeps {e:PE} {w:List UInt8} {op:Int} {R:RS→Option (Fm×RS)} {k:Nat} (hR:RKeeps e R):RKeeps e (rSev e w op R k):=by
  intro s f s1 hs h
  unfold rSev at h
  cases hx:R s with
  |none=>rw [hx] at h; cases h
  | some q =>
    obtain ⟨g,s2⟩:=q
    rw [hx] at h
    obtain ⟨k1,k2⟩:=hR _ _ _ hs hx
    simp only at h
    cases hy:rMore e w R k [g] s2 with
    |none=>rw [hy] at h; cases h
    | some q =>
      obtain ⟨l,s3⟩:=q
      rw [hy] at h
      cases h
      obtain ⟨k3,k4⟩:=rMore_keeps hR k _ _ _ _ k1 hy
      exact ⟨k3,by omega⟩
theorem rMap_keeps {e:PE} {g:Fm→Fm} {o:Option (Fm×RS)} {s s1:RS} {f:Fm} (ho: ∀ f s1,o=some (f,s1)→OkR e s1∧s1.dep=s.dep) (h:rMap g o=some (f,s1)):OkR e s1∧s1.dep=s.dep:=by
  cases o with
  |none=>cases h
  |some q=>obtain ⟨f0,s0⟩:=q; cases h; exact ho _ _ rfl
theorem rMapD_keeps {e:PE} {g:Fm→Fm} {o:Option (Fm×RS)} {s s1:RS} {f:Fm} (h0:0≤s.dep) (ho: ∀ f s1,o=some (f,s1)→OkR e s1∧s1.dep=s.dep+1) (h:rMapD g o=some (f,s1)):OkR e s1∧s1.dep=s.dep:=by
  cases o with
  |none=>cases h
  |some q=>obtain ⟨f0,s0⟩:=q; cases h; obtain ⟨a,b⟩:=ho _ _ rfl; exact rDn_inv a b h0
theorem rClose_inv {e:PE} {s:RS} (hs:OkR e s):OkR e (rClose e s)∧(rClose e s).dep=s.dep:=by
  unfold rClose
  rcases hx:rTake e [41] s with ⟨b,s1⟩
  obtain ⟨k1,k2,_,_⟩:=rTake_inv hs hx
  cases b with
  |true=>exact ⟨k1,k2⟩
  | false =>
    obtain ⟨j1,j2,_,_⟩:=rNext_inv (w:=(rNext e s1).1) (s1:=(rNext e s1).2) k1 rfl
    obtain ⟨g1,g2⟩:=rFail_ok (e:=e) (s:=(rNext e s1).2) (x:=5) (by omega) j1.len j1.pos j1.d0 j1.d1
    exact ⟨g1,by rw [g2]; omega⟩
theorem rAtom_inv {e:PE} {t:List UInt8} {s:RS} (hs:OkR e s) (ht:s.pos+t.length≤e.src.length):OkR e (rAtom e t s).2∧(rAtom e t s).2.dep=s.dep:=by
  have hf: ∀ x:Int,x≠0→OkR e (rFail s x)∧(rFail s x).dep=s.dep:=fun x hx=>rFail_ok hx hs.len hs.pos hs.d0 hs.d1
  unfold rAtom
  split
  · split
    · exact ⟨⟨hs.len,ht,hs.d0,hs.d1,hs.d2⟩,rfl⟩
    · exact hf 8 (by omega)
  · split
    · split
      · exact ⟨⟨hs.len,ht,hs.d0,hs.d1,hs.d2⟩,rfl⟩
      · exact hf 8 (by omega)
    · exact hf 5 (by omega)
def adv (s:RS) (w:List UInt8):RS:={s with pos:=s.pos+w.length}
theorem rNext_idem {e : PE} {s s1 : RS} {t : List UInt8} (h : rNext e s = (t, s1)) (h0 : s1.er = 0) : rNext e s1 = (t, s1) := by
  have hfix: ∀ (l:List UInt8) (p:Nat),∀ (q:Nat),skp l p=p+q→skp (l.drop q) (p+q)=p+q:=by
    intro l
    induction l with
    |nil=>intro p q h; simp [skp]
    | cons c l ih =>
      intro p q h
      rw [skp] at h
      split at h
      · rename_i hc
        have h1:=skp_ge l (p+1)
        obtain ⟨q',rfl⟩: ∃ q',q=q'+1:=⟨q - 1,by omega⟩
        have:=ih (p+1) q' (by rw [h]; omega)
        rw [List.drop_succ_cons,show p+(q'+1)=p+1+q' by omega]; exact this
      · rename_i hc
        have:q=0:=by omega
        subst this
        rw [List.drop_zero,Nat.add_zero,skp,if_neg hc]
  have hp: ∀ p,p=rSkp e s→skp (e.src.drop p) p=p:=fun p hp=>by
    have h1:=(skp_ge (e.src.drop s.pos) s.pos).1
    obtain ⟨q,hq⟩: ∃ q,rSkp e s=s.pos+q:=⟨rSkp e s - s.pos,by unfold rSkp at hp ⊢; omega⟩
    have:=hfix (e.src.drop s.pos) s.pos q hq
    rw [List.drop_drop] at this
    rw [hp,hq]; exact this
  unfold rNext at h
  split at h
  · rename_i hc
    cases h
    have e0:s.er=0:=h0
    have e1:rSkp e s=e.src.length:=by rcases hc with hc|hc; exact absurd e0 hc; exact hc
    unfold rNext
    have e2:rSkp e {s with pos:=rSkp e s}=rSkp e s:=hp _ rfl
    simp only [e2]
    rw [if_pos (.inr e1)]
  · rename_i hc
    split at h
    · cases h; exact absurd h0 (by show ¬(5:Int)=0; omega)
    · rename_i ht
      cases h
      unfold rNext
      have e2:rSkp e {s with pos:=rSkp e s}=rSkp e s:=hp _ rfl
      simp only [e2]
      rw [if_neg hc,if_neg ht]
theorem rTake_idem {e:PE} {s s1:RS} {t w:List UInt8} (h:rNext e s=(t,s1)) (h0:s1.er=0):rTake e w s1=if t=w then (true,adv s1 w) else (false,s1):=by
  unfold rTake
  rw [rNext_idem h h0]
  by_cases ht:t=w
  · rw [if_pos ht,if_neg (by simp [ht,h0])]; rfl
  · rw [if_neg ht,if_pos (.inl ht)]
def rUn (e:PE) (k:Nat) (t:List UInt8) (s:RS):Option (Fm×RS):=
  if t=[33] then rMap (fun g=>.nd 4 0 [g]) (rF e k .bel (adv s [33]))
  else if t=[88] then rMap (fun g=>.nd 7 0 [g]) (rF e k .bel (adv s [88]))
  else if t=[78] then rMap (fun g=>.nd 9 0 [g]) (rF e k .bel (adv s [78]))
  else if t=[70] then rMap (fun g=>.nd 8 0 [fT,g]) (rF e k .bel (adv s [70]))
  else if t=[71] then rMap (fun g=>.nd 10 0 [fF,g]) (rF e k .bel (adv s [71]))
  else if t=wTr then some (fT,adv s wTr)
  else if t=wFa then some (fF,adv s wFa)
  else if t=[40] then rClo e (if (rOpen e (adv s [40])).er=0 then rF e k .form (rOpen e (adv s [40])) else some (fZ,rOpen e (adv s [40])))
  else some (rAtom e t s)
theorem rF_un (e : PE) (k : Nat) (s : RS) : rF e (k + 1) .un s = if (rNext e s).2.er ≠ 0 then some (fZ, (rNext e s).2) else rUn e k (rNext e s).1 (rNext e s).2 := by
  rcases hx:rNext e s with ⟨t,s1⟩
  rw [rF,hx]
  simp only
  by_cases h0:s1.er≠0
  · rw [if_pos h0,if_pos h0]
  · have h0':s1.er=0:=Decidable.not_not.1 h0
    rw [if_neg h0,if_neg h0]
    have tk: ∀ w,rTake e w s1=if t=w then (true,adv s1 w) else (false,s1):=fun w=>rTake_idem hx h0'
    unfold rUn
    simp only [tk]
    by_cases q1:t=[33]
    · simp only [if_pos q1,tk]
    · simp only [if_neg q1, tk]
      by_cases q2:t=[88]
      · simp only [if_pos q2,tk]
      · simp only [if_neg q2, tk]
        by_cases q3:t=[78]
        · simp only [if_pos q3,tk]
        · simp only [if_neg q3,tk]
          by_cases q4:t=[70]
          · simp only [if_pos q4,tk]
          · simp only [if_neg q4,tk]
            by_cases q5:t=[71]
            · simp only [if_pos q5,tk]
            · simp only [if_neg q5,tk]
              by_cases q6:t=wTr
              · simp only [if_pos q6,tk]
              · simp only [if_neg q6,tk]
                by_cases q7:t=wFa
                · simp only [if_pos q7,tk]
                · simp only [if_neg q7,tk]
                  by_cases q8:t=[40]
                  · simp only [if_pos q8,tk]
                  · simp only [if_neg q8,tk]
theorem adv_ok {e:PE} {s:RS} {t:List UInt8} (hs:OkR e s) (ht:s.pos+t.length≤e.src.length):OkR e (adv s t):=⟨hs.len,ht,hs.d0,hs.d1,hs.d2⟩
theorem rF_keeps (e : PE) : ∀ (k : Nat) (K : RK) (s : RS) (f : Fm) (s1 : RS), OkR e s → (K = .bel → s.er = 0) → rF e k K s = some (f, s1) → OkR e s1 ∧ s1.dep = s.dep
  |0,_=>fun _ _ _ _ _ h=>by cases h
  | k + 1, .form => fun s f s1 hs _ h => by
    rw [rF] at h
    cases hx:rF e k .disj s with
    |none=>rw [hx] at h; cases h
    | some q =>
      obtain ⟨g,s2⟩:=q
      rw [hx] at h
      obtain ⟨k1,k2⟩:=rF_keeps e k .disj _ _ _ hs (fun q=>by cases q) hx
      simp only at h
      rcases hy:rTake e [45,62] s2 with ⟨b,s3⟩
      rw [hy] at h
      obtain ⟨j1,j2,j3,_⟩:=rTake_inv k1 hy
      cases b with
      |false=>cases h; exact ⟨j1,by omega⟩
      | true =>
        obtain ⟨o1,o2⟩:=rOpen_inv j1 (j3 rfl)
        exact rMapD_keeps hs.d0 (fun f s1 q=>by obtain ⟨a,b⟩:=rF_keeps e k .form _ _ _ o1 (fun q=>by cases q) q; exact ⟨a,by omega⟩) h
  |k+1,.disj=>fun s f s1 hs _ h=>by rw [rF] at h; exact rSev_keeps (fun s f s1 a b=>rF_keeps e k .conj s f s1 a (fun q=>by cases q) b) _ _ _ hs h
  |k+1,.conj=>fun s f s1 hs _ h=>by rw [rF] at h; exact rSev_keeps (fun s f s1 a b=>rF_keeps e k .bin s f s1 a (fun q=>by cases q) b) _ _ _ hs h
  | k + 1, .bin => fun s f s1 hs _ h => by
    rw [rF] at h
    cases hx:rF e k .un s with
    |none=>rw [hx] at h; cases h
    | some q =>
      obtain ⟨g,s2⟩:=q
      rw [hx] at h
      obtain ⟨k1,k2⟩:=rF_keeps e k .un _ _ _ hs (fun q=>by cases q) hx
      simp only at h
      rcases hy:rTake e [85] s2 with ⟨b,s3⟩
      rw [hy] at h
      obtain ⟨j1,j2,j3,_⟩:=rTake_inv k1 hy
      cases b with
      | true =>
        obtain ⟨o1,o2⟩:=rOpen_inv j1 (j3 rfl)
        exact rMapD_keeps hs.d0 (fun f s1 q=>by obtain ⟨a,b⟩:=rF_keeps e k .bin _ _ _ o1 (fun q=>by cases q) q; exact ⟨a,by omega⟩) h
      | false =>
        simp only at h
        rcases hz:rTake e [82] s3 with ⟨b,s4⟩
        rw [hz] at h
        obtain ⟨l1,l2,l3,_⟩:=rTake_inv j1 hz
        cases b with
        | true =>
          obtain ⟨o1,o2⟩:=rOpen_inv l1 (l3 rfl)
          exact rMapD_keeps hs.d0 (fun f s1 q=>by obtain ⟨a,b⟩:=rF_keeps e k .bin _ _ _ o1 (fun q=>by cases q) q; exact ⟨a,by omega⟩) h
        |false=>cases h; exact ⟨l1,by omega⟩
  | k + 1, .bel => fun s f s1 hs h0 h => by
    rw [rF] at h
    obtain ⟨o1,o2⟩:=rOpen_inv hs (h0 rfl)
    split at h
    · exact rMapD_keeps hs.d0 (fun f s1 q=>by obtain ⟨a,b⟩:=rF_keeps e k .un _ _ _ o1 (fun q=>by cases q) q; exact ⟨a,by omega⟩) h
    · cases h; exact rDn_inv o1 o2 hs.d0
  | k + 1, .un => fun s f s1 hs _ h => by
    rw [rF_un] at h
    obtain ⟨k1,k2,k3,_⟩:=rNext_inv (w:=(rNext e s).1) (s1:=(rNext e s).2) hs rfl
    generalize (rNext e s).2=s2 at*
    generalize (rNext e s).1=t at*
    split at h
    · cases h; exact ⟨k1,k2⟩
    · rename_i h0
      have h0:s2.er=0:=Decidable.not_not.1 h0
      have hb: ∀ (w:List UInt8) (g:Fm→Fm),t=w→rMap g (rF e k .bel (adv s2 w))=some (f,s1)→OkR e s1∧s1.dep=s.dep:=fun w g hw h=>
        rMap_keeps (fun f s1 q=>by obtain ⟨a,b⟩:=rF_keeps e k .bel _ _ _ (adv_ok k1 (by rw [← hw]; exact k3)) (fun _=>h0) q; exact ⟨a,by rw [b]; exact k2⟩) h
      unfold rUn at h
      split at h
      · exact hb _ _ ‹_› h
      split at h
      · exact hb _ _ ‹_› h
      split at h
      · exact hb _ _ ‹_› h
      split at h
      · exact hb _ _ ‹_› h
      split at h
      · exact hb _ _ ‹_› h
      split at h
      · cases h; rename_i hw; exact ⟨adv_ok k1 (by rw [← hw]; exact k3),k2⟩
      split at h
      · cases h; rename_i hw; exact ⟨adv_ok k1 (by rw [← hw]; exact k3),k2⟩
      split at h
      · rename_i hw
        have ka:=adv_ok k1 (t:=[40]) (by rw [← hw]; exact k3)
        obtain ⟨o1,o2⟩:=rOpen_inv ka h0
        have o2':(rOpen e (adv s2 [40])).dep=s.dep+1:=by rw [o2,← k2]; rfl
        cases hq:(if (rOpen e (adv s2 [40])).er=0 then rF e k .form (rOpen e (adv s2 [40])) else some (fZ,rOpen e (adv s2 [40]))) with
        |none=>rw [hq] at h; cases h
        | some q =>
          obtain ⟨f0,s0⟩:=q
          rw [hq] at h
          cases h
          have:OkR e s0∧s0.dep=s.dep+1:=by
            split at hq
            · obtain ⟨a,b⟩:=rF_keeps e k .form _ _ _ o1 (fun q=>by cases q) hq; exact ⟨a,by omega⟩
            · cases hq; exact ⟨o1,o2'⟩
          obtain ⟨a,b⟩:=rDn_inv this.1 this.2 hs.d0
          obtain ⟨c,d⟩:=rClose_inv a
          exact ⟨c,by omega⟩
      · injection h with h
        obtain ⟨a,b⟩:=rAtom_inv k1 k3
        rw [h] at a b
        exact ⟨a,by rw [b]; exact k2⟩
end Go.Proofs.Ytdmcmkccifmofaa
namespace Go.Proofs.Ytdmcmkccifmofaa
open Go
abbrev arrP (src:List UInt8) (p n:Nat):Prop:=(((((((p+n))+1:Nat):Int)=((p+2:Nat):Int))∧((((nth src p).toNat:Nat):Int)=(45:Int)))∧((((p+n):Nat):Int) < ((src.length:Nat):Int)))∧((((nth src ((p+n))).toNat:Nat):Int)=(62:Int))
abbrev oneP (c:UInt8):Prop:=((((((c.toNat:Nat):Int)=(33:Int))∨(((c.toNat:Nat):Int)=(38:Int)))∨(((c.toNat:Nat):Int)=(124:Int)))∨(((c.toNat:Nat):Int)=(40:Int)))∨(((c.toNat:Nat):Int)=(41:Int))
theorem u8_of {c d:UInt8} (h:((c.toNat:Nat):Int)=((d.toNat:Nat):Int)):c=d:=UInt8.toNat_inj.1 (by omega)
theorem prB_arrow {l:List UInt8} {p:Nat} (h:p+1 < l.length) (h1:nth l p=45) (h2:nth l (p+1)=62):prB (l.drop p) [45,62]=true:=by
  unfold prB
  rw [nth_drop (show p < l.length by omega),nth_drop h,h1,h2]
  exact decide_eq_true ⟨by simp,rfl⟩
theorem of_arrow {l:List UInt8} {p:Nat} (h:prB (l.drop p) [45,62]=true):p+1 < l.length∧nth l p=45∧nth l (p+1)=62:=by
  have h:=of_decide_eq_true h
  have hl:p+1 < l.length:=by have:=h.1; rw [List.length_drop] at this; simp at this; omega
  refine ⟨hl,?_⟩
  have h2:=h.2
  rw [nth_drop (show p < l.length by omega),nth_drop hl] at h2
  injection h2 with a b
  injection b with b _
  exact ⟨a,b⟩
theorem wlen_arrow {l:List UInt8} {p:Nat} (h:prB (l.drop p) [45,62]=true):wlen (l.drop p)=1:=by
  obtain ⟨h1,h2,h3⟩:=of_arrow h
  rw [nth_drop (show p < l.length by omega),nth_drop h1,h2,h3]
  rfl
theorem one_iff {c:UInt8}:0≤Lib.indexByte [33,38,124,40,41] c↔oneP c:=by
  by_cases q1:c=33
  · subst q1; exact ⟨fun _=>.inl (.inl (.inl (.inl rfl))),fun _=>by decide⟩
  by_cases q2:c=38
  · subst q2; exact ⟨fun _=>.inl (.inl (.inl (.inr rfl))),fun _=>by decide⟩
  by_cases q3:c=124
  · subst q3; exact ⟨fun _=>.inl (.inl (.inr rfl)),fun _=>by decide⟩
  by_cases q4:c=40
  · subst q4; exact ⟨fun _=>.inl (.inr rfl),fun _=>by decide⟩
  by_cases q5:c=41
  · subst q5; exact ⟨fun _=>.inr rfl,fun _=>by decide⟩
  have n: ∀ d:UInt8,¬c=d→(d==c)=false:=fun d h=>beq_eq_false_iff_ne.2 fun e=>h e.symm
  have e:Lib.indexByte [33,38,124,40,41] c= -1:=by
    simp [Lib.indexByte,n _ q1,n _ q2,n _ q3,n _ q4,n _ q5]
  rw [e]
  refine ⟨fun h=>absurd h (by decide),?_⟩
  rintro ((((h|h)|h)|h)|h)
  · exact absurd (u8_of (d:=33) h) q1
  · exact absurd (u8_of (d:=38) h) q2
  · exact absurd (u8_of (d:=124) h) q3
  · exact absurd (u8_of (d:=40) h) q4
  · exact absurd (u8_of (d:=41) h) q5
theorem one_wby {c:UInt8} (h:0≤Lib.indexByte [33,38,124,40,41] c):wby c=false:=by
  have h:=one_iff.1 h
  have key: ∀ d:UInt8,wby d=false→((c.toNat:Nat):Int)=((d.toNat:Nat):Int)→wby c=false:=fun d hd h=>by rw [u8_of h]; exact hd
  rcases h with (((h|h)|h)|h)|h
  · exact key 33 (by decide) h
  · exact key 38 (by decide) h
  · exact key 124 (by decide) h
  · exact key 40 (by decide) h
  · exact key 41 (by decide) h
section
variable {e:PE} {s:RS} {p n:Nat}
theorem rNext_eof (h:rSkp e s=p) (hc:s.er≠0∨p=e.src.length):rNext e s=([],⟨p,s.dep,s.er,s.wh⟩):=by
  unfold rNext; rw [h,if_pos hc]
theorem rNext_tok {w:List UInt8} (h:rSkp e s=p) (d:s.er=0∧p < e.src.length) (ht:tok (e.src.drop p)=w) (hw:w≠[]):rNext e s=(w,⟨p,s.dep,s.er,s.wh⟩):=by
  unfold rNext
  rw [h,if_neg (by rintro (q|q) <;> omega),ht,if_neg hw]
theorem drop_ne (d:s.er=0∧p < e.src.length):e.src.drop p≠[]:=by
  intro h
  have:=congrArg List.length h
  rw [List.length_drop] at this
  simp at this; omega
theorem not_arr (hn:wlen (e.src.drop p)=n) (d3: ¬arrP e.src p n): ¬prB (e.src.drop p) [45,62]=true:=fun h=>by
  have h0:=wlen_arrow h
  obtain ⟨h1,h2,h3⟩:=of_arrow h
  have:n=1:=by omega
  subst this
  exact d3 ⟨⟨⟨by omega,by rw [h2]; rfl⟩,by omega⟩,by rw [h3]; rfl⟩
theorem nth_d0 {l:List UInt8} {p:Nat} (h:p < l.length):nth (l.drop p) 0=nth l p:=by rw [nth_drop h]; rfl
theorem rNext_arrow (h:rSkp e s=p) (d:s.er=0∧p < e.src.length) (d3:arrP e.src p n):rNext e s=([45,62],⟨p,s.dep,s.er,s.wh⟩):=by
  obtain ⟨⟨⟨a,b⟩,c⟩,f⟩:=d3
  have hn:n=1:=by omega
  subst hn
  exact rNext_tok h d (tok_arrow (drop_ne d) (prB_arrow (by omega) (u8_of b) (u8_of f))) (by simp)
theorem rNext_word (h:rSkp e s=p) (d:s.er=0∧p < e.src.length) (d3: ¬arrP e.src p n) (hn:wlen (e.src.drop p)=n) (d4:((p:Nat):Int) < (((p+n):Nat):Int)):rNext e s=((e.src.take (p+n)).drop p,⟨p,s.dep,s.er,s.wh⟩):=by
  have h0:0 < n:=by omega
  have hw:wby (nth e.src p)=true:=by
    rw [nth_drop d.2,wlen] at hn
    split at hn
    · assumption
    · omega
  have e1:(e.src.take (p+n)).drop p=(e.src.drop p).take n:=by rw [List.drop_take]; congr 1; omega
  rw [e1]
  refine rNext_tok h d (tok_word (drop_ne d) (not_arr hn d3) (fun q=>?_) hn) (take_ne (drop_ne d) (by omega))
  rw [nth_d0 d.2] at q
  rw [one_wby q] at hw; cases hw
theorem rNext_one (h:rSkp e s=p) (d:s.er=0∧p < e.src.length) (d3: ¬arrP e.src p n) (hn:wlen (e.src.drop p)=n) (d4: ¬((p:Nat):Int) < (((p+n):Nat):Int)) (d6:oneP (nth e.src p)):rNext e s=([nth e.src p],⟨p,s.dep,s.er,s.wh⟩):=by
  refine rNext_tok h d ?_ (by simp)
  rw [tok_one (drop_ne d) (not_arr hn d3) (by rw [nth_d0 d.2]; exact one_iff.2 d6),nth_drop d.2]
  rfl
theorem rNext_bad (h:rSkp e s=p) (d:s.er=0∧p < e.src.length) (d3: ¬arrP e.src p n) (hn:wlen (e.src.drop p)=n) (d4: ¬((p:Nat):Int) < (((p+n):Nat):Int)) (d6: ¬oneP (nth e.src p)):rNext e s=([],rFail ⟨p,s.dep,s.er,s.wh⟩ 5):=by
  have ht:tok (e.src.drop p)=[]:=by
    rw [tok_word (drop_ne d) (not_arr hn d3) (fun q=>d6 (one_iff.1 (by rw [← nth_d0 d.2]; exact q))) hn,show n=0 by omega]; rfl
  unfold rNext
  rw [h,if_neg (by rintro (q|q) <;> omega),if_pos ht]
  unfold rFail
  rw [if_pos d.1]
end
theorem in_out {t:List UInt8} (h1:prB t wIn=true) (h2:prB t wOut=true):False:=by
  have h1:=(of_decide_eq_true h1).2
  have h2:=(of_decide_eq_true h2).2
  cases t with
  |nil=>simp at h1
  | cons a l =>
    simp at h1 h2
    rw [h1.1] at h2
    exact absurd h2.1 (by decide)
theorem rTake_no {e:PE} {s s':RS} {t w:List UInt8} (n:rNext e s=(t,s)) (h:rTake e w s=(false,s')):s'=s:=by
  unfold rTake at h
  rw [n] at h
  split at h
  · cases h; rfl
  · cases h
def rEnd (e:PE) (f:Fm) (s1:RS):Fm×Int×Int:=
  let s3:=if (rNext e s1).1≠[] then rFail (rNext e s1).2 5 else (rNext e s1).2
  if s3.er≠0 then (fZ,(s3.wh:Int),s3.er) else if fval f≠0 then (fZ,((e.src.length:Nat):Int),fval f) else (f,0,0)
def rs0:RS:=⟨0,0,0,0⟩
def rprsE (e:PE):Fm×Int×Int:=match rF e (2*fuE e+8) .form rs0 with
  |none=>(fZ,0,0)
  |some (f,s1)=>rEnd e f s1
def rprs (ia oa:List (List UInt8)) (src:List UInt8):Fm×Int×Int:=
  if aval ia≠0 then (fZ,0,aval ia) else if aval oa≠0 then (fZ,0,aval oa) else if 1048576 < src.length then (fZ,0,3) else rprsE ⟨ia,oa,src⟩
end Go.Proofs.Ytdmcmkccifmofaa
namespace Go.Proofs.Ytdmcmkccifmofaa
open Go
structure Rel (e:PE) (s:PS) (r:RS):Prop where
  er:r.er=0
  dep:r.dep=(s.dep:Int)
  pos:rSkp e r=s.pos
  tk:tok (e.src.drop s.pos)=s.wd
  nb:e.src.drop s.pos=[]∨s.wd≠[]
def Hard (a:Nat) (x:Int) (r:RS):Prop:=r.er=x∧r.wh=a∧x≠0
def Pend (e:PE) (a:Nat) (x:Int) (r:RS):Prop:=r.er=0∧x=5∧rSkp e r=a∧e.src.drop a≠[]∧tok (e.src.drop a)=[]
def Bad (e:PE) (a:Nat) (x:Int) (r:RS):Prop:=Hard a x r∨Pend e a x r
def Out (e:PE):PR Fm→Fm→RS→Prop
  | .ok g s,f,r=>f=g∧Rel e s r
  | .er a x,_,r=>Bad e a x r
section
variable {e:PE} {s s1:PS} {r:RS} {a:Nat} {x:Int}
theorem drop_nil_iff (hp:s.pos≤e.src.length):e.src.drop s.pos=[]↔s.pos=e.src.length:=by
  rw [List.drop_eq_nil_iff]; omega
theorem skp_fix: ∀ (l:List UInt8) (p q:Nat),skp l p=p+q→skp (l.drop q) (p+q)=p+q:=by
  intro l
  induction l with
  |nil=>intro p q h; simp [skp]
  | cons c l ih =>
    intro p q h
    rw [skp] at h
    split at h
    · rename_i hc
      have h1:=skp_ge l (p+1)
      obtain ⟨q',rfl⟩: ∃ q',q=q'+1:=⟨q - 1,by omega⟩
      have:=ih (p+1) q' (by rw [h]; omega)
      rw [List.drop_succ_cons,show p+(q'+1)=p+1+q' by omega]; exact this
    · rename_i hc
      have:q=0:=by omega
      subst this
      rw [List.drop_zero,Nat.add_zero,skp,if_neg hc]
theorem rSkp_fix {r':RS} (h:r'.pos=rSkp e r):rSkp e r'=rSkp e r:=by
  have h1:=(skp_ge (e.src.drop r.pos) r.pos).1
  obtain ⟨q,hq⟩: ∃ q,rSkp e r=r.pos+q:=⟨rSkp e r - r.pos,by unfold rSkp; omega⟩
  have:=skp_fix (e.src.drop r.pos) r.pos q hq
  rw [List.drop_drop,← hq] at this
  unfold rSkp at*
  rw [h]; exact this
theorem Rel.next (h:Rel e s r) (hs:OkS e s):rNext e r=(s.wd,{r with pos:=s.pos}):=by
  have hp:s.pos≤e.src.length:=by have:=hs.pos; omega
  unfold rNext
  rw [h.pos]
  by_cases hl:s.pos=e.src.length
  · rw [if_pos (.inr hl),← h.tk,(drop_nil_iff hp).2 hl]; rfl
  · have hn:s.wd≠[]:=by
      rcases h.nb with q|q
      · exact absurd ((drop_nil_iff hp).1 q) hl
      · exact q
    rw [if_neg (by rintro (q|q); exact q h.er; exact hl q),h.tk,if_neg hn]
theorem Rel.same (h:Rel e s r):Rel e s {r with pos:=s.pos}:=
  ⟨h.er,h.dep,by rw [rSkp_fix (r:=r) (by rw [h.pos]),h.pos],h.tk,h.nb⟩
theorem Rel.take (h:Rel e s r) (hs:OkS e s) (w:List UInt8):rTake e w r=if s.wd=w then (true,{r with pos:=s.pos+w.length}) else (false,{r with pos:=s.pos}):=by
  unfold rTake
  rw [h.next hs]
  by_cases q:s.wd=w
  · rw [if_pos q,if_neg (by rintro (q'|q'); exact q' q; exact q' h.er)]
  · rw [if_neg q,if_pos (.inl q)]
theorem Rel.adv_ok {u:Unit} (h:Rel e s r) (hx:pNext e s=.ok u s1) {r':RS} (hp:r'.pos=s.pos+s.wd.length) (he:r'.er=0) (hd:r'.dep=r.dep):Rel e s1 r':=by
  unfold pNext at hx
  simp only at hx
  have e1:rSkp e r'=skp (e.src.drop (s.pos+s.wd.length)) (s.pos+s.wd.length):=by unfold rSkp; rw [hp]
  split at hx
  · cases hx
  · rename_i hc
    cases hx
    refine ⟨he,by rw [hd,h.dep],e1,rfl,?_⟩
    exact Decidable.byContradiction fun q=>hc ⟨fun q'=>q (.inl q'),Decidable.byContradiction fun q'=>q (.inr q')⟩
theorem Rel.adv_er (_h:Rel e s r) (hx:pNext e s=.er a x) {r':RS} (hp:r'.pos=s.pos+s.wd.length) (he:r'.er=0):Pend e a x r':=by
  unfold pNext at hx
  simp only at hx
  have e1:rSkp e r'=skp (e.src.drop (s.pos+s.wd.length)) (s.pos+s.wd.length):=by unfold rSkp; rw [hp]
  split at hx
  · rename_i hc
    cases hx
    exact ⟨he,rfl,e1,hc.1,hc.2⟩
  · cases hx
theorem Hard.next (h:Hard a x r): ∃ r',rNext e r=([],r')∧Hard a x r'∧r'.dep=r.dep:=by
  refine ⟨{r with pos:=rSkp e r},?_,h,rfl⟩
  unfold rNext
  rw [if_pos (.inl (by rw [h.1]; exact h.2.2))]
theorem Bad.next (h:Bad e a x r) (hp:r.pos≤e.src.length): ∃ r',rNext e r=([],r')∧Hard a x r'∧r'.dep=r.dep:=by
  rcases h with h|⟨h1,h2,h3,h4,h5⟩
  · exact h.next
  · refine ⟨{r with pos:=rSkp e r,er:=5,wh:=rSkp e r},?_,⟨h2.symm,h3,by rw [h2]; decide⟩,rfl⟩
    unfold rNext
    have:rSkp e r≠e.src.length:=fun q=>h4 (by rw [← h3,q]; simp)
    rw [if_neg (by rintro (q|q); exact q h1; exact this q),h3,if_pos h5,← h3]
theorem Bad.take (h:Bad e a x r) (hp:r.pos≤e.src.length) (w:List UInt8): ∃ r',rTake e w r=(false,r')∧Hard a x r'∧r'.dep=r.dep:=by
  obtain ⟨r',h1,h2,h3⟩:=h.next hp
  refine ⟨r',?_,h2,h3⟩
  unfold rTake
  rw [h1,if_pos (.inr (by rw [h2.1]; exact h2.2.2))]
theorem Hard.fail (h:Hard a x r) (y:Int):rFail r y=r:=by
  unfold rFail; rw [if_neg (by rw [h.1]; exact h.2.2)]
theorem Hard.up (h:Hard a x r):Hard a x (rUp r):=by
  unfold rUp
  split
  · rw [Hard.fail (a:=a) (x:=x) (r:={r with dep:=r.dep+1}) h]; exact h
  · exact h
end
def BadRun (e:PE) (R:RS→Option (Fm×RS)):Prop:= ∀ a x r,OkR e r→Bad e a x r→ ∃ f r1,R r=some (f,r1)∧Hard a x r1
theorem bad_un (e:PE) (m:Nat):BadRun e (rF e (m+1) .un):=fun a x r hr h=>by
  obtain ⟨r',h1,h2,_⟩:=h.next hr.pos
  refine ⟨fZ,r',?_,h2⟩
  rw [rF_un,h1,if_pos (by rw [h2.1]; exact h2.2.2)]
theorem bad_bin (e:PE) (m:Nat):BadRun e (rF e (m+2) .bin):=fun a x r hr h=>by
  obtain ⟨f,r1,h1,h2⟩:=bad_un e m a x r hr h
  obtain ⟨k1,_⟩:=rF_keeps e _ .un _ _ _ hr (fun q=>by cases q) h1
  obtain ⟨r2,h3,h4,_⟩:=Bad.take (.inl h2) k1.pos [85]
  obtain ⟨k2,_,_,_⟩:=rTake_inv k1 h3
  obtain ⟨r3,h5,h6,_⟩:=Bad.take (.inl h4) k2.pos [82]
  exact ⟨f,r3,by rw [rF,h1]; simp only [h3,h5],h6⟩
theorem bad_sev {e:PE} {w:List UInt8} {op:Int} {R:RS→Option (Fm×RS)} {k:Nat} (hR:BadRun e R) (hK:RKeeps e R):BadRun e (rSev e w op R (k+1)):=fun a x r hr h=>by
  obtain ⟨f,r1,h1,h2⟩:=hR a x r hr h
  obtain ⟨k1,_⟩:=hK _ _ _ hr h1
  obtain ⟨r2,h3,h4,_⟩:=Bad.take (.inl h2) k1.pos w
  exact ⟨oneOr op [f],r2,by rw [rSev,h1]; simp only [rMore,h3,rFin],h4⟩
theorem keeps_of (e:PE) (m:Nat) (K:RK) (hK:K≠.bel):RKeeps e (rF e m K):=fun s f s1 hs h=>rF_keeps e m K s f s1 hs (fun q=>absurd q hK) h
theorem bad_conj (e:PE) (m:Nat):BadRun e (rF e (m+3) .conj):=fun a x r hr h=>by
  rw [rF]; exact bad_sev (k:=m+1) (bad_bin e m) (keeps_of e _ _ (by simp)) a x r hr h
theorem bad_disj (e:PE) (m:Nat):BadRun e (rF e (m+4) .disj):=fun a x r hr h=>by
  rw [rF]; exact bad_sev (k:=m+2) (bad_conj e m) (keeps_of e _ _ (by simp)) a x r hr h
theorem bad_form (e:PE) (m:Nat):BadRun e (rF e (m+5) .form):=fun a x r hr h=>by
  obtain ⟨f,r1,h1,h2⟩:=bad_disj e m a x r hr h
  obtain ⟨k1,_⟩:=rF_keeps e _ .disj _ _ _ hr (fun q=>by cases q) h1
  obtain ⟨r2,h3,h4,_⟩:=Bad.take (.inl h2) k1.pos [45,62]
  exact ⟨f,r2,by rw [rF,h1]; simp only [h3],h4⟩
def Alike (e:PE) (R:PS→Option (PR Fm)) (RR:RS→Option (Fm×RS)):Prop:= ∀ s r pr,OkS e s→OkR e r→Rel e s r→R s=some pr→ ∃ f r1,RR r=some (f,r1)∧Out e pr f r1
theorem more_out {e : PE} {w : List UInt8} {R : PS → Option (PR Fm)} {RR : RS → Option (Fm × RS)} (hA : Alike e R RR) (hB : BadRun e RR) (hK : Keeps e R) (hKK : RKeeps e RR) :
    ∀ (k m : Nat), k + 2 ≤ m → ∀ (l : List Fm) (s : PS) (r : RS) (pr : PR (List Fm)), OkS e s → OkR e r → Rel e s r → pMore e w R k l s = some pr →
      ∃ l1 r1,rMore e w RR m l r=some (l1,r1)∧(match pr with| .ok l2 s1=>l1=l2∧Rel e s1 r1| .er a x=>Bad e a x r1)
  |0,_,_,_,_,_,_,_,_,_,h=>by cases h
  | k + 1, m, hm, l, s, r, pr, hs, hr, hrel, h => by
    obtain ⟨m,rfl⟩: ∃ j,m=j+1:=⟨m - 1,by omega⟩
    obtain ⟨m,rfl⟩: ∃ j,m=j+1:=⟨m - 1,by omega⟩
    rw [pMore] at h
    have ht:=hrel.take hs w
    have hinv:=rTake_inv (s1:=(rTake e w r).2) (b:=(rTake e w r).1) hr rfl
    by_cases q:s.wd=w
    · rw [if_pos q] at h ht
      rw [ht] at hinv
      obtain ⟨k1,k2,_,_⟩:=hinv
      -- a fault behind the token,or in what is read
      have bad: ∀ a x r2 f,OkR e r2→Bad e a x r2→RR {r with pos:=s.pos+w.length}=some (f,r2)→ ∃ l1 r1,rMore e w RR (m+1+1) l r=some (l1,r1)∧Bad e a x r1:=fun a x r2 f hr2 hb hq=>by
        obtain ⟨r3,h3,h4,_⟩:=hb.take hr2.pos w
        exact ⟨l++[f],r3,by rw [rMore,ht]; simp only [hq]; rw [rMore,h3],.inl h4⟩
      cases hx:pNext e s with
      | er a x =>
        rw [hx] at h
        cases h
        have hp:=hrel.adv_er hx (r':={r with pos:=s.pos+w.length}) (by rw [q]) hrel.er
        obtain ⟨f,r2,h1,h2⟩:=hB a x _ k1 (.inr hp)
        exact bad a x r2 f (hKK _ _ _ k1 h1).1 (.inl h2) h1
      | ok u s1 =>
        rw [hx] at h
        simp only at h
        obtain ⟨j1,j2,_⟩:=pNext_inv hs hx
        have hrel1:=hrel.adv_ok hx (r':={r with pos:=s.pos+w.length}) (by rw [q]) hrel.er rfl
        cases hy:R s1 with
        |none=>rw [hy] at h; cases h
        | some p1 =>
          rw [hy] at h
          obtain ⟨f,r2,h1,h2⟩:=hA s1 _ p1 j1 k1 hrel1 hy
          obtain ⟨k3,_⟩:=hKK _ _ _ k1 h1
          cases p1 with
          | er a x =>
            cases h
            exact bad a x r2 f k3 h2 h1
          | ok g s2 =>
            obtain ⟨rfl,hrel2⟩:=h2
            obtain ⟨j3,_⟩:=hK _ _ _ j1 hy
            obtain ⟨l1,r1,h3,h4⟩:=more_out hA hB hK hKK k (m+1) (by omega) (l++[f]) s2 r2 pr j3 k3 hrel2 h
            exact ⟨l1,r1,by rw [rMore,ht]; simp only [h1]; exact h3,h4⟩
    · rw [if_neg q] at h ht
      cases h
      exact ⟨l,_,by rw [rMore,ht],rfl,hrel.same⟩
theorem sev_out {e : PE} {w : List UInt8} {op : Int} {R : PS → Option (PR Fm)} {RR : RS → Option (Fm × RS)} (hA : Alike e R RR) (hB : BadRun e RR) (hK : Keeps e R) (hKK : RKeeps e RR) {k m : Nat} (hm : k + 2 ≤ m) :
    Alike e (pSev e w op R k) (rSev e w op RR m):=fun s r pr hs hr hrel h=>by
  unfold pSev at h
  cases hx:R s with
  |none=>rw [hx] at h; cases h
  | some p1 =>
    rw [hx] at h
    obtain ⟨f,r1,h1,h2⟩:=hA s r p1 hs hr hrel hx
    obtain ⟨k1,_⟩:=hKK _ _ _ hr h1
    cases p1 with
    | er a x =>
      cases h
      obtain ⟨m,rfl⟩: ∃ j,m=j+1:=⟨m - 1,by omega⟩
      obtain ⟨r2,h3,h4,_⟩:=Bad.take h2 k1.pos w
      exact ⟨oneOr op [f],r2,by rw [rSev,h1]; simp only [rMore,h3,rFin],.inl h4⟩
    | ok g s1 =>
      obtain ⟨rfl,hrel1⟩:=h2
      obtain ⟨j1,_⟩:=hK _ _ _ hs hx
      simp only at h
      cases hy:pMore e w R k [f] s1 with
      |none=>rw [hy] at h; cases h
      | some p2 =>
        rw [hy] at h
        obtain ⟨l1,r2,h3,h4⟩:=more_out hA hB hK hKK k m hm [f] s1 r1 p2 j1 k1 hrel1 hy
        refine ⟨oneOr op l1,r2,by rw [rSev,h1]; simp only [h3,rFin],?_⟩
        cases p2 with
        |er a x=>cases h; exact h4
        |ok l2 s2=>cases h; exact ⟨by rw [h4.1],h4.2⟩
theorem open_out {e:PE} {s:PS} {r r':RS} (hs:OkS e s) (hr':OkR e r') (hrel:Rel e s r) (hp:r'.pos=s.pos+s.wd.length) (he:r'.er=0) (hd:r'.dep=r.dep):
    (∃ a x,Hard a x (rOpen e r')∧ ∀ R,pPart e R s=some (.er a x))∨
    (∃ s1,OkS e s1∧Rel e s1 (rOpen e r')∧s1.dep=s.dep+1∧ ∀ R,pPart e R s=match R s1 with
      |none=>none
      |some (.er a x)=>some (.er a x)
      |some (.ok f s2)=>some (.ok f {s2 with dep:=s2.dep - 1})):=by
  cases hx:pNext e s with
  | er a x =>
    left
    have hpd:=hrel.adv_er hx hp he
    obtain ⟨r2,h1,h2,_⟩:=Bad.next (.inr hpd) hr'.pos
    exact ⟨a,x,by unfold rOpen; rw [h1]; exact h2.up,fun R=>by rw [pPart,hx]⟩
  | ok u s1 =>
    obtain ⟨j1,j2,_⟩:=pNext_inv hs hx
    have hrel1:=hrel.adv_ok hx hp he hd
    have hn:=hrel1.next j1
    have hdep:r'.dep=(s1.dep:Int):=hrel1.dep
    by_cases q:128 < s1.dep+1
    · left
      refine ⟨s1.pos,16,?_,fun R=>by rw [pPart,hx]; simp only [if_pos q]⟩
      unfold rOpen rUp
      rw [hn,if_pos (by show 128 < r'.dep+1; omega)]
      unfold rFail
      rw [if_pos he]
      exact ⟨rfl,rfl,by decide⟩
    · right
      refine ⟨{s1 with dep:=s1.dep+1},⟨j1.len,j1.pos,by show s1.dep+1≤128; omega⟩,?_,by show s1.dep+1=_; omega,fun R=>by rw [pPart,hx]; simp only [if_neg q]; rfl⟩
      unfold rOpen rUp
      rw [hn,if_neg (by show ¬128 < r'.dep+1; omega)]
      exact ⟨he,by show r'.dep+1=((s1.dep+1:Nat):Int); omega,hrel1.same.pos,hrel1.tk,hrel1.nb⟩
theorem dn_rel {e:PE} {s:PS} {r:RS} (h:Rel e s r) (hd:1≤s.dep):Rel e {s with dep:=s.dep - 1} (rDn r):=
  ⟨h.er,by show r.dep - 1=((s.dep - 1:Nat):Int); have:=h.dep; omega,h.pos,h.tk,h.nb⟩
theorem dn_bad {e:PE} {a:Nat} {x:Int} {r:RS} (h:Bad e a x r):Bad e a x (rDn r):=h
theorem part_out {e : PE} {s : PS} {r r' : RS} {R : PS → Option (PR Fm)} {RR : RS → Option (Fm × RS)} (hA : Alike e R RR) (hB : BadRun e RR) (hK : Keeps e R) (g : Fm → Fm) (hs : OkS e s) (hr' : OkR e r') (hrel : Rel e s r) (hp : r'.pos = s.pos + s.wd.length) (he : r'.er = 0) (hd : r'.dep = r.dep)
    {pr:PR Fm} (h:mapP g (pPart e R s)=some pr): ∃ f r1,rMapD g (RR (rOpen e r'))=some (f,r1)∧Out e pr f r1:=by
  obtain ⟨o1,o2⟩:=rOpen_inv hr' he
  rcases open_out hs hr' hrel hp he hd with ⟨a,x,h1,h2⟩|⟨s1,h1,h2,h3,h4⟩
  · rw [h2] at h
    cases h
    obtain ⟨f,r1,h5,h6⟩:=hB a x _ o1 (.inl h1)
    exact ⟨g f,rDn r1,by rw [h5]; rfl,dn_bad (.inl h6)⟩
  · rw [h4] at h
    cases hy:R s1 with
    |none=>rw [hy] at h; cases h
    | some p1 =>
      rw [hy] at h
      obtain ⟨f,r1,h5,h6⟩:=hA s1 _ p1 h1 o1 h2 hy
      refine ⟨g f,rDn r1,by rw [h5]; rfl,?_⟩
      cases p1 with
      |er a x=>cases h; exact dn_bad h6
      | ok f2 s2 =>
        cases h
        obtain ⟨rfl,h7⟩:=h6
        obtain ⟨_,k2⟩:=hK _ _ _ h1 hy
        exact ⟨rfl,dn_rel h7 (by omega)⟩
theorem rMap_D (g:Fm→Fm) (o:Option (Fm×RS)):rMap g (rMapD id o)=rMapD g o:=by
  cases o with
  |none=>rfl
  |some q=>rfl
theorem bel_out {e:PE} {k m:Nat} {s:PS} {r r':RS} (hA:Alike e (pF e k .un) (rF e (m+1) .un)) (g:Fm→Fm) (hs:OkS e s) (hr':OkR e r') (hrel:Rel e s r) (hp:r'.pos=s.pos+s.wd.length) (he:r'.er=0) (hd:r'.dep=r.dep)
    {pr:PR Fm} (h:mapP g (pPart e (pF e k .un) s)=some pr): ∃ f r1,rMap g (rF e (m+2) .bel r')=some (f,r1)∧Out e pr f r1:=by
  rw [rF]
  by_cases q:(rOpen e r').er=0
  · rw [if_pos q,rMap_D]
    exact part_out hA (bad_un e m) (pF_keeps e k .un) g hs hr' hrel hp he hd h
  · rw [if_neg q]
    rcases open_out hs hr' hrel hp he hd with ⟨a,x,h1,h2⟩|⟨s1,_,h2,_,_⟩
    · rw [h2] at h
      cases h
      exact ⟨_,_,rfl,dn_bad (.inl h1)⟩
    · exact absurd h2.er q
theorem close_out {e : PE} {p1 : PR Fm} {f : Fm} {r1 : RS} (hr : OkR e r1) (hs : ∀ g s1, p1 = .ok g s1 → OkS e s1) (h : Out e p1 f r1) {pr : PR Fm} (hp : (match p1 with
      | .er a x=>some (.er a x)
      | .ok f s1 => if s1.wd = [41] then match pNext e s1 with
          | .er a x=>some (.er a x)
          | .ok _ s2=>some (.ok f s2)
        else some (.er s1.pos 5))=some pr):Out e pr f (rClose e r1):=by
  cases p1 with
  | er a x =>
    cases hp
    obtain ⟨r2,h1,h2,_⟩:=Bad.take h hr.pos [41]
    obtain ⟨r3,h3,h4,_⟩:=h2.next
    have hc:rClose e r1=rFail (rNext e r2).2 5:=by unfold rClose; rw [h1]
    rw [hc,h3]
    show Out e (.er a x) f (rFail r3 5)
    rw [h4.fail]
    exact .inl h4
  | ok g s1 =>
    obtain ⟨rfl,hrel⟩:=h
    have j:=hs _ _ rfl
    have ht:=hrel.take j [41]
    simp only at hp
    unfold rClose
    by_cases q:s1.wd=[41]
    · rw [if_pos q] at hp ht
      rw [ht]
      simp only
      cases hx:pNext e s1 with
      |er a x=>rw [hx] at hp; cases hp; exact .inr (hrel.adv_er hx (by rw [q]) hrel.er)
      |ok u s2=>rw [hx] at hp; cases hp; exact ⟨rfl,hrel.adv_ok hx (by rw [q]) hrel.er rfl⟩
    · rw [if_neg q] at hp ht
      rw [ht]
      simp only
      cases hp
      rw [hrel.same.next j]
      unfold rFail
      rw [if_pos (by exact hrel.er)]
      exact .inl ⟨rfl,rfl,by decide⟩
theorem atom_out {e : PE} {s : PS} {r : RS} (hs : OkS e s) (hrel : Rel e s r) (hr : OkR e { r with pos := s.pos }) :
    ∃ f r1,(if s.wd=wTr then some (fT,adv {r with pos:=s.pos} wTr) else if s.wd=wFa then some (fF,adv {r with pos:=s.pos} wFa) else some (rAtom e s.wd {r with pos:=s.pos}))=some (f,r1)∧Out e (pAtom e s) f r1:=by
  -- behind an atom
  have after: ∀ (f:Fm) (r1:RS),r1.pos=s.pos+s.wd.length→r1.er=0→r1.dep=r.dep→Out e (aft e s f) f r1:=fun f r1 h1 h2 h3=>by
    cases hx:pNext e s with
    |er a x=>rw [aft_er hx]; exact .inr (hrel.adv_er hx h1 h2)
    |ok u s1=>rw [aft_ok hx]; exact ⟨rfl,hrel.adv_ok hx h1 h2 h3⟩
  have fault: ∀ x:Int,x≠0→Bad e s.pos x (rFail {r with pos:=s.pos} x):=fun x hx=>by
    unfold rFail
    rw [if_pos (by exact hrel.er)]
    exact .inl ⟨rfl,rfl,hx⟩
  by_cases q1:prB s.wd wIn=true
  · have n1: ¬s.wd=wTr:=fun q=>by rw [q] at q1; exact absurd q1 (by decide)
    have n2: ¬s.wd=wFa:=fun q=>by rw [q] at q1; exact absurd q1 (by decide)
    rw [if_neg n1,if_neg n2]
    have hc:cutP wIn s.wd=s.wd.drop 3:=by unfold cutP; rw [if_pos q1]; rfl
    by_cases d:ixB e.ia (s.wd.drop 3)=true
    · have ha:rAtom e s.wd {r with pos:=s.pos}=(.nd 2 (ixV e.ia (s.wd.drop 3)) [],{r with pos:=s.pos+s.wd.length}):=by unfold rAtom; rw [if_pos q1,if_pos d]
      rw [ha]
      exact ⟨_,_,rfl,by rw [pAtom_in1 q1 (by rw [hc]; exact d),hc]; exact after _ _ rfl hrel.er rfl⟩
    · have ha:rAtom e s.wd {r with pos:=s.pos}=(fZ,rFail {r with pos:=s.pos} 8):=by unfold rAtom; rw [if_pos q1,if_neg d]
      rw [ha]
      exact ⟨_,_,rfl,by rw [pAtom_in0 q1 (by rw [hc]; exact d)]; exact fault 8 (by decide)⟩
  · by_cases q2:prB s.wd wOut=true
    · have n1: ¬s.wd=wTr:=fun q=>by rw [q] at q2; exact absurd q2 (by decide)
      have n2: ¬s.wd=wFa:=fun q=>by rw [q] at q2; exact absurd q2 (by decide)
      rw [if_neg n1,if_neg n2]
      have hc:cutP wOut s.wd=s.wd.drop 4:=by unfold cutP; rw [if_pos q2]; rfl
      by_cases d:ixB e.oa (s.wd.drop 4)=true
      · have ha:rAtom e s.wd {r with pos:=s.pos}=(.nd 3 (ixV e.oa (s.wd.drop 4)) [],{r with pos:=s.pos+s.wd.length}):=by unfold rAtom; rw [if_neg q1,if_pos q2,if_pos d]
        rw [ha]
        exact ⟨_,_,rfl,by rw [pAtom_out1 q1 q2 (by rw [hc]; exact d),hc]; exact after _ _ rfl hrel.er rfl⟩
      · have ha:rAtom e s.wd {r with pos:=s.pos}=(fZ,rFail {r with pos:=s.pos} 8):=by unfold rAtom; rw [if_neg q1,if_pos q2,if_neg d]
        rw [ha]
        exact ⟨_,_,rfl,by rw [pAtom_out0 q1 q2 (by rw [hc]; exact d)]; exact fault 8 (by decide)⟩
    · by_cases q3:s.wd=wFa
      · have n1: ¬s.wd=wTr:=fun q=>by rw [q3] at q; exact absurd q (by decide)
        rw [if_neg n1,if_pos q3,pAtom_fa q1 q2 q3]
        exact ⟨_,_,rfl,after _ _ (by rw [q3]; rfl) hrel.er rfl⟩
      · by_cases q4:s.wd=wTr
        · rw [if_pos q4,pAtom_tr q1 q2 q3 q4]
          exact ⟨_,_,rfl,after _ _ (by rw [q4]; rfl) hrel.er rfl⟩
        · rw [if_neg q4,if_neg q3,pAtom_no q1 q2 q3 q4]
          have ha:rAtom e s.wd {r with pos:=s.pos}=(fZ,rFail {r with pos:=s.pos} 5):=by unfold rAtom; rw [if_neg q1,if_neg q2]
          rw [ha]
          exact ⟨_,_,rfl,fault 5 (by decide)⟩
theorem alike (e : PE) : ∀ k, (∀ m, 2 * k + 8 ≤ m → Alike e (pF e k .form) (rF e m .form)) ∧ (∀ m, 2 * k + 8 ≤ m → Alike e (pF e k .conj) (rF e m .conj)) ∧ (∀ m, 2 * k + 8 ≤ m → Alike e (pF e k .bin) (rF e m .bin)) ∧ (∀ m, 2 * k + 8 ≤ m → Alike e (pF e k .un) (rF e m .un))
  | 0 => by
    refine ⟨?_,?_,?_,?_⟩ <;> (intro m hm s r pr _ _ _ h; cases h)
  | k + 1 => by
    obtain ⟨aF,aC,aB,aU⟩:=alike e k
    refine ⟨?_,?_,?_,?_⟩
    · intro m hm s r pr hs hr hrel h
      obtain ⟨m,rfl⟩: ∃ j,m=j+10:=⟨m - 10,by omega⟩
      have hsev:Alike e (pSev e [124] 6 (pF e k .conj) k) (rF e (m+9) .disj):=fun s r pr a b c d=>by
        rw [rF]; exact sev_out (aC (m+8) (by omega)) (bad_conj e (m+5)) (pF_keeps e k .conj) (keeps_of e _ _ (by simp)) (by omega) s r pr a b c d
      rw [pF] at h
      cases hx:pSev e [124] 6 (pF e k .conj) k s with
      |none=>rw [hx] at h; cases h
      | some p1 =>
        rw [hx] at h
        obtain ⟨f,r1,h1,h2⟩:=hsev s r p1 hs hr hrel hx
        obtain ⟨k1,_⟩:=rF_keeps e _ .disj _ _ _ hr (fun q=>by cases q) h1
        cases p1 with
        | er a x =>
          cases h
          obtain ⟨r2,h3,h4,_⟩:=Bad.take h2 k1.pos [45,62]
          exact ⟨f,r2,by rw [rF,h1]; simp only [h3],.inl h4⟩
        | ok g s1 =>
          obtain ⟨rfl,hrel1⟩:=h2
          obtain ⟨j1,_⟩:=pSev_keeps (pF_keeps e k .conj) _ _ _ hs hx
          have ht:=hrel1.take j1 [45,62]
          have hinv:=rTake_inv (s1:=(rTake e [45,62] r1).2) (b:=(rTake e [45,62] r1).1) k1 rfl
          simp only at h
          by_cases q:s1.wd=[45,62]
          · rw [if_pos q] at h ht
            rw [ht] at hinv
            obtain ⟨f2,r2,h3,h4⟩:=part_out (aF (m+9) (by omega)) (bad_form e (m+4)) (pF_keeps e k .form) _ j1 hinv.1 hrel1 (by rw [q]) hrel1.er rfl h
            exact ⟨f2,r2,by rw [rF,h1]; simp only [ht]; exact h3,h4⟩
          · rw [if_neg q] at h ht
            cases h
            exact ⟨f,_,by rw [rF,h1]; simp only [ht],rfl,hrel1.same⟩
    · intro m hm s r pr hs hr hrel h
      obtain ⟨m,rfl⟩: ∃ j,m=j+10:=⟨m - 10,by omega⟩
      rw [pF] at h
      rw [rF]
      exact sev_out (aB (m+9) (by omega)) (bad_bin e (m+7)) (pF_keeps e k .bin) (keeps_of e _ _ (by simp)) (by omega) s r pr hs hr hrel h
    · intro m hm s r pr hs hr hrel h
      obtain ⟨m,rfl⟩: ∃ j,m=j+10:=⟨m - 10,by omega⟩
      rw [pF] at h
      cases hx:pF e k .un s with
      |none=>rw [hx] at h; cases h
      | some p1 =>
        rw [hx] at h
        obtain ⟨f,r1,h1,h2⟩:=aU (m+9) (by omega) s r p1 hs hr hrel hx
        obtain ⟨k1,_⟩:=rF_keeps e _ .un _ _ _ hr (fun q=>by cases q) h1
        cases p1 with
        | er a x =>
          cases h
          obtain ⟨r2,h3,h4,_⟩:=Bad.take h2 k1.pos [85]
          obtain ⟨k2,_,_,_⟩:=rTake_inv k1 h3
          obtain ⟨r3,h5,h6,_⟩:=Bad.take (.inl h4) k2.pos [82]
          exact ⟨f,r3,by rw [rF,h1]; simp only [h3,h5],.inl h6⟩
        | ok g s1 =>
          obtain ⟨rfl,hrel1⟩:=h2
          obtain ⟨j1,_⟩:=pF_keeps e k .un _ _ _ hs hx
          have ht:=hrel1.take j1 [85]
          have hinv:=rTake_inv (s1:=(rTake e [85] r1).2) (b:=(rTake e [85] r1).1) k1 rfl
          simp only at h
          by_cases q:s1.wd=[85]
          · rw [if_pos q] at h ht
            rw [ht] at hinv
            obtain ⟨f2,r2,h3,h4⟩:=part_out (aB (m+9) (by omega)) (bad_bin e (m+7)) (pF_keeps e k .bin) _ j1 hinv.1 hrel1 (by rw [q]) hrel1.er rfl h
            exact ⟨f2,r2,by rw [rF,h1]; simp only [ht]; exact h3,h4⟩
          · rw [if_neg q] at h ht
            rw [ht] at hinv
            have hrel2:=hrel1.same
            have ht2:=hrel2.take j1 [82]
            have hinv2:=rTake_inv (s1:=(rTake e [82] {r1 with pos:=s1.pos}).2) (b:=(rTake e [82] {r1 with pos:=s1.pos}).1) hinv.1 rfl
            by_cases q2:s1.wd=[82]
            · rw [if_pos q2] at h ht2
              rw [ht2] at hinv2
              obtain ⟨f2,r2,h3,h4⟩:=part_out (aB (m+9) (by omega)) (bad_bin e (m+7)) (pF_keeps e k .bin) _ j1 hinv2.1 hrel2 (by rw [q2]) hrel2.er rfl h
              exact ⟨f2,r2,by rw [rF,h1]; simp only [ht,ht2]; exact h3,h4⟩
            · rw [if_neg q2] at h ht2
              cases h
              exact ⟨f,_,by rw [rF,h1]; simp only [ht,ht2],rfl,hrel2.same⟩
    · intro m hm s r pr hs hr hrel h
      obtain ⟨m,rfl⟩: ∃ j,m=j+10:=⟨m - 10,by omega⟩
      have hn:=hrel.next hs
      obtain ⟨k1,_,k3,_⟩:=rNext_inv hr hn
      have hrel0:=hrel.same
      have hadv: ∀ w,s.wd=w→OkR e (adv {r with pos:=s.pos} w):=fun w hw=>adv_ok k1 (by rw [← hw]; exact k3)
      have bel: ∀ (w:List UInt8) (g:Fm→Fm),s.wd=w→mapP g (pPart e (pF e k .un) s)=some pr→ ∃ f r1,rMap g (rF e (m+9) .bel (adv {r with pos:=s.pos} w))=some (f,r1)∧Out e pr f r1:=fun w g hw hq=>
        bel_out (aU (m+8) (by omega)) g hs (hadv w hw) hrel0 (by rw [hw]; rfl) hrel.er rfl hq
      rw [rF_un,hn,if_neg (by exact fun q=>q hrel.er)]
      simp only
      rw [pF] at h
      unfold rUn
      by_cases q1:s.wd=[33]
      · rw [if_pos q1] at h ⊢; exact bel _ _ q1 h
      rw [if_neg q1] at h ⊢
      by_cases q2:s.wd=[88]
      · rw [if_pos q2] at h ⊢; exact bel _ _ q2 h
      rw [if_neg q2] at h ⊢
      by_cases q3:s.wd=[78]
      · rw [if_pos q3] at h ⊢; exact bel _ _ q3 h
      rw [if_neg q3] at h ⊢
      by_cases q4:s.wd=[70]
      · rw [if_pos q4] at h ⊢; exact bel _ _ q4 h
      rw [if_neg q4] at h ⊢
      by_cases q5:s.wd=[71]
      · rw [if_pos q5] at h ⊢; exact bel _ _ q5 h
      rw [if_neg q5] at h ⊢
      by_cases q8:s.wd=[40]
      · rw [if_pos q8] at h
        rw [if_neg (by rw [q8]; decide),if_neg (by rw [q8]; decide),if_pos q8]
        have ka:=hadv [40] q8
        obtain ⟨o1,o2⟩:=rOpen_inv ka (by exact hrel.er)
        cases hx:pPart e (pF e k .form) s with
        |none=>rw [hx] at h; cases h
        | some p1 =>
          rw [hx] at h
          have hk: ∀ g s1,p1=.ok g s1→OkS e s1:=fun g s1 hp=>(pPart_keeps (pF_keeps e k .form) _ _ _ hs (by rw [hx,hp])).1
          have hclo: ∀ f r0,OkR e (rDn r0)→Out e p1 f (rDn r0)→ ∃ f1 r1,rClo e (some (f,r0))=some (f1,r1)∧Out e pr f1 r1:=fun f r0 a b=>⟨f,rClose e (rDn r0),rfl,close_out a hk b (by cases p1 <;> exact h)⟩
          by_cases q:(rOpen e (adv {r with pos:=s.pos} [40])).er=0
          · rw [if_pos q]
            obtain ⟨f,r1,h3,h4⟩:=part_out (pr:=p1) (aF (m+9) (by omega)) (bad_form e (m+4)) (pF_keeps e k .form) id hs ka hrel0 (by rw [q8]; rfl) (by exact hrel.er) rfl (by rw [hx]; cases p1 <;> rfl)
            cases hz:rF e (m+9) .form (rOpen e (adv {r with pos:=s.pos} [40])) with
            |none=>rw [hz] at h3; cases h3
            | some q0 =>
              obtain ⟨f0,r0⟩:=q0
              rw [hz] at h3
              cases h3
              obtain ⟨kz,kd⟩:=rF_keeps e _ .form _ _ _ o1 (fun q=>by cases q) hz
              exact hclo f0 r0 (rDn_inv (s:=adv {r with pos:=s.pos} [40]) kz (by rw [kd,o2]) ka.d0).1 h4
          · rw [if_neg q]
            rcases open_out hs ka hrel0 (by rw [q8]; rfl) (by exact hrel.er) rfl with ⟨a,x,h1,h2⟩|⟨s1,_,h2,_,_⟩
            · rw [h2] at hx
              cases hx
              exact hclo fZ _ (rDn_inv (s:=adv {r with pos:=s.pos} [40]) o1 o2 ka.d0).1 (dn_bad (.inl h1))
            · exact absurd h2.er q
      · rw [if_neg q8] at h
        cases h
        obtain ⟨f,r1,h1,h2⟩:=atom_out hs hrel k1
        refine ⟨f,r1,?_,h2⟩
        rw [← h1]
        by_cases q6:s.wd=wTr
        · rw [if_pos q6,if_pos q6]
        · rw [if_neg q6,if_neg q6]
          by_cases q7:s.wd=wFa
          · rw [if_pos q7,if_pos q7]
          · rw [if_neg q7,if_neg q7,if_neg q8]
theorem Rel0 (e:PE) (hl:e.src.length≤1048576):OkR e rs0:=⟨hl,Nat.zero_le _,by decide,by decide,fun _=>by decide⟩
theorem start_out {e:PE} (hl:e.src.length≤1048576):OkS e ⟨0,[],0⟩∧(∀ u s1,pNext e ⟨0,[],0⟩=.ok u s1→Rel e s1 rs0)∧(∀ a x,pNext e ⟨0,[],0⟩=.er a x→Pend e a x rs0):=by
  refine ⟨⟨hl,by simp,by simp⟩,fun u s1 h=>?_,fun a x h=>?_⟩ <;>
    unfold pNext at h <;> simp only at h <;> split at h
  · cases h
  · rename_i hc
    cases h
    exact ⟨rfl,rfl,rfl,rfl,Decidable.byContradiction fun q=>hc ⟨fun q'=>q (.inl q'),Decidable.byContradiction fun q'=>q (.inr q')⟩⟩
  · rename_i hc
    cases h
    exact ⟨rfl,rfl,rfl,hc.1,hc.2⟩
  · cases h
theorem rprsE_eq {e : PE} (hl : e.src.length ≤ 1048576) : (∃ q, rF e (2 * fuE e + 8) .form rs0 = some q) ∧ rprsE e = prsE e := by
  have hr0:=Rel0 e hl
  obtain ⟨hs0,hok,her⟩:=start_out (e:=e) hl
  -- an error
  have bad: ∀ a x f r1,OkR e r1→rF e (2*fuE e+8) .form rs0=some (f,r1)→Bad e a x r1→(∃ q,rF e (2*fuE e+8) .form rs0=some q)∧rprsE e=(fZ,(a:Int),x):=fun a x f r1 k1 h hb=>by
    refine ⟨⟨_,h⟩,?_⟩
    obtain ⟨r2,h1,h2,_⟩:=hb.next k1.pos
    rw [rprsE,h]
    simp only [rEnd,h1]
    rw [if_neg (show ¬([]:List UInt8)≠[] from fun q=>q rfl),if_pos (by rw [h2.1]; exact h2.2.2),h2.1,h2.2.1]
  rw [prsE]
  cases hx:pNext e ⟨0,[],0⟩ with
  | er a x =>
    obtain ⟨f,r1,h1,h2⟩:=bad_form e (2*fuE e+3) a x rs0 hr0 (.inr (her _ _ hx))
    exact bad a x f r1 (rF_keeps e _ .form _ _ _ hr0 (fun q=>by cases q) h1).1 h1 (.inl h2)
  | ok u s1 =>
    obtain ⟨j1,_,_⟩:=pNext_inv hs0 hx
    obtain ⟨pr,hF⟩:=pF_all j1
    obtain ⟨f,r1,h1,h2⟩:=(alike e (fuE e)).1 (2*fuE e+8) (Nat.le_refl _) s1 rs0 pr j1 hr0 (hok _ _ hx) hF
    obtain ⟨k1,_⟩:=rF_keeps e _ .form _ _ _ hr0 (fun q=>by cases q) h1
    simp only [hF]
    cases pr with
    |er a x=>exact bad a x f r1 k1 h1 h2
    | ok g s2 =>
      obtain ⟨rfl,hrel⟩:=h2
      obtain ⟨j2,_⟩:=pF_keeps e _ .form _ _ _ j1 hF
      refine ⟨⟨_,h1⟩,?_⟩
      rw [rprsE,h1]
      simp only [rEnd,hrel.next j2]
      by_cases q:s2.wd≠[]
      · rw [if_pos q,if_pos q]
        have e1:rFail {r1 with pos:=s2.pos} 5={r1 with pos:=s2.pos,er:=5,wh:=s2.pos}:=by unfold rFail; rw [if_pos (by exact hrel.er)]
        rw [e1,if_pos (by show (5:Int)≠0; decide)]
        rfl
      · rw [if_neg q,if_neg q,if_neg (by exact fun q=>q hrel.er)]
        rfl
theorem rF_some {e:PE} (hl:e.src.length≤1048576):rF e (2*fuE e+8) .form rs0≠none:=fun h=>by
  obtain ⟨q,h1⟩:=(rprsE_eq hl).1
  rw [h] at h1; cases h1
theorem rprs_eq (ia oa : List (List UInt8)) (src : List UInt8) : rprs ia oa src = prs ia oa src := by
  unfold rprs prs avs
  by_cases h1:aval ia≠0
  · simp only [if_pos h1]; rfl
  · simp only [if_neg h1]
    by_cases h2:aval oa≠0
    · rw [if_pos h2,if_pos h2]; rfl
    · rw [if_neg h2,if_neg h2]
      by_cases h3:1048576 < src.length
      · rw [if_pos h3,if_pos h3]; rfl
      · rw [if_neg h3,if_neg h3]
        exact (rprsE_eq (by show src.length≤1048576; omega)).2
end Go.Proofs.Ytdmcmkccifmofaa
namespace Go.Proofs.Ytdmcmkccifmofaa
open Go
def stg (o:Int):Int:=if o=6 then 1 else if o=5 then 2 else if o=8∨o=10 then 3 else 4
def argP (lv:Int) (q:Int×List (List UInt8)):List (List UInt8):=if lv≤stg q.1 then q.2 else [40]::(q.2++[[41]])
def sevP (sep:List UInt8) (lv:Int):List (Int×List (List UInt8))→Nat→List (List UInt8)
  |[],_=>[]
  |q::r,i=>(if i=0 then [] else [sep])++(argP lv q++sevP sep lv r (i+1))
def shO (ia oa:List (List UInt8)) (o a:Int) (q:List (Int×List (List UInt8))):List (List UInt8):=
  if o=1 then [wTr] else if o=2 then [wIn++nth ia a.toNat] else if o=3 then [wOut++nth oa a.toNat]
  else if o=4 then [33]::argP 4 (nth q 0) else if o=7 then [88,32]::argP 4 (nth q 0) else if o=9 then [78,32]::argP 4 (nth q 0)
  else if o=6 then sevP [32,124,32] 2 q 0 else if o=5 then sevP [32,38,32] 3 q 0
  else if o=8 then argP 4 (nth q 0)++([32,85,32]::argP 3 (nth q 1)) else if o=10 then argP 4 (nth q 0)++([32,82,32]::argP 3 (nth q 1)) else []
mutual
def shP (ia oa:List (List UInt8)):Fm→List (List UInt8)
  | .nd o a k=>shO ia oa o a (shL ia oa k)
def shL (ia oa:List (List UInt8)):List Fm→List (Int×List (List UInt8))
  |[]=>[]
  |f::l=>(f.op,shP ia oa f)::shL ia oa l
end
theorem shL_map (ia oa:List (List UInt8)): ∀ l:List Fm,shL ia oa l=l.map fun f=>(f.op,shP ia oa f)
  |[]=>rfl
  |f::l=>by rw [shL,shL_map ia oa l]; rfl
theorem shP_eq (ia oa:List (List UInt8)) (f:Fm):shP ia oa f=shO ia oa f.op f.arg (f.kids.map fun g=>(g.op,shP ia oa g)):=by
  cases f; rw [shP,shL_map]; rfl
abbrev shQ (ia oa:List (List UInt8)) (f:Fm):Int×List (List UInt8):=(f.op,shP ia oa f)
theorem shQ_nth {ia oa:List (List UInt8)} {l:List Fm} {k:Nat} (h:k < l.length):nth (l.map fun g=>(g.op,shP ia oa g)) k=shQ ia oa (nth l k):=by
  rw [← nth_getElem (l:=l.map fun g=>(g.op,shP ia oa g)) (by simpa using h),← nth_getElem h]; simp
theorem argP_yes {lv:Int} {q:Int×List (List UInt8)} (h:lv≤stg q.1):argP lv q=q.2:=if_pos h
theorem argP_no {lv:Int} {q:Int×List (List UInt8)} (h: ¬lv≤stg q.1):argP lv q=[40]::(q.2++[[41]]):=if_neg h
theorem argP_len {lv:Int} {q:Int×List (List UInt8)} (h: ¬lv≤stg q.1):(argP lv q).flatten.length=q.2.flatten.length+2∧(argP lv q).length=q.2.length+2:=by
  rw [argP_no h]; simp
theorem argP_cat {lv:Int} {q:Int×List (List UInt8)} (h: ¬lv≤stg q.1) (l:List UInt8):l++(argP lv q).flatten=((l++[40])++q.2.flatten)++[41]:=by
  rw [argP_no h]; simp
theorem stg1 {o:Int} (h:o=6):stg o=1:=if_pos h
theorem stg2 {o:Int} (h: ¬o=6) (h2:o=5):stg o=2:=by unfold stg; rw [if_neg h,if_pos h2]
theorem stg3 {o:Int} (h: ¬o=6) (h2: ¬o=5) (h3:o=8∨o=10):stg o=3:=by unfold stg; rw [if_neg h,if_neg h2,if_pos h3]
theorem stg4 {o:Int} (h: ¬o=6) (h2: ¬o=5) (h3: ¬(o=8∨o=10)):stg o=4:=by unfold stg; rw [if_neg h,if_neg h2,if_neg h3]
section
variable {ia oa:List (List UInt8)} {f:Fm} {lv:Int}
theorem argQ_yes (h:lv≤stg f.op):argP lv (shQ ia oa f)=shP ia oa f:=if_pos h
theorem argQ_len (h: ¬lv≤stg f.op):(argP lv (shQ ia oa f)).flatten.length=(shP ia oa f).flatten.length+2∧(argP lv (shQ ia oa f)).length=(shP ia oa f).length+2:=argP_len h
theorem argQ_cat (h: ¬lv≤stg f.op) (l:List UInt8):l++(argP lv (shQ ia oa f)).flatten=((l++[40])++(shP ia oa f).flatten)++[41]:=argP_cat h l
end
def sevR (ia oa:List (List UInt8)) (sep:List UInt8) (lv:Int) (ks:List Fm) (i:Nat):List (List UInt8):=sevP sep lv ((ks.drop i).map (shQ ia oa)) i
section
variable {ia oa:List (List UInt8)} {sep:List UInt8} {lv:Int} {ks:List Fm} {i:Nat}
theorem sevR_step (h:i < ks.length):sevR ia oa sep lv ks i=(if i=0 then [] else [sep])++(argP lv (shQ ia oa (nth ks i))++sevR ia oa sep lv ks (i+1)):=by
  unfold sevR
  rw [nth_drop h]; rfl
theorem sevR_0 (h:i < ks.length) (h0:i=0):sevR ia oa sep lv ks i=argP lv (shQ ia oa (nth ks i))++sevR ia oa sep lv ks (i+1):=by rw [sevR_step h,if_pos h0]; rfl
theorem sevR_1 (h:i < ks.length) (h0: ¬i=0):sevR ia oa sep lv ks i=sep::(argP lv (shQ ia oa (nth ks i))++sevR ia oa sep lv ks (i+1)):=by rw [sevR_step h,if_neg h0]; rfl
theorem sevR_0l (h:i < ks.length) (h0:i=0):(sevR ia oa sep lv ks i).length=(argP lv (shQ ia oa (nth ks i))).length+(sevR ia oa sep lv ks (i+1)).length∧(sevR ia oa sep lv ks i).flatten.length=(argP lv (shQ ia oa (nth ks i))).flatten.length+(sevR ia oa sep lv ks (i+1)).flatten.length:=by
  rw [sevR_0 h h0]; exact ⟨by simp,by rw [List.flatten_append,List.length_append]⟩
theorem sevR_1l (h:i < ks.length) (h0: ¬i=0):(sevR ia oa sep lv ks i).length=1+(argP lv (shQ ia oa (nth ks i))).length+(sevR ia oa sep lv ks (i+1)).length∧(sevR ia oa sep lv ks i).flatten.length=sep.length+(argP lv (shQ ia oa (nth ks i))).flatten.length+(sevR ia oa sep lv ks (i+1)).flatten.length:=by
  rw [sevR_1 h h0]; exact ⟨by simp; omega,by rw [List.flatten_cons,List.length_append,List.flatten_append,List.length_append]; omega⟩
theorem sevR_end (h:ks.length≤i):sevR ia oa sep lv ks i=[]:=by unfold sevR; rw [List.drop_eq_nil_of_le h]; rfl
theorem sevR_0c (h:i < ks.length) (h0:i=0) (c:List UInt8):c++(sevR ia oa sep lv ks i).flatten=(c++(argP lv (shQ ia oa (nth ks i))).flatten)++(sevR ia oa sep lv ks (i+1)).flatten:=by rw [sevR_0 h h0,List.flatten_append,List.append_assoc]
theorem sevR_1c (h:i < ks.length) (h0: ¬i=0) (c:List UInt8):c++(sevR ia oa sep lv ks i).flatten=((c++sep)++(argP lv (shQ ia oa (nth ks i))).flatten)++(sevR ia oa sep lv ks (i+1)).flatten:=by rw [sevR_1 h h0,List.flatten_cons,List.flatten_append]; simp only [List.append_assoc]
end
section
variable {ia oa:List (List UInt8)} {f:Fm}
theorem shP_1 (h:f.op=1):shP ia oa f=[wTr]:=by rw [shP_eq,h]; rfl
theorem shP_2 (h:f.op=2):shP ia oa f=[wIn++nth ia f.arg.toNat]:=by rw [shP_eq,h]; rfl
theorem shP_3 (h:f.op=3):shP ia oa f=[wOut++nth oa f.arg.toNat]:=by rw [shP_eq,h]; rfl
theorem shP_4 (h:f.op=4) (hk:0 < f.kids.length):shP ia oa f=[33]::argP 4 (shQ ia oa (nth f.kids 0)):=by
  rw [shP_eq,h]; show [33]::argP 4 (nth _ 0)=_; rw [shQ_nth hk]
theorem shP_7 (h:f.op=7) (hk:0 < f.kids.length):shP ia oa f=[88,32]::argP 4 (shQ ia oa (nth f.kids 0)):=by
  rw [shP_eq,h]; show [88,32]::argP 4 (nth _ 0)=_; rw [shQ_nth hk]
theorem shP_9 (h:f.op=9) (hk:0 < f.kids.length):shP ia oa f=[78,32]::argP 4 (shQ ia oa (nth f.kids 0)):=by
  rw [shP_eq,h]; show [78,32]::argP 4 (nth _ 0)=_; rw [shQ_nth hk]
theorem shP_6 (h:f.op=6):shP ia oa f=sevR ia oa [32,124,32] 2 f.kids 0:=by rw [shP_eq,h]; rfl
theorem shP_5 (h:f.op=5):shP ia oa f=sevR ia oa [32,38,32] 3 f.kids 0:=by rw [shP_eq,h]; rfl
theorem shP_8 (h:f.op=8) (hk:1 < f.kids.length):shP ia oa f=argP 4 (shQ ia oa (nth f.kids 0))++([32,85,32]::argP 3 (shQ ia oa (nth f.kids 1))):=by
  rw [shP_eq,h]; show argP 4 (nth _ 0)++([32,85,32]::argP 3 (nth _ 1))=_; rw [shQ_nth (by omega),shQ_nth hk]
theorem shP_10 (h:f.op=10) (hk:1 < f.kids.length):shP ia oa f=argP 4 (shQ ia oa (nth f.kids 0))++([32,82,32]::argP 3 (shQ ia oa (nth f.kids 1))):=by
  rw [shP_eq,h]; show argP 4 (nth _ 0)++([32,82,32]::argP 3 (nth _ 1))=_; rw [shQ_nth (by omega),shQ_nth hk]
end
theorem shW_leaf {p:List (List UInt8)} {x:List UInt8} (h:p=[x]) (u:Nat) (l:List UInt8):u+p.length=u+1∧l++p.flatten=l++x∧p.flatten.length=x.length:=by
  subst h; simp
theorem shW_un {p q:List (List UInt8)} {x:List UInt8} (h:p=x::q) (u:Nat) (l:List UInt8):u+p.length=u+1+q.length∧l++p.flatten=l++x++q.flatten∧p.flatten.length=x.length+q.flatten.length:=by
  subst h
  exact ⟨by simp; omega,by rw [List.flatten_cons,List.append_assoc],by rw [List.flatten_cons,List.length_append]⟩
theorem shW_bin {p q r:List (List UInt8)} {x:List UInt8} (h:p=q++(x::r)) (u:Nat) (l:List UInt8):u+p.length=u+q.length+1+r.length∧l++p.flatten=l++q.flatten++x++r.flatten∧p.flatten.length=q.flatten.length+x.length+r.flatten.length:=by
  subst h
  exact ⟨by simp; omega,by rw [List.flatten_append,List.flatten_cons]; simp only [List.append_assoc],by rw [List.flatten_append,List.flatten_cons,List.length_append,List.length_append]; omega⟩
theorem nmd_arg {m n:Int} {f:Fm} (h:nmd m n f=true):(f.op=2→f.arg < m)∧(f.op=3→f.arg < n):=by
  constructor <;> intro ho <;> refine Int.not_le.1 fun q=>?_
  · rw [nmd_no (.inl ⟨ho,q⟩)] at h; cases h
  · rw [nmd_no (.inr ⟨ho,q⟩)] at h; cases h
theorem nmd_kid {m n:Int} {f:Fm} (h:nmd m n f=true) {k:Nat} (hk:k < f.kids.length):nmd m n (nth f.kids k)=true:=by
  rw [nmd_eq,Bool.and_eq_true] at h
  exact List.all_eq_true.1 h.2 _ (by rw [← nth_getElem hk]; exact List.getElem_mem hk)
end Go.Proofs.Ytdmcmkccifmofaa
namespace Go.Proofs.Ytdmcmkccifmofaa
open Go Go.Proofs
theorem stg_pure (o:Int):PureC Try.prog 85 [(iV (o))] (iV ((stg o))):=by
 refine pW Try.func85 s85_ok fun hB=>?_
 unfold s85
 dsimp only
 refine W_r (R_mv rfl (R_e (W_seq_seq (W_r (R_mv rfl (R_e (W_seq_blockg fun Q1 n1 x1 y1 z1=>?_)))))))
 refine W_r (R_eql rfl rfl (R_mv rfl (R_e ?_)))
 refine W_if rfl (fun c2=>?_) fun c2=>?_
 ·
  have d1:o=6:=c2
  refine W_r (R_mv rfl (R_e (W_ret (y1 _ _ ?_))))
  refine Ret_1 (@rfl V (iV (1:Int))) (fz_int ?_)
  · exact (stg1 d1).symm
 have d1: ¬o=6:=c2
 refine W_r (R_eql rfl rfl (R_mv rfl (R_e ?_)))
 refine W_if rfl (fun c3=>?_) fun c3=>?_
 ·
  have d2:o=5:=c3
  refine W_r (R_mv rfl (R_e (W_ret (y1 _ _ ?_))))
  refine Ret_1 (@rfl V (iV (2:Int))) (fz_int ?_)
  · exact (stg2 d1 d2).symm
 have d2: ¬o=5:=c3
 refine W_seq_seq (W_r (R_eql rfl rfl (R_mv rfl (R_e ?_))))
 refine W_seq_if rfl (fun c4=>?_) fun c4=>?_
 ·
  refine W_seq_skip ?_
  refine W_if rfl (fun c5=>?_) fun c5=>?_
  ·
   refine W_r (R_mv rfl (R_e (W_ret (y1 _ _ ?_))))
   refine Ret_1 (@rfl V (iV (3:Int))) (fz_int ?_)
   · exact (stg3 d1 d2 (by (left; assumption))).symm
  · exact (c5 c4).elim
 refine W_r (R_eql rfl rfl (R_mv rfl (R_e ?_)))
 refine W_if rfl (fun c6=>?_) fun c6=>?_
 ·
  refine W_r (R_mv rfl (R_e (W_ret (y1 _ _ ?_))))
  refine Ret_1 (@rfl V (iV (3:Int))) (fz_int ?_)
  · exact (stg3 d1 d2 (by (right; assumption))).symm
 refine W_skip (n1 _ _ (.done (W_r (R_mv rfl (R_e (W_ret ?_))))))
 refine Ret_1 (@rfl V (iV (4:Int))) (fz_int ?_)
 · exact (stg4 d1 d2 (by omega)).symm
theorem arg_loc (v u:Nat) (ia oa:List (List UInt8)) (a:V) (l:List UInt8) (f:Fm) (lv:Int) (ha:a=.nilp∨a=.mp 0 v 0 2) (hl:l.length+(argP lv (shQ ia oa f)).flatten.length≤4294967296) (hS: ∀ (u:Nat) (a:V) (l:List UInt8),(a=.nilp∨a=.mp 0 v 0 2)→l.length+(shP ia oa f).flatten.length≤4294967296→LocC Try.prog 44 2 [.mp 0 v 0 0,fmV f] (hpB2 (bk v 94 4 [[.sl (ia.map cS),.sl (oa.map cS),a,.ms 1 u 0 (List.length (l))]]) ⟨u,true,true,5,1,(l).map bB⟩) (.ok (.tup []) (hpB2 (bk v 94 4 [[.sl (ia.map cS),.sl (oa.map cS),.mp 0 v 0 2,.ms 1 ((u+(shP ia oa f).length)) 0 (List.length (l++(shP ia oa f).flatten))]]) ⟨(u+(shP ia oa f).length),true,true,5,1,(l++(shP ia oa f).flatten).map bB⟩))):LocC Try.prog 72 2 [(V.mp 0 v 0 0),(V.agg [(iV (f.op)),(iV (f.arg)),(V.sl (List.map cF (f.kids)))]),(iV (lv))] (hpB2 (bk v 94 4 [[(V.sl (List.map cS (ia))),(V.sl (List.map cS (oa))),(a),(V.ms 1 u 0 (List.length (l)))]]) (bz u 5 1 (List.map bB (l)))) (.ok (.tup []) (hpB2 (bk v 94 4 [[.sl (ia.map cS),.sl (oa.map cS),.mp 0 v 0 2,.ms 1 ((u+(argP lv (shQ ia oa f)).length)) 0 (List.length (l++(argP lv (shQ ia oa f)).flatten))]]) ⟨(u+(argP lv (shQ ia oa f)).length),true,true,5,1,(l++(argP lv (shQ ia oa f)).flatten).map bB⟩)):=by
 refine lW2 (k0:=0) (hla:=by rcases ha with rfl|rfl <;> simp [locB,loc0]) (hlb:=bB_loc _) Try.func72 s72_ok fun hB=>?_
 unfold s72
 dsimp only
 refine W_r (R_box (i:=4) (n:=0) (m:=3) (cs:=[(iV (f.op)),(iV (f.arg)),(V.sl (List.map cF (f.kids)))]) rfl (congrArg Blk.ver rfl) rfl rfl rfl (R_e (W_seq_seq (W_r (R_fk rfl rfl (R_lk rfl rfl rfl rfl (R_callk (stg_pure ((f.op))) rfl ?_)))))))
 refine R_mv rfl (R_geq rfl rfl (R_e ?_))
 refine W_seq_if rfl (fun c1=>?_) fun c1=>?_
 ·
  have d1:lv≤stg f.op:=c1
  have hl2:l.length+(shP ia oa f).flatten.length≤4294967296:=by rw [argQ_yes d1] at hl; exact hl
  refine W_seq_seq (W_r (R_mv rfl (R_lk rfl rfl rfl rfl (R_callE (evcons rfl (evcons rfl evnil)) (LocC.use2 (i:=0) (j:=1) (hS u ((a)) l ha (by omega)) (by decide) rfl (@rfl Blk (bk v 94 4 [[(V.sl (List.map cS (ia))),(V.sl (List.map cS (oa))),(a),(V.ms 1 u 0 (List.length (l)))]])) (@rfl Blk (bz u 5 1 (List.map bB (l)))) (by rcases ha with rfl|rfl <;> rfl) (bB_ren _ _) rfl (bB_ren _ _)) (R_e (W_seq_ret ?_))))))
  refine RetL2_ok (v:=(V.tup [])) (a:=(bk v 94 4 [[(V.sl (List.map cS (ia))),(V.sl (List.map cS (oa))),(V.mp 0 v 0 2),(V.ms 1 (u+(shP ia oa f).length) 0 (List.length (l++(shP ia oa f).flatten)))]])) (b:=(bz (u+(shP ia oa f).length) 5 1 (List.map bB (l++(shP ia oa f).flatten)))) rfl ?_ (by simp) (.same (cut_fin 2 _) _) (@rfl Blk (bk v 94 4 [[(V.sl (List.map cS (ia))),(V.sl (List.map cS (oa))),(V.mp 0 v 0 2),(V.ms 1 (u+(shP ia oa f).length) 0 (List.length (l++(shP ia oa f).flatten)))]])) (@rfl Blk (bz (u+(shP ia oa f).length) 5 1 (List.map bB (l++(shP ia oa f).flatten)))) (by simp [locB,loc0]) (bB_loc _)
  rw [argQ_yes d1] <;> rfl
 have d1: ¬lv≤stg f.op:=c1
 have hl2:l.length+(shP ia oa f).flatten.length+2≤4294967296:=by rw [(argQ_len d1).1] at hl; omega
 refine W_seq_skip (W_r (R_mv rfl (R_nilck_mp rfl rfl oB (R_fk rfl rfl (R_callE (evcons rfl (evcons rfl evnil)) (LocC.use2 (i:=0) (j:=1) (wstr_loc v u ia oa (a) l ([40]) ha (by (simp only [List.length_append,List.length_cons,List.length_nil]; omega))) (by decide) rfl (@rfl Blk (bk v 94 4 [[(V.sl (List.map cS (ia))),(V.sl (List.map cS (oa))),(a),(V.ms 1 u 0 (List.length (l)))]])) (@rfl Blk (bz u 5 1 (List.map bB (l)))) (by rcases ha with rfl|rfl <;> rfl) (bB_ren _ _) rfl (bB_ren _ _)) (R_e (W_r ?_)))))))
 refine R_mv rfl (R_lk rfl rfl rfl rfl (R_callE (evcons rfl (evcons rfl evnil)) (LocC.use2 (i:=0) (j:=1) (hS (u+1) (.mp 0 v 0 2) (l++([40])) (.inr rfl) (by (simp only [List.length_append,List.length_cons,List.length_nil]; omega))) (by decide) rfl (@rfl Blk (bk v 94 4 [[(V.sl (List.map cS (ia))),(V.sl (List.map cS (oa))),(V.mp 0 v 0 2),(V.ms 1 (u+1) 0 (List.length (l++([40]))))]])) (@rfl Blk (bz (u+1) 5 1 (List.map bB (l++([40]))))) rfl (bB_ren _ _) rfl (bB_ren _ _)) (R_e (W_t (R_mv rfl (R_nilck_mp rfl rfl oB (R_fk rfl rfl ?_)))))))
 refine R_callE (evcons rfl (evcons rfl evnil)) (LocC.use2 (i:=0) (j:=1) (wstr_loc v ((u+1)+(shP ia oa f).length) ia oa (V.mp 0 v 0 2) ((l++([40]))++(shP ia oa f).flatten) ([41]) (.inr rfl) (by (simp only [List.length_append,List.length_cons,List.length_nil]; omega))) (by decide) rfl (@rfl Blk (bk v 94 4 [[(V.sl (List.map cS (ia))),(V.sl (List.map cS (oa))),(V.mp 0 v 0 2),(V.ms 1 ((u+1)+(shP ia oa f).length) 0 (List.length ((l++([40]))++(shP ia oa f).flatten)))]])) (@rfl Blk (bz ((u+1)+(shP ia oa f).length) 5 1 (List.map bB ((l++([40]))++(shP ia oa f).flatten)))) rfl (bB_ren _ _) rfl (bB_ren _ _)) (R_e ?_)
 refine RetL2_okn (v:=(V.tup [])) (a:=(bk v 94 4 [[(V.sl (List.map cS (ia))),(V.sl (List.map cS (oa))),(V.mp 0 v 0 2),(V.ms 1 (((u+1)+(shP ia oa f).length)+1) 0 (List.length ((l++([40]))++(shP ia oa f).flatten++([41]))))]])) (b:=(bz (((u+1)+(shP ia oa f).length)+1) 5 1 (List.map bB ((l++([40]))++(shP ia oa f).flatten++([41]))))) rfl ?_ (by simp) (.same (cut_fin 2 _) _) (@rfl Blk (bk v 94 4 [[(V.sl (List.map cS (ia))),(V.sl (List.map cS (oa))),(V.mp 0 v 0 2),(V.ms 1 (((u+1)+(shP ia oa f).length)+1) 0 (List.length ((l++([40]))++(shP ia oa f).flatten++([41]))))]])) (@rfl Blk (bz (((u+1)+(shP ia oa f).length)+1) 5 1 (List.map bB ((l++([40]))++(shP ia oa f).flatten++([41]))))) (by simp [locB,loc0]) (bB_loc _)
 rw [argQ_cat d1,show u+(argP lv (shQ ia oa f)).length=u+1+(shP ia oa f).length+1 from by rw [(argQ_len d1).2]; omega] <;> rfl
def b73_0:SC:=.seq (.reg [qP 13 .lss 12 11]) (.seq (.cond (.t 13) (.skip) (.exit 0)) (.seq (.block 1 (.seq (.reg [qM 14 12,qA 15 3 10 12,qL 16 3 15,sO 9 (.alloc 24 [.int .i64 0,.int .i64 0,.nilsl]),qM 8 14,sN (.store 3 (.t 9) (.t 16))]) (.seq (.seq (.reg [qM 17 8,qC 18 .gtr 17 0]) (.cond (.t 18) (.reg [qM 19 0,sO 20 (.nilck (.t 19)),qF 21 2 20,qM 22 2,sO 23 (.call true 71 [.t 21,.t 22])]) (.skip))) (.reg [qM 24 0,qL 25 3 9,qM 26 3,sO 27 (.call true 72 [.t 24,.t 25,.t 26])])))) (.reg [qC 28 .add 12 1,qM 12 28])))
def s73:SF:=⟨29,[],.seq (.reg [qM 10 1,qN 11 10,qI 12 0]) (.block 0 (.loop b73_0))⟩
theorem s73_ok:slimF Try.prog ⟨[31,36,37,38,40,41,42,44,45,59,60,61,65,66,67,71,72,73,81,82,84,92,93,98,99,102,104],[],[],[]⟩ Try.f73=some s73:=by kernel_rfl
theorem several_loc (v u:Nat) (ia oa:List (List UInt8)) (a:V) (l:List UInt8) (ks:List Fm) (sep:List UInt8) (lv:Int) (ha:a=.nilp∨a=.mp 0 v 0 2) (hl:l.length+(sevR ia oa sep lv ks 0).flatten.length≤4294967296) (hne:0 < ks.length) (hS: ∀ k,k < ks.length→ ∀ (u:Nat) (a:V) (l:List UInt8),(a=.nilp∨a=.mp 0 v 0 2)→l.length+(shP ia oa ((nth ks k))).flatten.length≤4294967296→LocC Try.prog 44 2 [.mp 0 v 0 0,fmV ((nth ks k))] (hpB2 (bk v 94 4 [[.sl (ia.map cS),.sl (oa.map cS),a,.ms 1 u 0 (List.length (l))]]) ⟨u,true,true,5,1,(l).map bB⟩) (.ok (.tup []) (hpB2 (bk v 94 4 [[.sl (ia.map cS),.sl (oa.map cS),.mp 0 v 0 2,.ms 1 ((u+(shP ia oa ((nth ks k))).length)) 0 (List.length (l++(shP ia oa ((nth ks k))).flatten))]]) ⟨(u+(shP ia oa ((nth ks k))).length),true,true,5,1,(l++(shP ia oa ((nth ks k))).flatten).map bB⟩))):LocC Try.prog 73 2 [(V.mp 0 v 0 0),(V.sl (List.map cF (ks))),(V.str sep),(iV (lv))] (hpB2 (bk v 94 4 [[(V.sl (List.map cS (ia))),(V.sl (List.map cS (oa))),(a),(V.ms 1 u 0 (List.length (l)))]]) (bz u 5 1 (List.map bB (l)))) (.ok (.tup []) (hpB2 (bk v 94 4 [[.sl (ia.map cS),.sl (oa.map cS),.mp 0 v 0 2,.ms 1 ((u+(sevR ia oa sep lv ks 0).length)) 0 (List.length (l++(sevR ia oa sep lv ks 0).flatten))]]) ⟨(u+(sevR ia oa sep lv ks 0).length),true,true,5,1,(l++(sevR ia oa sep lv ks 0).flatten).map bB⟩)):=by
 refine lW2 (k0:=0) (hla:=by rcases ha with rfl|rfl <;> simp [locB,loc0]) (hlb:=bB_loc _) Try.func73 s73_ok fun hB=>?_
 unfold s73
 dsimp only
 refine W_r (R_mv rfl (R_len rfl (R_mv rfl (R_e (W_block fun Q1 n1 x1 y1 z1=>?_)))))
 refine W_loop (fun mm T H=> ∃ (i:Nat) (w:Nat) (c:List UInt8) (ad:V) (v9:Nat),mm=ks.length - i∧T 0=(V.mp 0 v 0 0)∧T 2=(V.str sep)∧T 3=(iV (lv))∧T 10=(V.sl (List.map cF (ks)))∧T 11=(iV ((ks.length:Nat):Int))∧T 12=(iV ((i:Nat):Int))∧H 0=(bk v 94 4 [[(V.sl (List.map cS (ia))),(V.sl (List.map cS (oa))),(ad),(V.ms 1 w 0 (List.length (c)))]])∧H 1=(bz w 5 1 (List.map bB (c)))∧(H 9).ver=v9∧(i≤ks.length)∧(ad=.nilp∨ad=.mp 0 v 0 2)∧(0 < i→ad=.mp 0 v 0 2)∧(w+(sevR ia oa sep lv ks i).length=u+(sevR ia oa sep lv ks 0).length)∧(c++(sevR ia oa sep lv ks i).flatten=l++(sevR ia oa sep lv ks 0).flatten)∧(c.length+(sevR ia oa sep lv ks i).flatten.length≤4294967296)) ?_ ?_
 ·
  refine ⟨_,0,u,l,a,0,rfl,rfl,rfl,rfl,rfl,rfl,(Eq.trans (@rfl V (iV (0:Int))) rfl),rfl,rfl,(congrArg Blk.ver rfl),?_,?_,?_,?_,?_,?_⟩
  · omega
  · exact ha
  · omega
  · rfl
  · rfl
  · exact hl
 intro mm T H ⟨i,w,c,ad,v9,hmm,t0,t2,t3,t10,t11,t12,h0,h1,h9,hi,had,hmp,hu,hc,hcl⟩ Q2 p12 p22 p32
 unfold b73_0
 refine W_r (R_lss t12 t11 (R_e ?_))
 refine W_seq_if rfl (fun c3=>?_) fun c3=>?_
 ·
  have hi1:i < ks.length:=by have q:=c3; omega
  refine W_seq_skip (W_seq_blockg fun Q4 n4 x4 y4 z4=>(W_r (R_mv t12 (R_idxu (i:=i) t10 t12 (by omega) (cF_eq _) rfl (R_load_pp rfl rfl (R_alloc (i:=9) (n:=v9) (m:=3) rfl h9 rfl (R_mv rfl ?_)))))))
  refine R_sk rfl rfl rfl rfl rfl rfl rfl rfl rfl (R_e (W_seq_seq (W_r (R_mv rfl (R_gtr rfl rfl (R_e ?_))))))
  refine W_seq_if rfl (fun c5=>?_) fun c5=>?_
  ·
   have d2: ¬i=0:=by have q:=c5; omega
   have hq:=(sevR_1l (ia:=ia) (oa:=oa) (sep:=sep) (lv:=lv) hi1 d2).2
   refine W_r (R_mv t0 (R_nilck_mp rfl h0 oB (R_fk rfl h0 (R_mv t2 (R_callE (evcons rfl (evcons rfl evnil)) (LocC.use2 (i:=0) (j:=1) (wstr_loc v w ia oa (ad) c sep had (by omega)) (by decide) rfl h0 h1 (by rcases had with rfl|rfl <;> rfl) (bB_ren _ _) rfl (bB_ren _ _)) (R_e (W_t ?_)))))))
   refine R_mv t0 (R_lk rfl rfl rfl rfl (R_mv t3 (R_callE (evcons rfl (evcons rfl (evcons rfl evnil))) (LocC.use2 (i:=0) (j:=1) (arg_loc v (w+1) ia oa (.mp 0 v 0 2) (c++sep) (((nth (ks) (i)))) lv (.inr rfl) (by (simp only [List.length_append,List.length_cons,List.length_nil]; omega)) (hS i hi1)) (by decide) rfl (@rfl Blk (bk v 94 4 [[(V.sl (List.map cS (ia))),(V.sl (List.map cS (oa))),(V.mp 0 v 0 2),(V.ms 1 (w+1) 0 (List.length (c++sep)))]])) (@rfl Blk (bz (w+1) 5 1 (List.map bB (c++sep)))) rfl (bB_ren _ _) rfl (bB_ren _ _)) (R_e (n4 _ _ (.done (W_t ?_)))))))
   refine R_addN t12 (@rfl V (iV ((1:Nat):Int))) (by omega) (R_mv rfl (R_e ?_))
   refine p12 _ _ _ ?_ ⟨(i+1),((w+1)+(argP lv (shQ ia oa (((nth (ks) (i)))))).length),((c++sep)++(argP lv (shQ ia oa (((nth (ks) (i)))))).flatten),(.mp 0 v 0 2),(v9+1),rfl,t0,t2,t3,t10,t11,(Eq.trans (@rfl V (iV ((i+1:Nat):Int))) (by rfl)),(Eq.trans (@rfl Blk (bk v 94 4 [[(V.sl (List.map cS (ia))),(V.sl (List.map cS (oa))),(V.mp 0 v 0 2),(V.ms 1 ((w+1)+(argP lv (shQ ia oa (((nth (ks) (i)))))).length) 0 (List.length ((c++sep)++(argP lv (shQ ia oa (((nth (ks) (i)))))).flatten)))]])) (by rfl)),(Eq.trans (@rfl Blk (bz ((w+1)+(argP lv (shQ ia oa (((nth (ks) (i)))))).length) 5 1 (List.map bB ((c++sep)++(argP lv (shQ ia oa (((nth (ks) (i)))))).flatten)))) (by rfl)),(congrArg Blk.ver rfl),?_,?_,?_,?_,?_,?_⟩
   · omega
   · omega
   · exact .inr rfl
   · exact fun _=>rfl
   · first|(have q:=(sevR_1l (ia:=ia) (oa:=oa) (sep:=sep) (lv:=lv) hi1 d2).1; omega)|(have q:=(sevR_0l (ia:=ia) (oa:=oa) (sep:=sep) (lv:=lv) hi1 d2).1; omega)
   · first|(rw [← hc,sevR_1c hi1 d2]; done)|(rw [← hc,sevR_0c hi1 d2]; done)
   · simp only [List.length_append]; omega
  have d2:i=0:=by have q:=c5; omega
  have hq:=(sevR_0l (ia:=ia) (oa:=oa) (sep:=sep) (lv:=lv) hi1 d2).2
  refine W_seq_skip (W_t (R_mv t0 (R_lk rfl rfl rfl rfl (R_mv t3 (R_callE (evcons rfl (evcons rfl (evcons rfl evnil))) (LocC.use2 (i:=0) (j:=1) (arg_loc v w ia oa ((ad)) c (((nth (ks) (i)))) lv had (by omega) (hS i hi1)) (by decide) rfl h0 h1 (by rcases had with rfl|rfl <;> rfl) (bB_ren _ _) rfl (bB_ren _ _)) (R_e (n4 _ _ ?_)))))))
  refine .done (W_t (R_addN t12 (@rfl V (iV ((1:Nat):Int))) (by omega) (R_mv rfl (R_e ?_))))
  refine p12 _ _ _ ?_ ⟨(i+1),(w+(argP lv (shQ ia oa (((nth (ks) (i)))))).length),(c++(argP lv (shQ ia oa (((nth (ks) (i)))))).flatten),(.mp 0 v 0 2),(v9+1),rfl,t0,t2,t3,t10,t11,(Eq.trans (@rfl V (iV ((i+1:Nat):Int))) (by rfl)),(Eq.trans (@rfl Blk (bk v 94 4 [[(V.sl (List.map cS (ia))),(V.sl (List.map cS (oa))),(V.mp 0 v 0 2),(V.ms 1 (w+(argP lv (shQ ia oa (((nth (ks) (i)))))).length) 0 (List.length (c++(argP lv (shQ ia oa (((nth (ks) (i)))))).flatten)))]])) (by rfl)),(Eq.trans (@rfl Blk (bz (w+(argP lv (shQ ia oa (((nth (ks) (i)))))).length) 5 1 (List.map bB (c++(argP lv (shQ ia oa (((nth (ks) (i)))))).flatten)))) (by rfl)),(congrArg Blk.ver rfl),?_,?_,?_,?_,?_,?_⟩
  · omega
  · omega
  · exact .inr rfl
  · exact fun _=>rfl
  · first|(have q:=(sevR_1l (ia:=ia) (oa:=oa) (sep:=sep) (lv:=lv) hi1 d2).1; omega)|(have q:=(sevR_0l (ia:=ia) (oa:=oa) (sep:=sep) (lv:=lv) hi1 d2).1; omega)
  · first|(rw [← hc,sevR_1c hi1 d2]; done)|(rw [← hc,sevR_0c hi1 d2]; done)
  · simp only [List.length_append]; omega
 have hi2:i=ks.length:=by have q:=c3; omega
 have e1:w=u+(sevR ia oa sep lv ks 0).length:=by rw [← hu,sevR_end (by omega)]; rfl
 have e2:c=l++(sevR ia oa sep lv ks 0).flatten:=by rw [← hc,sevR_end (by omega)]; simp
 have e3:=hmp (by omega)
 refine W_seq_exit (p32 _ _ _ (x1 _ _ ?_))
 refine RetL2_okn (v:=(V.tup [])) (a:=(bk v 94 4 [[(V.sl (List.map cS (ia))),(V.sl (List.map cS (oa))),(ad),(V.ms 1 w 0 (List.length (c)))]])) (b:=(bz w 5 1 (List.map bB (c)))) rfl ?_ (by simp) (.same (cut_fin 2 _) _) h0 h1 (by simp [locB,loc0,e3]) (bB_loc _)
 rw [e1,e2,e3]
set_option maxHeartbeats 2000000 in
theorem show_step (v u:Nat) (ia oa:List (List UInt8)) (a:V) (l:List UInt8) (f:Fm) (ha:a=.nilp∨a=.mp 0 v 0 2) (hl:l.length+(shP ia oa f).flatten.length≤4294967296) (hok:okF f=true) (hnm:nmd ((ia.length:Nat):Int) ((oa.length:Nat):Int) f=true) (ih: ∀ k,k < f.kids.length→ ∀ (u:Nat) (a:V) (l:List UInt8),(a=.nilp∨a=.mp 0 v 0 2)→l.length+(shP ia oa ((nth f.kids k))).flatten.length≤4294967296→LocC Try.prog 44 2 [.mp 0 v 0 0,fmV ((nth f.kids k))] (hpB2 (bk v 94 4 [[.sl (ia.map cS),.sl (oa.map cS),a,.ms 1 u 0 (List.length (l))]]) ⟨u,true,true,5,1,(l).map bB⟩) (.ok (.tup []) (hpB2 (bk v 94 4 [[.sl (ia.map cS),.sl (oa.map cS),.mp 0 v 0 2,.ms 1 ((u+(shP ia oa ((nth f.kids k))).length)) 0 (List.length (l++(shP ia oa ((nth f.kids k))).flatten))]]) ⟨(u+(shP ia oa ((nth f.kids k))).length),true,true,5,1,(l++(shP ia oa ((nth f.kids k))).flatten).map bB⟩))):LocC Try.prog 44 2 [(V.mp 0 v 0 0),(V.agg [(iV (f.op)),(iV (f.arg)),(V.sl (List.map cF (f.kids)))])] (hpB2 (bk v 94 4 [[(V.sl (List.map cS (ia))),(V.sl (List.map cS (oa))),(a),(V.ms 1 u 0 (List.length (l)))]]) (bz u 5 1 (List.map bB (l)))) (.ok (.tup []) (hpB2 (bk v 94 4 [[.sl (ia.map cS),.sl (oa.map cS),.mp 0 v 0 2,.ms 1 ((u+(shP ia oa f).length)) 0 (List.length (l++(shP ia oa f).flatten))]]) ⟨(u+(shP ia oa f).length),true,true,5,1,(l++(shP ia oa f).flatten).map bB⟩)):=by
 refine lW2 (k0:=0) (hla:=by rcases ha with rfl|rfl <;> simp [locB,loc0]) (hlb:=bB_loc _) Try.func44 s44_ok fun hB=>?_
 unfold s44
 dsimp only
 have hr:=rgt_ok (okF_parts hok).1
 have hn:=nmd_arg hnm
 obtain ⟨r1,r2,r3,r4,r5,r6,r7,r8,r9⟩:=hr
 refine W_r (R_box (i:=3) (n:=0) (m:=3) (cs:=[(iV (f.op)),(iV (f.arg)),(V.sl (List.map cF (f.kids)))]) rfl (congrArg Blk.ver rfl) rfl rfl rfl (R_e (W_r (R_fk rfl rfl (R_lk rfl rfl rfl rfl (R_e (W_block fun Q1 n1 x1 y1 z1=>?_)))))))
 refine W_r (R_eql rfl rfl (R_mv rfl (R_e ?_)))
 refine W_if rfl (fun c2=>?_) fun c2=>?_
 ·
  have o:f.op=1:=c2
  have hP:shP ia oa f=_:=shP_1 o
  obtain ⟨e1,e2,hf⟩:=shW_leaf hP u l
  simp only [List.length_cons,List.length_nil,List.length_append] at hf
  refine W_t (R_mv rfl (R_nilck_mp rfl rfl oB (R_fk rfl rfl (R_callE (evcons rfl (evcons rfl evnil)) (LocC.use2 (i:=0) (j:=1) (wstr_loc v u ia oa (a) l ([116,114,117,101]) ha (by (simp only [List.length_append,List.length_cons,List.length_nil]; omega))) (by decide) rfl (@rfl Blk (bk v 94 4 [[(V.sl (List.map cS (ia))),(V.sl (List.map cS (oa))),(a),(V.ms 1 u 0 (List.length (l)))]])) (@rfl Blk (bz u 5 1 (List.map bB (l)))) (by rcases ha with rfl|rfl <;> rfl) (bB_ren _ _) rfl (bB_ren _ _)) (R_e (n1 _ _ ?_))))))
  refine RetL2_okn (v:=(V.tup [])) (a:=(bk v 94 4 [[(V.sl (List.map cS (ia))),(V.sl (List.map cS (oa))),(V.mp 0 v 0 2),(V.ms 1 (u+1) 0 (List.length (l++([116,114,117,101]))))]])) (b:=(bz (u+1) 5 1 (List.map bB (l++([116,114,117,101]))))) rfl ?_ (by simp) (.same (cut_fin 2 _) _) (@rfl Blk (bk v 94 4 [[(V.sl (List.map cS (ia))),(V.sl (List.map cS (oa))),(V.mp 0 v 0 2),(V.ms 1 (u+1) 0 (List.length (l++([116,114,117,101]))))]])) (@rfl Blk (bz (u+1) 5 1 (List.map bB (l++([116,114,117,101]))))) (by simp [locB,loc0]) (bB_loc _)
  rw [e1,e2] <;> rfl
 have o1: ¬f.op=1:=c2
 refine W_r (R_eql rfl rfl (R_mv rfl (R_e ?_)))
 refine W_if rfl (fun c3=>?_) fun c3=>?_
 ·
  have o:f.op=2:=c3
  have hP:shP ia oa f=_:=shP_2 o
  obtain ⟨e1,e2,hf⟩:=shW_leaf hP u l
  simp only [List.length_cons,List.length_nil,List.length_append] at hf
  refine W_t (R_mv rfl (R_nilck_mp rfl rfl oB (R_fk rfl rfl (R_mv rfl (R_nilck_mp rfl rfl oB (R_fk rfl rfl (R_fk rfl rfl ?_)))))))
  refine R_lk rfl rfl rfl rfl (R_fk rfl rfl (R_lk rfl rfl rfl rfl (R_idxI (i:=(f.arg)) (@rfl V (V.sl (List.map cS (ia)))) (@rfl V (iV (f.arg))) (by omega) (by omega) rfl (R_load_pp rfl rfl (R_sadd (s:=([105,110,58])) (t:=((nth (ia) (f.arg).toNat))) rfl rfl (by (simp only [List.length_append,List.length_cons,List.length_nil]; omega)) (R_callE (evcons rfl (evcons rfl evnil)) (LocC.use2 (i:=0) (j:=1) (wstr_loc v u ia oa (a) l ([105,110,58]++(nth (ia) (f.arg).toNat)) ha (by (simp only [List.length_append,List.length_cons,List.length_nil]; omega))) (by decide) rfl (@rfl Blk (bk v 94 4 [[(V.sl (List.map cS (ia))),(V.sl (List.map cS (oa))),(a),(V.ms 1 u 0 (List.length (l)))]])) (@rfl Blk (bz u 5 1 (List.map bB (l)))) (by rcases ha with rfl|rfl <;> rfl) (bB_ren _ _) rfl (bB_ren _ _)) (R_e ?_)))))))
  refine n1 _ _ ?_
  refine RetL2_okn (v:=(V.tup [])) (a:=(bk v 94 4 [[(V.sl (List.map cS (ia))),(V.sl (List.map cS (oa))),(V.mp 0 v 0 2),(V.ms 1 (u+1) 0 (List.length (l++([105,110,58]++(nth (ia) (f.arg).toNat)))))]])) (b:=(bz (u+1) 5 1 (List.map bB (l++([105,110,58]++(nth (ia) (f.arg).toNat)))))) rfl ?_ (by simp) (.same (cut_fin 2 _) _) (@rfl Blk (bk v 94 4 [[(V.sl (List.map cS (ia))),(V.sl (List.map cS (oa))),(V.mp 0 v 0 2),(V.ms 1 (u+1) 0 (List.length (l++([105,110,58]++(nth (ia) (f.arg).toNat)))))]])) (@rfl Blk (bz (u+1) 5 1 (List.map bB (l++([105,110,58]++(nth (ia) (f.arg).toNat)))))) (by simp [locB,loc0]) (bB_loc _)
  rw [e1,e2] <;> rfl
 have o2: ¬f.op=2:=c3
 refine W_r (R_eql rfl rfl (R_mv rfl (R_e ?_)))
 refine W_if rfl (fun c4=>?_) fun c4=>?_
 ·
  have o:f.op=3:=c4
  have hP:shP ia oa f=_:=shP_3 o
  obtain ⟨e1,e2,hf⟩:=shW_leaf hP u l
  simp only [List.length_cons,List.length_nil,List.length_append] at hf
  refine W_t (R_mv rfl (R_nilck_mp rfl rfl oB (R_fk rfl rfl (R_mv rfl (R_nilck_mp rfl rfl oB (R_fk rfl rfl (R_fk rfl rfl ?_)))))))
  refine R_lk rfl rfl rfl rfl (R_fk rfl rfl (R_lk rfl rfl rfl rfl (R_idxI (i:=(f.arg)) (@rfl V (V.sl (List.map cS (oa)))) (@rfl V (iV (f.arg))) (by omega) (by omega) rfl (R_load_pp rfl rfl (R_sadd (s:=([111,117,116,58])) (t:=((nth (oa) (f.arg).toNat))) rfl rfl (by (simp only [List.length_append,List.length_cons,List.length_nil]; omega)) (R_callE (evcons rfl (evcons rfl evnil)) (LocC.use2 (i:=0) (j:=1) (wstr_loc v u ia oa (a) l ([111,117,116,58]++(nth (oa) (f.arg).toNat)) ha (by (simp only [List.length_append,List.length_cons,List.length_nil]; omega))) (by decide) rfl (@rfl Blk (bk v 94 4 [[(V.sl (List.map cS (ia))),(V.sl (List.map cS (oa))),(a),(V.ms 1 u 0 (List.length (l)))]])) (@rfl Blk (bz u 5 1 (List.map bB (l)))) (by rcases ha with rfl|rfl <;> rfl) (bB_ren _ _) rfl (bB_ren _ _)) (R_e ?_)))))))
  refine n1 _ _ ?_
  refine RetL2_okn (v:=(V.tup [])) (a:=(bk v 94 4 [[(V.sl (List.map cS (ia))),(V.sl (List.map cS (oa))),(V.mp 0 v 0 2),(V.ms 1 (u+1) 0 (List.length (l++([111,117,116,58]++(nth (oa) (f.arg).toNat)))))]])) (b:=(bz (u+1) 5 1 (List.map bB (l++([111,117,116,58]++(nth (oa) (f.arg).toNat)))))) rfl ?_ (by simp) (.same (cut_fin 2 _) _) (@rfl Blk (bk v 94 4 [[(V.sl (List.map cS (ia))),(V.sl (List.map cS (oa))),(V.mp 0 v 0 2),(V.ms 1 (u+1) 0 (List.length (l++([111,117,116,58]++(nth (oa) (f.arg).toNat)))))]])) (@rfl Blk (bz (u+1) 5 1 (List.map bB (l++([111,117,116,58]++(nth (oa) (f.arg).toNat)))))) (by simp [locB,loc0]) (bB_loc _)
  rw [e1,e2] <;> rfl
 have o3: ¬f.op=3:=c4
 refine W_r (R_eql rfl rfl (R_mv rfl (R_e ?_)))
 refine W_if rfl (fun c5=>?_) fun c5=>?_
 ·
  have o:f.op=4:=c5
  have hk:0 < f.kids.length:=by omega
  have hP:shP ia oa f=_:=shP_4 o hk
  obtain ⟨e1,e2,hf⟩:=shW_un hP u l
  simp only [List.length_cons,List.length_nil,List.length_append] at hf
  refine W_r (R_mv rfl (R_nilck_mp rfl rfl oB (R_fk rfl rfl (R_callE (evcons rfl (evcons rfl evnil)) (LocC.use2 (i:=0) (j:=1) (wstr_loc v u ia oa (a) l ([33]) ha (by (simp only [List.length_append,List.length_cons,List.length_nil]; omega))) (by decide) rfl (@rfl Blk (bk v 94 4 [[(V.sl (List.map cS (ia))),(V.sl (List.map cS (oa))),(a),(V.ms 1 u 0 (List.length (l)))]])) (@rfl Blk (bz u 5 1 (List.map bB (l)))) (by rcases ha with rfl|rfl <;> rfl) (bB_ren _ _) rfl (bB_ren _ _)) (R_e (W_t (R_mv rfl ?_)))))))
  refine R_fk rfl rfl (R_lk rfl rfl rfl rfl (R_idxu (i:=0) (@rfl V (V.sl (List.map cF (f.kids)))) (@rfl V (iV ((0:Nat):Int))) (by omega) (cF_eq _) rfl (R_load_pp rfl rfl (R_callE (evcons rfl (evcons rfl (evcons rfl evnil))) (LocC.use2 (i:=0) (j:=1) (arg_loc v (u+1) ia oa (.mp 0 v 0 2) (l++([33])) (((nth (f.kids) (0)))) 4 (.inr rfl) (by (simp only [List.length_append,List.length_cons,List.length_nil]; omega)) (ih _ (by omega))) (by decide) rfl (@rfl Blk (bk v 94 4 [[(V.sl (List.map cS (ia))),(V.sl (List.map cS (oa))),(V.mp 0 v 0 2),(V.ms 1 (u+1) 0 (List.length (l++([33]))))]])) (@rfl Blk (bz (u+1) 5 1 (List.map bB (l++([33]))))) rfl (bB_ren _ _) rfl (bB_ren _ _)) (R_e (n1 _ _ ?_))))))
  refine RetL2_okn (v:=(V.tup [])) (a:=(bk v 94 4 [[(V.sl (List.map cS (ia))),(V.sl (List.map cS (oa))),(V.mp 0 v 0 2),(V.ms 1 ((u+1)+(argP 4 (shQ ia oa (((nth (f.kids) (0)))))).length) 0 (List.length ((l++([33]))++(argP 4 (shQ ia oa (((nth (f.kids) (0)))))).flatten)))]])) (b:=(bz ((u+1)+(argP 4 (shQ ia oa (((nth (f.kids) (0)))))).length) 5 1 (List.map bB ((l++([33]))++(argP 4 (shQ ia oa (((nth (f.kids) (0)))))).flatten)))) rfl ?_ (by simp) (.same (cut_fin 2 _) _) (@rfl Blk (bk v 94 4 [[(V.sl (List.map cS (ia))),(V.sl (List.map cS (oa))),(V.mp 0 v 0 2),(V.ms 1 ((u+1)+(argP 4 (shQ ia oa (((nth (f.kids) (0)))))).length) 0 (List.length ((l++([33]))++(argP 4 (shQ ia oa (((nth (f.kids) (0)))))).flatten)))]])) (@rfl Blk (bz ((u+1)+(argP 4 (shQ ia oa (((nth (f.kids) (0)))))).length) 5 1 (List.map bB ((l++([33]))++(argP 4 (shQ ia oa (((nth (f.kids) (0)))))).flatten)))) (by simp [locB,loc0]) (bB_loc _)
  rw [e1,e2] <;> rfl
 have o4: ¬f.op=4:=c5
 refine W_r (R_eql rfl rfl (R_mv rfl (R_e ?_)))
 refine W_if rfl (fun c6=>?_) fun c6=>?_
 ·
  have o:f.op=7:=c6
  have hk:0 < f.kids.length:=by omega
  have hP:shP ia oa f=_:=shP_7 o hk
  obtain ⟨e1,e2,hf⟩:=shW_un hP u l
  simp only [List.length_cons,List.length_nil,List.length_append] at hf
  refine W_r (R_mv rfl (R_nilck_mp rfl rfl oB (R_fk rfl rfl (R_callE (evcons rfl (evcons rfl evnil)) (LocC.use2 (i:=0) (j:=1) (wstr_loc v u ia oa (a) l ([88,32]) ha (by (simp only [List.length_append,List.length_cons,List.length_nil]; omega))) (by decide) rfl (@rfl Blk (bk v 94 4 [[(V.sl (List.map cS (ia))),(V.sl (List.map cS (oa))),(a),(V.ms 1 u 0 (List.length (l)))]])) (@rfl Blk (bz u 5 1 (List.map bB (l)))) (by rcases ha with rfl|rfl <;> rfl) (bB_ren _ _) rfl (bB_ren _ _)) (R_e (W_t (R_mv rfl ?_)))))))
  refine R_fk rfl rfl (R_lk rfl rfl rfl rfl (R_idxu (i:=0) (@rfl V (V.sl (List.map cF (f.kids)))) (@rfl V (iV ((0:Nat):Int))) (by omega) (cF_eq _) rfl (R_load_pp rfl rfl (R_callE (evcons rfl (evcons rfl (evcons rfl evnil))) (LocC.use2 (i:=0) (j:=1) (arg_loc v (u+1) ia oa (.mp 0 v 0 2) (l++([88,32])) (((nth (f.kids) (0)))) 4 (.inr rfl) (by (simp only [List.length_append,List.length_cons,List.length_nil]; omega)) (ih _ (by omega))) (by decide) rfl (@rfl Blk (bk v 94 4 [[(V.sl (List.map cS (ia))),(V.sl (List.map cS (oa))),(V.mp 0 v 0 2),(V.ms 1 (u+1) 0 (List.length (l++([88,32]))))]])) (@rfl Blk (bz (u+1) 5 1 (List.map bB (l++([88,32]))))) rfl (bB_ren _ _) rfl (bB_ren _ _)) (R_e (n1 _ _ ?_))))))
  refine RetL2_okn (v:=(V.tup [])) (a:=(bk v 94 4 [[(V.sl (List.map cS (ia))),(V.sl (List.map cS (oa))),(V.mp 0 v 0 2),(V.ms 1 ((u+1)+(argP 4 (shQ ia oa (((nth (f.kids) (0)))))).length) 0 (List.length ((l++([88,32]))++(argP 4 (shQ ia oa (((nth (f.kids) (0)))))).flatten)))]])) (b:=(bz ((u+1)+(argP 4 (shQ ia oa (((nth (f.kids) (0)))))).length) 5 1 (List.map bB ((l++([88,32]))++(argP 4 (shQ ia oa (((nth (f.kids) (0)))))).flatten)))) rfl ?_ (by simp) (.same (cut_fin 2 _) _) (@rfl Blk (bk v 94 4 [[(V.sl (List.map cS (ia))),(V.sl (List.map cS (oa))),(V.mp 0 v 0 2),(V.ms 1 ((u+1)+(argP 4 (shQ ia oa (((nth (f.kids) (0)))))).length) 0 (List.length ((l++([88,32]))++(argP 4 (shQ ia oa (((nth (f.kids) (0)))))).flatten)))]])) (@rfl Blk (bz ((u+1)+(argP 4 (shQ ia oa (((nth (f.kids) (0)))))).length) 5 1 (List.map bB ((l++([88,32]))++(argP 4 (shQ ia oa (((nth (f.kids) (0)))))).flatten)))) (by simp [locB,loc0]) (bB_loc _)
  rw [e1,e2] <;> rfl
 have o7: ¬f.op=7:=c6
 refine W_r (R_eql rfl rfl (R_mv rfl (R_e ?_)))
 refine W_if rfl (fun c7=>?_) fun c7=>?_
 ·
  have o:f.op=9:=c7
  have hk:0 < f.kids.length:=by omega
  have hP:shP ia oa f=_:=shP_9 o hk
  obtain ⟨e1,e2,hf⟩:=shW_un hP u l
  simp only [List.length_cons,List.length_nil,List.length_append] at hf
  refine W_r (R_mv rfl (R_nilck_mp rfl rfl oB (R_fk rfl rfl (R_callE (evcons rfl (evcons rfl evnil)) (LocC.use2 (i:=0) (j:=1) (wstr_loc v u ia oa (a) l ([78,32]) ha (by (simp only [List.length_append,List.length_cons,List.length_nil]; omega))) (by decide) rfl (@rfl Blk (bk v 94 4 [[(V.sl (List.map cS (ia))),(V.sl (List.map cS (oa))),(a),(V.ms 1 u 0 (List.length (l)))]])) (@rfl Blk (bz u 5 1 (List.map bB (l)))) (by rcases ha with rfl|rfl <;> rfl) (bB_ren _ _) rfl (bB_ren _ _)) (R_e (W_t (R_mv rfl ?_)))))))
  refine R_fk rfl rfl (R_lk rfl rfl rfl rfl (R_idxu (i:=0) (@rfl V (V.sl (List.map cF (f.kids)))) (@rfl V (iV ((0:Nat):Int))) (by omega) (cF_eq _) rfl (R_load_pp rfl rfl (R_callE (evcons rfl (evcons rfl (evcons rfl evnil))) (LocC.use2 (i:=0) (j:=1) (arg_loc v (u+1) ia oa (.mp 0 v 0 2) (l++([78,32])) (((nth (f.kids) (0)))) 4 (.inr rfl) (by (simp only [List.length_append,List.length_cons,List.length_nil]; omega)) (ih _ (by omega))) (by decide) rfl (@rfl Blk (bk v 94 4 [[(V.sl (List.map cS (ia))),(V.sl (List.map cS (oa))),(V.mp 0 v 0 2),(V.ms 1 (u+1) 0 (List.length (l++([78,32]))))]])) (@rfl Blk (bz (u+1) 5 1 (List.map bB (l++([78,32]))))) rfl (bB_ren _ _) rfl (bB_ren _ _)) (R_e (n1 _ _ ?_))))))
  refine RetL2_okn (v:=(V.tup [])) (a:=(bk v 94 4 [[(V.sl (List.map cS (ia))),(V.sl (List.map cS (oa))),(V.mp 0 v 0 2),(V.ms 1 ((u+1)+(argP 4 (shQ ia oa (((nth (f.kids) (0)))))).length) 0 (List.length ((l++([78,32]))++(argP 4 (shQ ia oa (((nth (f.kids) (0)))))).flatten)))]])) (b:=(bz ((u+1)+(argP 4 (shQ ia oa (((nth (f.kids) (0)))))).length) 5 1 (List.map bB ((l++([78,32]))++(argP 4 (shQ ia oa (((nth (f.kids) (0)))))).flatten)))) rfl ?_ (by simp) (.same (cut_fin 2 _) _) (@rfl Blk (bk v 94 4 [[(V.sl (List.map cS (ia))),(V.sl (List.map cS (oa))),(V.mp 0 v 0 2),(V.ms 1 ((u+1)+(argP 4 (shQ ia oa (((nth (f.kids) (0)))))).length) 0 (List.length ((l++([78,32]))++(argP 4 (shQ ia oa (((nth (f.kids) (0)))))).flatten)))]])) (@rfl Blk (bz ((u+1)+(argP 4 (shQ ia oa (((nth (f.kids) (0)))))).length) 5 1 (List.map bB ((l++([78,32]))++(argP 4 (shQ ia oa (((nth (f.kids) (0)))))).flatten)))) (by simp [locB,loc0]) (bB_loc _)
  rw [e1,e2] <;> rfl
 have o9: ¬f.op=9:=c7
 refine W_r (R_eql rfl rfl (R_mv rfl (R_e ?_)))
 refine W_if rfl (fun c8=>?_) fun c8=>?_
 ·
  have o:f.op=6:=c8
  have hP:shP ia oa f=_:=shP_6 o
  have hk:0 < f.kids.length:=by omega
  rw [hP] at hl
  refine W_t (R_mv rfl (R_fk rfl rfl (R_lk rfl rfl rfl rfl (R_callE (evcons rfl (evcons rfl (evcons rfl (evcons rfl evnil)))) (LocC.use2 (i:=0) (j:=1) (several_loc v u ia oa ((a)) l f.kids ([32,124,32]) 2 ha (by omega) (by omega) ih) (by decide) rfl (@rfl Blk (bk v 94 4 [[(V.sl (List.map cS (ia))),(V.sl (List.map cS (oa))),(a),(V.ms 1 u 0 (List.length (l)))]])) (@rfl Blk (bz u 5 1 (List.map bB (l)))) (by rcases ha with rfl|rfl <;> rfl) (bB_ren _ _) rfl (bB_ren _ _)) (R_e (n1 _ _ ?_))))))
  refine RetL2_okn (v:=(V.tup [])) (a:=(bk v 94 4 [[(V.sl (List.map cS (ia))),(V.sl (List.map cS (oa))),(V.mp 0 v 0 2),(V.ms 1 (u+(sevR ia oa ([32,124,32]) 2 f.kids 0).length) 0 (List.length (l++(sevR ia oa ([32,124,32]) 2 f.kids 0).flatten)))]])) (b:=(bz (u+(sevR ia oa ([32,124,32]) 2 f.kids 0).length) 5 1 (List.map bB (l++(sevR ia oa ([32,124,32]) 2 f.kids 0).flatten)))) rfl ?_ (by simp) (.same (cut_fin 2 _) _) (@rfl Blk (bk v 94 4 [[(V.sl (List.map cS (ia))),(V.sl (List.map cS (oa))),(V.mp 0 v 0 2),(V.ms 1 (u+(sevR ia oa ([32,124,32]) 2 f.kids 0).length) 0 (List.length (l++(sevR ia oa ([32,124,32]) 2 f.kids 0).flatten)))]])) (@rfl Blk (bz (u+(sevR ia oa ([32,124,32]) 2 f.kids 0).length) 5 1 (List.map bB (l++(sevR ia oa ([32,124,32]) 2 f.kids 0).flatten)))) (by simp [locB,loc0]) (bB_loc _)
  rw [hP] <;> rfl
 have o6: ¬f.op=6:=c8
 refine W_r (R_eql rfl rfl (R_mv rfl (R_e ?_)))
 refine W_if rfl (fun c9=>?_) fun c9=>?_
 ·
  have o:f.op=5:=c9
  have hP:shP ia oa f=_:=shP_5 o
  have hk:0 < f.kids.length:=by omega
  rw [hP] at hl
  refine W_t (R_mv rfl (R_fk rfl rfl (R_lk rfl rfl rfl rfl (R_callE (evcons rfl (evcons rfl (evcons rfl (evcons rfl evnil)))) (LocC.use2 (i:=0) (j:=1) (several_loc v u ia oa ((a)) l f.kids ([32,38,32]) 3 ha (by omega) (by omega) ih) (by decide) rfl (@rfl Blk (bk v 94 4 [[(V.sl (List.map cS (ia))),(V.sl (List.map cS (oa))),(a),(V.ms 1 u 0 (List.length (l)))]])) (@rfl Blk (bz u 5 1 (List.map bB (l)))) (by rcases ha with rfl|rfl <;> rfl) (bB_ren _ _) rfl (bB_ren _ _)) (R_e (n1 _ _ ?_))))))
  refine RetL2_okn (v:=(V.tup [])) (a:=(bk v 94 4 [[(V.sl (List.map cS (ia))),(V.sl (List.map cS (oa))),(V.mp 0 v 0 2),(V.ms 1 (u+(sevR ia oa ([32,38,32]) 3 f.kids 0).length) 0 (List.length (l++(sevR ia oa ([32,38,32]) 3 f.kids 0).flatten)))]])) (b:=(bz (u+(sevR ia oa ([32,38,32]) 3 f.kids 0).length) 5 1 (List.map bB (l++(sevR ia oa ([32,38,32]) 3 f.kids 0).flatten)))) rfl ?_ (by simp) (.same (cut_fin 2 _) _) (@rfl Blk (bk v 94 4 [[(V.sl (List.map cS (ia))),(V.sl (List.map cS (oa))),(V.mp 0 v 0 2),(V.ms 1 (u+(sevR ia oa ([32,38,32]) 3 f.kids 0).length) 0 (List.length (l++(sevR ia oa ([32,38,32]) 3 f.kids 0).flatten)))]])) (@rfl Blk (bz (u+(sevR ia oa ([32,38,32]) 3 f.kids 0).length) 5 1 (List.map bB (l++(sevR ia oa ([32,38,32]) 3 f.kids 0).flatten)))) (by simp [locB,loc0]) (bB_loc _)
  rw [hP] <;> rfl
 have o5: ¬f.op=5:=c9
 refine W_r (R_eql rfl rfl (R_mv rfl (R_e ?_)))
 refine W_if rfl (fun c10=>?_) fun c10=>?_
 ·
  have o:f.op=8:=c10
  have hk:1 < f.kids.length:=by omega
  have hP:shP ia oa f=_:=shP_8 o hk
  obtain ⟨e1,e2,hf⟩:=shW_bin hP u l
  simp only [List.length_cons,List.length_nil,List.length_append] at hf
  refine W_r (R_mv rfl (R_fk rfl rfl (R_lk rfl rfl rfl rfl (R_idxu (i:=0) (@rfl V (V.sl (List.map cF (f.kids)))) (@rfl V (iV ((0:Nat):Int))) (by omega) (cF_eq _) rfl (R_load_pp rfl rfl (R_callE (evcons rfl (evcons rfl (evcons rfl evnil))) (LocC.use2 (i:=0) (j:=1) (arg_loc v u ia oa ((a)) l (((nth (f.kids) (0)))) 4 ha (by omega) (ih _ (by omega))) (by decide) rfl (@rfl Blk (bk v 94 4 [[(V.sl (List.map cS (ia))),(V.sl (List.map cS (oa))),(a),(V.ms 1 u 0 (List.length (l)))]])) (@rfl Blk (bz u 5 1 (List.map bB (l)))) (by rcases ha with rfl|rfl <;> rfl) (bB_ren _ _) rfl (bB_ren _ _)) (R_e ?_)))))))
  refine W_r (R_mv rfl (R_nilck_mp rfl rfl oB (R_fk rfl rfl (R_callE (evcons rfl (evcons rfl evnil)) (LocC.use2 (i:=0) (j:=1) (wstr_loc v (u+(argP 4 (shQ ia oa (((nth (f.kids) (0)))))).length) ia oa (V.mp 0 v 0 2) (l++(argP 4 (shQ ia oa (((nth (f.kids) (0)))))).flatten) ([32,85,32]) (.inr rfl) (by (simp only [List.length_append,List.length_cons,List.length_nil]; omega))) (by decide) rfl (@rfl Blk (bk v 94 4 [[(V.sl (List.map cS (ia))),(V.sl (List.map cS (oa))),(V.mp 0 v 0 2),(V.ms 1 (u+(argP 4 (shQ ia oa (((nth (f.kids) (0)))))).length) 0 (List.length (l++(argP 4 (shQ ia oa (((nth (f.kids) (0)))))).flatten)))]])) (@rfl Blk (bz (u+(argP 4 (shQ ia oa (((nth (f.kids) (0)))))).length) 5 1 (List.map bB (l++(argP 4 (shQ ia oa (((nth (f.kids) (0)))))).flatten)))) rfl (bB_ren _ _) rfl (bB_ren _ _)) (R_e (W_t (R_mv rfl ?_)))))))
  refine R_fk rfl rfl (R_lk rfl rfl rfl rfl (R_idxu (i:=1) (@rfl V (V.sl (List.map cF (f.kids)))) (@rfl V (iV ((1:Nat):Int))) (by omega) (cF_eq _) rfl (R_load_pp rfl rfl (R_callE (evcons rfl (evcons rfl (evcons rfl evnil))) (LocC.use2 (i:=0) (j:=1) (arg_loc v ((u+(argP 4 (shQ ia oa (((nth (f.kids) (0)))))).length)+1) ia oa (.mp 0 v 0 2) (l++(argP 4 (shQ ia oa (((nth (f.kids) (0)))))).flatten++([32,85,32])) (((nth (f.kids) (1)))) 3 (.inr rfl) (by (simp only [List.length_append,List.length_cons,List.length_nil]; omega)) (ih _ (by omega))) (by decide) rfl (@rfl Blk (bk v 94 4 [[(V.sl (List.map cS (ia))),(V.sl (List.map cS (oa))),(V.mp 0 v 0 2),(V.ms 1 ((u+(argP 4 (shQ ia oa (((nth (f.kids) (0)))))).length)+1) 0 (List.length (l++(argP 4 (shQ ia oa (((nth (f.kids) (0)))))).flatten++([32,85,32]))))]])) (@rfl Blk (bz ((u+(argP 4 (shQ ia oa (((nth (f.kids) (0)))))).length)+1) 5 1 (List.map bB (l++(argP 4 (shQ ia oa (((nth (f.kids) (0)))))).flatten++([32,85,32]))))) rfl (bB_ren _ _) rfl (bB_ren _ _)) (R_e (n1 _ _ ?_))))))
  refine RetL2_okn (v:=(V.tup [])) (a:=(bk v 94 4 [[(V.sl (List.map cS (ia))),(V.sl (List.map cS (oa))),(V.mp 0 v 0 2),(V.ms 1 (((u+(argP 4 (shQ ia oa (((nth (f.kids) (0)))))).length)+1)+(argP 3 (shQ ia oa (((nth (f.kids) (1)))))).length) 0 (List.length ((l++(argP 4 (shQ ia oa (((nth (f.kids) (0)))))).flatten++([32,85,32]))++(argP 3 (shQ ia oa (((nth (f.kids) (1)))))).flatten)))]])) (b:=(bz (((u+(argP 4 (shQ ia oa (((nth (f.kids) (0)))))).length)+1)+(argP 3 (shQ ia oa (((nth (f.kids) (1)))))).length) 5 1 (List.map bB ((l++(argP 4 (shQ ia oa (((nth (f.kids) (0)))))).flatten++([32,85,32]))++(argP 3 (shQ ia oa (((nth (f.kids) (1)))))).flatten)))) rfl ?_ (by simp) (.same (cut_fin 2 _) _) (@rfl Blk (bk v 94 4 [[(V.sl (List.map cS (ia))),(V.sl (List.map cS (oa))),(V.mp 0 v 0 2),(V.ms 1 (((u+(argP 4 (shQ ia oa (((nth (f.kids) (0)))))).length)+1)+(argP 3 (shQ ia oa (((nth (f.kids) (1)))))).length) 0 (List.length ((l++(argP 4 (shQ ia oa (((nth (f.kids) (0)))))).flatten++([32,85,32]))++(argP 3 (shQ ia oa (((nth (f.kids) (1)))))).flatten)))]])) (@rfl Blk (bz (((u+(argP 4 (shQ ia oa (((nth (f.kids) (0)))))).length)+1)+(argP 3 (shQ ia oa (((nth (f.kids) (1)))))).length) 5 1 (List.map bB ((l++(argP 4 (shQ ia oa (((nth (f.kids) (0)))))).flatten++([32,85,32]))++(argP 3 (shQ ia oa (((nth (f.kids) (1)))))).flatten)))) (by simp [locB,loc0]) (bB_loc _)
  rw [e1,e2] <;> rfl
 have o8: ¬f.op=8:=c10
 refine W_r (R_eql rfl rfl (R_mv rfl (R_e ?_)))
 refine W_if rfl (fun c11=>?_) fun c11=>?_
 ·
  have o:f.op=10:=c11
  have hk:1 < f.kids.length:=by omega
  have hP:shP ia oa f=_:=shP_10 o hk
  obtain ⟨e1,e2,hf⟩:=shW_bin hP u l
  simp only [List.length_cons,List.length_nil,List.length_append] at hf
  refine W_r (R_mv rfl (R_fk rfl rfl (R_lk rfl rfl rfl rfl (R_idxu (i:=0) (@rfl V (V.sl (List.map cF (f.kids)))) (@rfl V (iV ((0:Nat):Int))) (by omega) (cF_eq _) rfl (R_load_pp rfl rfl (R_callE (evcons rfl (evcons rfl (evcons rfl evnil))) (LocC.use2 (i:=0) (j:=1) (arg_loc v u ia oa ((a)) l (((nth (f.kids) (0)))) 4 ha (by omega) (ih _ (by omega))) (by decide) rfl (@rfl Blk (bk v 94 4 [[(V.sl (List.map cS (ia))),(V.sl (List.map cS (oa))),(a),(V.ms 1 u 0 (List.length (l)))]])) (@rfl Blk (bz u 5 1 (List.map bB (l)))) (by rcases ha with rfl|rfl <;> rfl) (bB_ren _ _) rfl (bB_ren _ _)) (R_e ?_)))))))
  refine W_r (R_mv rfl (R_nilck_mp rfl rfl oB (R_fk rfl rfl (R_callE (evcons rfl (evcons rfl evnil)) (LocC.use2 (i:=0) (j:=1) (wstr_loc v (u+(argP 4 (shQ ia oa (((nth (f.kids) (0)))))).length) ia oa (V.mp 0 v 0 2) (l++(argP 4 (shQ ia oa (((nth (f.kids) (0)))))).flatten) ([32,82,32]) (.inr rfl) (by (simp only [List.length_append,List.length_cons,List.length_nil]; omega))) (by decide) rfl (@rfl Blk (bk v 94 4 [[(V.sl (List.map cS (ia))),(V.sl (List.map cS (oa))),(V.mp 0 v 0 2),(V.ms 1 (u+(argP 4 (shQ ia oa (((nth (f.kids) (0)))))).length) 0 (List.length (l++(argP 4 (shQ ia oa (((nth (f.kids) (0)))))).flatten)))]])) (@rfl Blk (bz (u+(argP 4 (shQ ia oa (((nth (f.kids) (0)))))).length) 5 1 (List.map bB (l++(argP 4 (shQ ia oa (((nth (f.kids) (0)))))).flatten)))) rfl (bB_ren _ _) rfl (bB_ren _ _)) (R_e (W_t (R_mv rfl ?_)))))))
  refine R_fk rfl rfl (R_lk rfl rfl rfl rfl (R_idxu (i:=1) (@rfl V (V.sl (List.map cF (f.kids)))) (@rfl V (iV ((1:Nat):Int))) (by omega) (cF_eq _) rfl (R_load_pp rfl rfl (R_callE (evcons rfl (evcons rfl (evcons rfl evnil))) (LocC.use2 (i:=0) (j:=1) (arg_loc v ((u+(argP 4 (shQ ia oa (((nth (f.kids) (0)))))).length)+1) ia oa (.mp 0 v 0 2) (l++(argP 4 (shQ ia oa (((nth (f.kids) (0)))))).flatten++([32,82,32])) (((nth (f.kids) (1)))) 3 (.inr rfl) (by (simp only [List.length_append,List.length_cons,List.length_nil]; omega)) (ih _ (by omega))) (by decide) rfl (@rfl Blk (bk v 94 4 [[(V.sl (List.map cS (ia))),(V.sl (List.map cS (oa))),(V.mp 0 v 0 2),(V.ms 1 ((u+(argP 4 (shQ ia oa (((nth (f.kids) (0)))))).length)+1) 0 (List.length (l++(argP 4 (shQ ia oa (((nth (f.kids) (0)))))).flatten++([32,82,32]))))]])) (@rfl Blk (bz ((u+(argP 4 (shQ ia oa (((nth (f.kids) (0)))))).length)+1) 5 1 (List.map bB (l++(argP 4 (shQ ia oa (((nth (f.kids) (0)))))).flatten++([32,82,32]))))) rfl (bB_ren _ _) rfl (bB_ren _ _)) (R_e (n1 _ _ ?_))))))
  refine RetL2_okn (v:=(V.tup [])) (a:=(bk v 94 4 [[(V.sl (List.map cS (ia))),(V.sl (List.map cS (oa))),(V.mp 0 v 0 2),(V.ms 1 (((u+(argP 4 (shQ ia oa (((nth (f.kids) (0)))))).length)+1)+(argP 3 (shQ ia oa (((nth (f.kids) (1)))))).length) 0 (List.length ((l++(argP 4 (shQ ia oa (((nth (f.kids) (0)))))).flatten++([32,82,32]))++(argP 3 (shQ ia oa (((nth (f.kids) (1)))))).flatten)))]])) (b:=(bz (((u+(argP 4 (shQ ia oa (((nth (f.kids) (0)))))).length)+1)+(argP 3 (shQ ia oa (((nth (f.kids) (1)))))).length) 5 1 (List.map bB ((l++(argP 4 (shQ ia oa (((nth (f.kids) (0)))))).flatten++([32,82,32]))++(argP 3 (shQ ia oa (((nth (f.kids) (1)))))).flatten)))) rfl ?_ (by simp) (.same (cut_fin 2 _) _) (@rfl Blk (bk v 94 4 [[(V.sl (List.map cS (ia))),(V.sl (List.map cS (oa))),(V.mp 0 v 0 2),(V.ms 1 (((u+(argP 4 (shQ ia oa (((nth (f.kids) (0)))))).length)+1)+(argP 3 (shQ ia oa (((nth (f.kids) (1)))))).length) 0 (List.length ((l++(argP 4 (shQ ia oa (((nth (f.kids) (0)))))).flatten++([32,82,32]))++(argP 3 (shQ ia oa (((nth (f.kids) (1)))))).flatten)))]])) (@rfl Blk (bz (((u+(argP 4 (shQ ia oa (((nth (f.kids) (0)))))).length)+1)+(argP 3 (shQ ia oa (((nth (f.kids) (1)))))).length) 5 1 (List.map bB ((l++(argP 4 (shQ ia oa (((nth (f.kids) (0)))))).flatten++([32,82,32]))++(argP 3 (shQ ia oa (((nth (f.kids) (1)))))).flatten)))) (by simp [locB,loc0]) (bB_loc _)
  rw [e1,e2] <;> rfl
 · exfalso; omega
theorem show_loc_n (v:Nat) (ia oa:List (List UInt8)): ∀ (n:Nat) (f:Fm),f.sz≤n→okF f=true→nmd ((ia.length:Nat):Int) ((oa.length:Nat):Int) f=true→ ∀ (u:Nat) (a:V) (l:List UInt8),(a=.nilp∨a=.mp 0 v 0 2)→l.length+(shP ia oa f).flatten.length≤4294967296→LocC Try.prog 44 2 [.mp 0 v 0 0,fmV f] (hpB2 (bk v 94 4 [[.sl (ia.map cS),.sl (oa.map cS),a,.ms 1 u 0 (List.length (l))]]) ⟨u,true,true,5,1,(l).map bB⟩) (.ok (.tup []) (hpB2 (bk v 94 4 [[.sl (ia.map cS),.sl (oa.map cS),.mp 0 v 0 2,.ms 1 ((u+(shP ia oa f).length)) 0 (List.length (l++(shP ia oa f).flatten))]]) ⟨(u+(shP ia oa f).length),true,true,5,1,(l++(shP ia oa f).flatten).map bB⟩))
  |0,f,h,_,_=>by cases f; rw [Fm.sz] at h; omega
  |n+1,f,h,hok,hnm=>fun u a l ha hl=>show_step v u ia oa a l f ha hl hok hnm fun k hk=>show_loc_n v ia oa n (nth f.kids k) (by have:=Fm.sz_kid hk; omega) ((okF_parts hok).2 k hk) (nmd_kid hnm hk)
theorem show_loc (v:Nat) (ia oa:List (List UInt8)) (f:Fm) (hok:okF f=true) (hnm:nmd ((ia.length:Nat):Int) ((oa.length:Nat):Int) f=true): ∀ (u:Nat) (a:V) (l:List UInt8),(a=.nilp∨a=.mp 0 v 0 2)→l.length+(shP ia oa f).flatten.length≤4294967296→LocC Try.prog 44 2 [.mp 0 v 0 0,fmV f] (hpB2 (bk v 94 4 [[.sl (ia.map cS),.sl (oa.map cS),a,.ms 1 u 0 (List.length (l))]]) ⟨u,true,true,5,1,(l).map bB⟩) (.ok (.tup []) (hpB2 (bk v 94 4 [[.sl (ia.map cS),.sl (oa.map cS),.mp 0 v 0 2,.ms 1 ((u+(shP ia oa f).length)) 0 (List.length (l++(shP ia oa f).flatten))]]) ⟨(u+(shP ia oa f).length),true,true,5,1,(l++(shP ia oa f).flatten).map bB⟩)):=show_loc_n v ia oa f.sz f (Nat.le_refl _) hok hnm
theorem bu119:Try.prog.underlying 119=some (.pointer 5):=by kernel_rfl
theorem bc5:Try.prog.cellsOf 5=1:=by kernel_rfl
set_option maxHeartbeats 1000000 in
set_option maxRecDepth 100000 in
theorem string_calls (b g cap:Nat) (cur:Array Value) (l:List UInt8) (w:World) (h0:l≠[]) (hcap:cap≠0) (h63:l.length≤9223372036854775807)
    (hc:w.cell? ⟨b,3,none⟩=some (.slice (some ⟨g,0,none⟩) l.length cap)) (hg:w.heap[g]?=some (.cells cur 5 (0,0))) (hcur:l.length≤cur.size)
    (hcells: ∀ j x,l[j]?=some x→w.cell? ((⟨g,0,none⟩:Addr).add j)=some (.int .u8 x.toNat)):
    Calls Try.prog 45 #[.pointer (some ⟨b,2,none⟩)] w fun e w'=>e=.returned (.string ⟨l.toArray⟩)∧w'=w.drew.freeze ⟨g,0,none⟩ l.length:=by
  have c1:w.drew.cell? ⟨b,3,none⟩=some (.slice (some ⟨g,0,none⟩) l.length cap):=hc
  have hSD:(Builtin.unsafeSliceData_ #[90] 119 #[.slice (some ⟨g,0,none⟩) l.length cap]).run Try.prog w.drew=.ok (.pointer (some ⟨g,0,none⟩)) w.drew:=
    Lib.run_unsafeSliceData_row _ _ _ _ _ _ hcap
  have hUS:(Builtin.unsafeString_ #[119,3] 9 #[.pointer (some ⟨g,0,none⟩),.int .i64 l.length]).run Try.prog w.drew=.ok (.string ⟨l.toArray⟩) (w.drew.freeze ⟨g,0,none⟩ l.length):=
    Lib.run_unsafeString_row w.drew 119 3 9 5 bu119 bc5 g cur.size (by have hg':w.drew.heap[g]?=some (.cells cur 5 (0,0)):=hg; simp [World.shape?,hg']) l h0 hcur h63 hcells
  have mixed:Try.prog.follows .mixedOrders=true:=by kernel_rfl
  go_enter Try.func45,Try.ntmps45
  go_wp2
  go_region_o
  all_goals (go_wp2; go_ret; exact ⟨rfl,rfl⟩)
theorem bB_rend {v ty:Nat} {lz lv:Bool} (ρ:Nat→Nat) (l:List UInt8):(⟨v,lv,lz,ty,1,l.map bB⟩:Blk)=renB ρ ⟨v,lv,lz,ty,1,l.map bB⟩:=by
  simp only [renB,List.map_map]
  congr 1
theorem step_forget {x : Cx} (hx : Inv x) (j : Nat) (hj : (x.H j).own = true) (w' : World) (h1 : w'.os = x.w.os) (h2 : w'.tape = x.w.tape) (h3 : w'.output = x.w.output) (h4 : w'.heap.size = x.w.heap.size) (h5 : x.w.drawn ≤ w'.drawn)
    (h6: ∀ b,b≠x.σ j→w'.heap[b]?=x.w.heap[b]?):
    let y:Cx:={x with w:=w',H:=upd x.H j {x.H j with live:=false}}
    Inv y∧Frame x y:=by
  intro y
  have dead:(y.H j).own=false:=by show (upd x.H j _ j).own=false; rw [upd_same]; simp [Blk.own]
  have oth: ∀ id,id≠j→y.H id=x.H id:=fun id h=>upd_ne _ _ h
  have ne: ∀ id,(x.H id).own=true→id≠j→x.σ id≠x.σ j:=fun id ho h e=>h (hx.inj id j ho hj e)
  have hF:Frame x y:=by
    refine ⟨h1,h2,h3,Nat.le_of_eq h4.symm,fun b _ hb=>h6 b (Ne.symm (hb j hj)),fun _ h=>h,fun _ h=>.inl h,fun id=>?_,fun id ho=>?_,h5⟩
    · by_cases e:id=j
      · subst e
        refine ⟨by show _≤(upd x.H id _ id).ver; rw [upd_same]; exact Nat.le_refl _,fun hl=>?_⟩
        have:(y.H id).live=false:=by show (upd x.H id _ id).live=false; rw [upd_same]
        rw [this] at hl; cases hl
      · rw [oth id e]
        refine ⟨Nat.le_refl _,fun hl _=>⟨hl,rfl,rfl,rfl,fun ho=>⟨rfl,?_⟩⟩⟩
        unfold rowSize
        rw [show y.w.heap[x.σ id]?=x.w.heap[x.σ id]? from h6 _ (ne id ho e)]
    · by_cases e:id=j
      · subst e; rw [dead] at ho; cases ho
      · rw [oth id e] at ho; exact .inl ⟨ho,rfl⟩
  refine ⟨⟨fun b hb=>by show b < w'.heap.size; rw [h4]; exact hx.zlt b hb,fun b id hb ho=>?_,fun id ho=>?_,fun a b ha hb e=>?_⟩,hF⟩
  · by_cases e:id=j
    · subst e; rw [dead] at ho; cases ho
    · rw [oth id e] at ho; exact hx.zown b id hb ho
  · by_cases e:id=j
    · subst e; rw [dead] at ho; cases ho
    · rw [oth id e] at ho ⊢
      obtain ⟨cc,g1,g2,g3,g4⟩:=hx.blk id ho
      exact ⟨cc,by rw [show y.w.heap[x.σ id]?=x.w.heap[x.σ id]? from h6 _ (ne id ho e)]; exact g1,g2,g3,fun r row j v hr hj=>(g4 r row j v hr hj).frame hx hF⟩
  · by_cases e1:a=j
    · subst e1; rw [dead] at ha; cases ha
    · by_cases e2:b=j
      · subst e2; rw [dead] at hb; cases hb
      · rw [oth a e1] at ha; rw [oth b e2] at hb
        exact hx.inj a b ha hb e
theorem string_loc (v u : Nat) (i o a : V) (l : List UInt8) (h0 : l ≠ []) : LocC Try.prog 45 2 [.mp 0 v 0 2] (hpB2 (bk v 94 4 [[i, o, a, .ms 1 u 0 l.length]]) ⟨u, true, true, 5, 1, l.map bB⟩)
    (.ok (.str l) (hpB2 (bk v 94 4 [[i,o,a,.ms 1 u 0 l.length]]) ⟨u,false,true,5,1,l.map bB⟩)):=by
  intro H ρ hρ hH
  refine ⟨⟨_,Try.func45,by kernel_rfl,by kernel_rfl⟩,fun x cs hxH hx hr=>?_⟩
  subst hxH
  have e0:x.H (ρ 0)=bk v 94 4 [[ren0 ρ i,ren0 ρ o,ren0 ρ a,.ms (ρ 1) u 0 l.length]]:=hH 0 (by omega)
  have e1:x.H (ρ 1)=⟨u,true,true,5,1,l.map bB⟩:=(hH 1 (by omega)).trans (bB_ren _ _).symm
  have hne:ρ 1≠ρ 0:=fun q=>absurd (hρ 1 0 (by omega) (by omega) q) (by omega)
  have hl0:l.length≠0:=by simpa using h0
  have ho0:(x.H (ρ 0)).own=true:=by rw [e0]; rfl
  have ho1:(x.H (ρ 1)).own=true:=by rw [e1]; cases l with
    |nil=>exact absurd rfl h0
    |cons c l=>rfl
  obtain ⟨cc,g1,g2,g3,g4⟩:=hx.blk (ρ 0) ho0
  obtain ⟨cd,k1,k2,k3,k4⟩:=hx.blk (ρ 1) ho1
  have hty:(x.H (ρ 0)).ty=94:=by rw [e0]
  have hsz:(x.H (ρ 0)).sz=4:=by rw [e0]
  have hty1:(x.H (ρ 1)).ty=5:=by rw [e1]
  have hsz1:(x.H (ρ 1)).sz=1:=by rw [e1]
  rw [hty] at g1
  rw [hty1] at k1
  have hcs:4≤cc.size:=by rw [e0] at g3; simpa using g3
  have hcd:l.length≤cd.size:=by rw [e1] at k3; simpa using k3
  have hrows:(x.H (ρ 0)).rows[0]?=some [ren0 ρ i,ren0 ρ o,ren0 ρ a,.ms (ρ 1) u 0 l.length]:=by rw [e0]; rfl
  have c3:=g4 0 _ 3 _ hrows rfl
  rw [hsz] at c3
  have hcell:x.w.cell? ⟨x.σ (ρ 0),3,none⟩=some (cc.getD 3 undef):=own_cell g1 (by omega)
  obtain ⟨cap,hq,hcap,hm⟩: ∃ cap,cc.getD 3 undef=.slice (some ⟨x.σ (ρ 1),0,none⟩) l.length cap∧l.length≤cap∧cap≤maxLen:=by
    have c3:R x (.ms (ρ 1) u 0 l.length) (cc.getD 3 undef):=c3
    generalize cc.getD 3 undef=q at c3
    cases c3 with
    | ms _ _ _ _ b m cap hv hh =>
      obtain ⟨q1,q2,q3,_,q5,_⟩:=hh (by rw [e1]) (by rw [e1])
      have:=(q5 ho1).1
      rw [Nat.zero_mul] at this
      exact ⟨cap,by rw [this,q1],q2,q3⟩
  rw [hq] at hcell
  have hcells: ∀ j b,l[j]?=some b→x.w.cell? ((⟨x.σ (ρ 1),0,none⟩:Addr).add j)=some (.int .u8 b.toNat):=fun j b hj=>by
    have hjl:j < l.length:=(List.getElem?_eq_some_iff.1 hj).1
    have r1:=k4 j [u8V b] 0 (u8V b) (by rw [e1]; show (l.map bB)[j]?=_; rw [List.getElem?_map,hj]; rfl) rfl
    rw [hsz1,Nat.mul_one,Nat.add_zero] at r1
    rw [Addr.add_lit,Nat.zero_add,own_cell k1 (by omega)]
    generalize cd.getD j undef=q at r1
    cases r1; rfl
  obtain ⟨hlen,hr⟩:=hr
  match cs,hlen with
  | [c1], _ =>
    have r0:R x (.mp (ρ 0) v 0 2) c1:=hr 0 _ rfl
    cases r0 with
    | mp _ _ _ _ p hv' hh =>
      have hp:=hh (by rw [e0]) ho0
      rw [hsz] at hp
      simp only [Nat.zero_mul,Nat.zero_add] at hp
      subst hp
      have hmax:maxLen=9223372036854775807:=rfl
      refine (string_calls (x.σ (ρ 0)) (x.σ (ρ 1)) cap cd l x.w h0 (by omega) (by omega) hcell k1 hcd hcells).mono fun e w' h=>?_
      obtain ⟨rfl,rfl⟩:=h
      obtain ⟨hI,hF⟩:=step_forget hx (ρ 1) ho1 (x.w.drew.freeze ⟨x.σ (ρ 1),0,none⟩ l.length) (by simp [World.freeze,hl0] <;> rfl) (by simp [World.freeze,hl0] <;> rfl) (by simp [World.freeze,hl0] <;> rfl) (by simp [World.freeze,hl0] <;> rfl) (by simp [World.freeze,hl0])
        (fun b hb=>by simp [World.freeze,hl0,Array.getElem?_modify,Ne.symm hb]; rfl)
      refine ⟨_,_,rfl,rfl,?_,hI,.str l,hF⟩
      funext j
      simp only [putL]
      by_cases q1:j=ρ 1
      · subst q1
        rw [upd_same,upd_same,e1]
        exact bB_rend ρ l
      · rw [upd_ne _ _ q1,upd_ne _ _ q1]
        by_cases q0:j=ρ 0
        · subst q0; rw [upd_same,e0]; rfl
        · rw [upd_ne _ _ q0]
end Go.Proofs.Ytdmcmkccifmofaa
namespace Go.Proofs.Ytdmcmkccifmofaa
open Go
def shwT (ia oa:List (List UInt8)) (f:Fm):List UInt8×Int:=
  if avs ia oa≠0 then ([],avs ia oa) else if fval f≠0 then ([],fval f) else if nmd ((ia.length:Nat):Int) ((oa.length:Nat):Int) f=true then ((shP ia oa f).flatten,0) else ([],2)
section
variable {ia oa:List (List UInt8)}
theorem argP_le (lv:Int) (q:Int×List (List UInt8)):(argP lv q).flatten.length≤q.2.flatten.length+2:=by
  by_cases h:lv≤stg q.1
  · rw [argP_yes h]; omega
  · rw [(argP_len h).1]; exact Nat.le_refl _
theorem sevP_le {sep:List UInt8} {lv:Int} (hs:sep.length≤3): ∀ (l:List Fm) (i:Nat),(∀ k,k < l.length→(shP ia oa (nth l k)).flatten.length+10≤200*(nth l k).sz)→(sevP sep lv (l.map (shQ ia oa)) i).flatten.length≤200*Fm.szs l
  |[],_,_=>by simp [sevP]
  | f :: l, i, h => by
    have h0:=h 0 (by simp)
    have h1:=sevP_le (sep:=sep) (lv:=lv) hs l (i+1) fun k hk=>h (k+1) (by simpa using hk)
    have h2:=argP_le lv (shQ ia oa f)
    rw [List.map_cons,sevP,Fm.szs,List.flatten_append,List.flatten_append,List.length_append,List.length_append]
    have h3:(if i=0 then [] else [sep]).flatten.length≤3:=by split <;> simp; exact hs
    have h0':(shP ia oa f).flatten.length+10≤200*f.sz:=h0
    have h2':(argP lv (shQ ia oa f)).flatten.length≤(shP ia oa f).flatten.length+2:=h2
    omega
theorem shP_sz (hn : ∀ k, k < ia.length → (nth ia k).length ≤ 100) (hm : ∀ k, k < oa.length → (nth oa k).length ≤ 100) : ∀ (n : Nat) (f : Fm), f.sz ≤ n → okF f = true → nmd ((ia.length : Nat) : Int) ((oa.length : Nat) : Int) f = true → (shP ia oa f).flatten.length + 10 ≤ 200 * f.sz
  |0,f,h,_,_=>by cases f; rw [Fm.sz] at h; omega
  | n + 1, f, h, hok, hnm => by
    obtain ⟨r1,r2,r3,r4,r5,r6,r7,r8,r9⟩:=rgt_ok (okF_parts hok).1
    have hkid: ∀ k,k < f.kids.length→(shP ia oa (nth f.kids k)).flatten.length+10≤200*(nth f.kids k).sz:=fun k hk=>
      shP_sz hn hm n (nth f.kids k) (by have:=Fm.sz_kid hk; omega) ((okF_parts hok).2 k hk) (nmd_kid hnm hk)
    have hsz:f.sz=Fm.szs f.kids+1:=by cases f; rw [Fm.sz]; rfl
    have ha:=nmd_arg hnm
    have un: ∀ x:List UInt8,x.length≤3→0 < f.kids.length→shP ia oa f=x::argP 4 (shQ ia oa (nth f.kids 0))→(shP ia oa f).flatten.length+10≤200*f.sz:=fun x hx hk hP=>by
      have h1:=(shW_un hP 0 []).2.2
      have h2:(argP 4 (shQ ia oa (nth f.kids 0))).flatten.length≤(shP ia oa (nth f.kids 0)).flatten.length+2:=argP_le 4 (shQ ia oa (nth f.kids 0))
      have h3:=hkid 0 hk
      have h4:=Fm.sz_kid hk
      omega
    have bin: ∀ x:List UInt8,x.length≤3→f.kids.length=2→shP ia oa f=argP 4 (shQ ia oa (nth f.kids 0))++(x::argP 3 (shQ ia oa (nth f.kids 1)))→(shP ia oa f).flatten.length+10≤200*f.sz:=fun x hx hk hP=>by
      have h1:=(shW_bin hP 0 []).2.2
      have h2:(argP 4 (shQ ia oa (nth f.kids 0))).flatten.length≤(shP ia oa (nth f.kids 0)).flatten.length+2:=argP_le 4 (shQ ia oa (nth f.kids 0))
      have h3:(argP 3 (shQ ia oa (nth f.kids 1))).flatten.length≤(shP ia oa (nth f.kids 1)).flatten.length+2:=argP_le 3 (shQ ia oa (nth f.kids 1))
      have h4:=hkid 0 (by omega)
      have h5:=hkid 1 (by omega)
      have h6:Fm.szs f.kids=(nth f.kids 0).sz+(nth f.kids 1).sz:=by
        match hq:f.kids,hk with
        |[a,b],_=>simp [Fm.szs]; rfl
      omega
    have sev: ∀ (sep:List UInt8) (lv:Int),sep.length≤3→shP ia oa f=sevR ia oa sep lv f.kids 0→(shP ia oa f).flatten.length+10≤200*f.sz:=fun sep lv hs hP=>by
      have h1:=sevP_le (ia:=ia) (oa:=oa) (sep:=sep) (lv:=lv) hs f.kids 0 hkid
      rw [hP]
      unfold sevR
      rw [List.drop_zero]
      omega
    by_cases o1:f.op=1
    · have:=(shW_leaf (shP_1 (ia:=ia) (oa:=oa) o1) 0 []).2.2
      have e:wTr.length=4:=rfl
      omega
    by_cases o2:f.op=2
    · have h1:=(shW_leaf (shP_2 (ia:=ia) (oa:=oa) o2) 0 []).2.2
      have h2:=hn f.arg.toNat (by have:=ha.1 o2; have:=r8 o2; omega)
      rw [List.length_append] at h1
      have e:wIn.length=3:=rfl
      omega
    by_cases o3:f.op=3
    · have h1:=(shW_leaf (shP_3 (ia:=ia) (oa:=oa) o3) 0 []).2.2
      have h2:=hm f.arg.toNat (by have:=ha.2 o3; have:=r9 o3; omega)
      rw [List.length_append] at h1
      have e:wOut.length=4:=rfl
      omega
    by_cases o4:f.op=4
    · have hk:0 < f.kids.length:=by have:=r4 (.inl o4); omega
      exact un _ (by simp) hk (shP_4 o4 hk)
    by_cases o7:f.op=7
    · have hk:0 < f.kids.length:=by have:=r4 (.inr (.inl o7)); omega
      exact un _ (by simp) hk (shP_7 o7 hk)
    by_cases o9:f.op=9
    · have hk:0 < f.kids.length:=by have:=r4 (.inr (.inr o9)); omega
      exact un _ (by simp) hk (shP_9 o9 hk)
    by_cases o6:f.op=6
    · exact sev _ _ (by simp) (shP_6 o6)
    by_cases o5:f.op=5
    · exact sev _ _ (by simp) (shP_5 o5)
    by_cases o8:f.op=8
    · have hk:=r6 (.inl o8)
      exact bin _ (by simp) hk (shP_8 o8 (by omega))
    · have o10:f.op=10:=by omega
      have hk:=r6 (.inr o10)
      exact bin _ (by simp) hk (shP_10 o10 (by omega))
theorem shP_len {f:Fm} (hok:fval f=0) (hnm:nmd ((ia.length:Nat):Int) ((oa.length:Nat):Int) f=true) (hn: ∀ k,k < ia.length→(nth ia k).length≤100) (hm: ∀ k,k < oa.length→(nth oa k).length≤100):(shP ia oa f).flatten.length≤1048576:=by
  have h1:=shP_sz hn hm f.sz f (Nat.le_refl _) (fval_ok hok) hnm
  have h2:=fval_sz hok
  omega
theorem argP_ge (lv:Int) (q:Int×List (List UInt8)):q.2.flatten.length≤(argP lv q).flatten.length:=by
  by_cases h:lv≤stg q.1
  · rw [argP_yes h]; exact Nat.le_refl _
  · rw [(argP_len h).1]; omega
theorem shP_pos: ∀ (n:Nat) (f:Fm),f.sz≤n→okF f=true→0 < (shP ia oa f).flatten.length
  |0,f,h,_=>by cases f; rw [Fm.sz] at h; omega
  | n + 1, f, h, hok => by
    obtain ⟨r1,r2,r3,r4,r5,r6,r7,r8,r9⟩:=rgt_ok (okF_parts hok).1
    have sev: ∀ (sep:List UInt8) (lv:Int),2≤f.kids.length→shP ia oa f=sevR ia oa sep lv f.kids 0→0 < (shP ia oa f).flatten.length:=fun sep lv hk hP=>by
      rw [hP,(sevR_0l (i:=0) (by omega) rfl).2]
      have h1:(shP ia oa (nth f.kids 0)).flatten.length≤(argP lv (shQ ia oa (nth f.kids 0))).flatten.length:=argP_ge lv (shQ ia oa (nth f.kids 0))
      have h2:=shP_pos n (nth f.kids 0) (by have:=Fm.sz_kid (f:=f) (k:=0) (by omega); omega) ((okF_parts hok).2 0 (by omega))
      omega
    by_cases o1:f.op=1
    · rw [(shW_leaf (shP_1 (ia:=ia) (oa:=oa) o1) 0 []).2.2]; simp
    by_cases o2:f.op=2
    · rw [(shW_leaf (shP_2 (ia:=ia) (oa:=oa) o2) 0 []).2.2]; simp
    by_cases o3:f.op=3
    · rw [(shW_leaf (shP_3 (ia:=ia) (oa:=oa) o3) 0 []).2.2]; simp
    by_cases o4:f.op=4
    · rw [(shW_un (shP_4 (ia:=ia) (oa:=oa) o4 (by have:=r4 (.inl o4); omega)) 0 []).2.2]; simp; omega
    by_cases o7:f.op=7
    · rw [(shW_un (shP_7 (ia:=ia) (oa:=oa) o7 (by have:=r4 (.inr (.inl o7)); omega)) 0 []).2.2]; simp; omega
    by_cases o9:f.op=9
    · rw [(shW_un (shP_9 (ia:=ia) (oa:=oa) o9 (by have:=r4 (.inr (.inr o9)); omega)) 0 []).2.2]; simp; omega
    by_cases o6:f.op=6
    · exact sev _ _ (r5 (.inr o6)) (shP_6 o6)
    by_cases o5:f.op=5
    · exact sev _ _ (r5 (.inl o5)) (shP_5 o5)
    by_cases o8:f.op=8
    · rw [(shW_bin (shP_8 (ia:=ia) (oa:=oa) o8 (by have:=r6 (.inl o8); omega)) 0 []).2.2]; simp; omega
    · have o10:f.op=10:=by omega
      rw [(shW_bin (shP_10 (ia:=ia) (oa:=oa) o10 (by have:=r6 (.inr o10); omega)) 0 []).2.2]; simp; omega
theorem shP_ne {f:Fm} (hok:okF f=true):(shP ia oa f).flatten≠[]:=fun h=>by
  have:=shP_pos (ia:=ia) (oa:=oa) f.sz f (Nat.le_refl _) hok
  rw [h] at this; exact absurd this (by simp)
end
end Go.Proofs.Ytdmcmkccifmofaa
