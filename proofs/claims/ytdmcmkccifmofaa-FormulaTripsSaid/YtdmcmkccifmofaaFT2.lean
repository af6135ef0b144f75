/- Contracts of the functions that the law FT reaches, and the law itself, for every input; no condition. -/
import Derived.KernelRfl
import Derived.Test.YtdmcmkccifmofaaProg
import Derived.Tactics
import Derived.Tactics2
import Derived.StillTactics
import Derived.LoopTactic
import Derived.Laws.RangeString
import Derived.Laws.RangeAny
import Derived.WalkKit
import Derived.Lib.Builder
import Derived.Shelf.Strings.BuilderF
import Derived.Lib.UnsafeStr
import Derived.Test.YtdmcmkccifmofaaFT1
set_option linter.unusedSimpArgs false
set_option linter.unusedVariables false
namespace Go.Proofs.Ytdmcmkccifmofaa
open Go Go.Proofs
theorem ppart_loc (v:Nat) (e:PE) (s:PS) (hs:OkS e s) (g:Nat) (R:PS→Option (PR Fm)) (hR: ∀ (s:PS) (r:PR Fm),OkS e s→R s=some r→LocC Try.prog g 1 [.mp 0 v 0 0] (hpB (bk v 79 6 [pCells e s])) (r.out 79 75 v e fmV)) (hK:Keeps e R) (r:PR Fm) (h:pPart e R s=some r):LocC Try.prog 61 1 [(V.mp 0 v 0 0),(V.fn g [(V.mp 0 v 0 0)] [])] (hpB (bk v 79 6 [[(V.sl (List.map cS (e.ia))),(V.sl (List.map cS (e.oa))),(V.str e.src),(iV ((s.pos:Nat):Int)),(V.str s.wd),(iV ((s.dep:Nat):Int))]])) (r.out 79 75 v e fmV):=by
 refine lW (k0:=0) Try.func61 s61_ok fun hB=>?_
 unfold s61
 dsimp only
 have hlen:=hs.len
 have hpos:=hs.pos
 have hdep:=hs.dep
 refine W_r (R_alloc (i:=4) (n:=0) (m:=3) rfl (congrArg Blk.ver rfl) rfl (R_e (W_seq_seq (W_r (R_mv rfl (R_e (W_seq_seq ?_)))))))
 rcases hx:pNext e s with ⟨u1,s1⟩|⟨a_s1,x_s1⟩
 ·
  obtain ⟨k1,k1d,k1g⟩:=pNext_inv hs hx
  refine pop_ok (i:=0) (by have q:=pnext_loc v e s hs; rw [hx] at q; exact q) (evcons (@rfl V (V.mp 0 v 0 0)) evnil) rfl (@rfl Blk (bk v 79 6 [[(V.sl (List.map cS (e.ia))),(V.sl (List.map cS (e.oa))),(V.str e.src),(iV ((s.pos:Nat):Int)),(V.str s.wd),(iV ((s.dep:Nat):Int))]])) rfl rfl (fork_ (R:=fun T H=>T 0=(V.mp 0 v 0 0)∧T 1=(V.fn g [(V.mp 0 v 0 0)] [])∧T 4=(V.mp 4 1 0 0)∧T 6=(V.mp 0 v 0 0)∧T 7=(V.tup [])∧H 0=(bk v 79 6 [[(V.sl (List.map cS (e.ia))),(V.sl (List.map cS (e.oa))),(V.str e.src),(iV ((s1.pos:Nat):Int)),(V.str s1.wd),(iV ((s1.dep:Nat):Int))]])∧H 4=(bk 1 24 3 [[(iV (0:Int)),(iV (0:Int)),V.nilsl]])∧H 5=(⟨0,false,false,0,0,[]⟩:Blk)∧True) ⟨(@rfl V (V.mp 0 v 0 0)),(@rfl V (V.fn g [(V.mp 0 v 0 0)] [])),(@rfl V (V.mp 4 1 0 0)),(@rfl V (V.mp 0 v 0 0)),(@rfl V (V.tup [])),rfl,rfl,rfl,trivial⟩ ?_)
  intro T H ⟨t0,t1,t4,t6,t7,h0,h4,h5,_⟩
  refine W_reg0 (W_r (R_mv t0 (R_nilck_mp rfl h0 oB (R_fk rfl h0 (R_lk rfl h0 rfl rfl (R_addN rfl (@rfl V (iV ((1:Nat):Int))) (by omega) (R_nilck_mp rfl h0 oB ?_)))))))
  refine R_fk rfl h0 (R_sk rfl rfl rfl h0 rfl rfl rfl rfl rfl (R_e (W_seq_seq (W_r (R_mv t0 (R_nilck_mp rfl rfl oB (R_fk rfl rfl ?_)))))))
  refine R_lk rfl rfl rfl rfl (R_gtr rfl rfl (R_e ?_))
  refine W_seq_if rfl (fun c1=>?_) fun c1=>?_
  ·
   refine W_seq_seq (W_r (R_mv t0 (R_e (W_seq_seq (pop_pan (i:=0) (pfail_loc v e (⟨s1.pos,s1.wd,s1.dep+1⟩:PS) (16:Int)) (evcons (@rfl V (V.mp 0 v 0 0)) (evcons (@rfl V (iV (16:Int))) evnil)) rfl (@rfl Blk (bk v 79 6 [[(V.sl (List.map cS (e.ia))),(V.sl (List.map cS (e.oa))),(V.str e.src),(iV ((s1.pos:Nat):Int)),(V.str s1.wd),(iV ((s1.dep+1:Nat):Int))]])) rfl fun H'=>(RetL_pan ?_))))))
   simp only [pPart,hx] at h; rw [if_pos (by omega)] at h; cases h; rfl
  refine W_seq_skip (W_seq_seq (W_r (R_mv t1 (R_e (W_seq_seq ?_)))))
  rcases hy:R (⟨s1.pos,s1.wd,s1.dep+1⟩:PS) with _|(⟨f1,s2⟩|⟨a_s2,x_s2⟩)
  ·
   exfalso; simp only [pPart,hx] at h; rw [if_neg (by omega),hy] at h; cases h
  ·
   obtain ⟨k2,k2d⟩:=hK (⟨s1.pos,s1.wd,s1.dep+1⟩:PS) _ _ (⟨k1.len,k1.pos,by show s1.dep+1≤128; omega⟩) hy
   have k2e:s2.dep=s1.dep+1:=k2d
   have hdd:((s2.dep:Nat):Int) - (1:Int)=((s2.dep - 1:Nat):Int):=by omega
   refine popv_ok (i:=0) (@rfl V (V.fn g [(V.mp 0 v 0 0)] [])) (hR (⟨s1.pos,s1.wd,s1.dep+1⟩:PS) _ (⟨k1.len,k1.pos,by show s1.dep+1≤128; omega⟩) hy) evnil rfl (@rfl Blk (bk v 79 6 [[(V.sl (List.map cS (e.ia))),(V.sl (List.map cS (e.oa))),(V.str e.src),(iV ((s1.pos:Nat):Int)),(V.str s1.wd),(iV ((s1.dep+1:Nat):Int))]])) rfl rfl (fork_ (R:=fun T H=>T 0=(V.mp 0 v 0 0)∧T 4=(V.mp 4 1 0 0)∧T 22=(V.fn g [(V.mp 0 v 0 0)] [])∧T 23=(V.agg [(iV (f1.op)),(iV (f1.arg)),(V.sl (List.map cF (f1.kids)))])∧H 0=(bk v 79 6 [[(V.sl (List.map cS (e.ia))),(V.sl (List.map cS (e.oa))),(V.str e.src),(iV ((s2.pos:Nat):Int)),(V.str s2.wd),(iV ((s2.dep:Nat):Int))]])∧H 4=(bk 1 24 3 [[(iV (0:Int)),(iV (0:Int)),V.nilsl]])∧H 5=(⟨0,false,false,0,0,[]⟩:Blk)∧True) ⟨t0,t4,(@rfl V (V.fn g [(V.mp 0 v 0 0)] [])),(@rfl V (V.agg [(iV (f1.op)),(iV (f1.arg)),(V.sl (List.map cF (f1.kids)))])),rfl,h4,h5,trivial⟩ ?_)
   intro T H ⟨t0,t4,t22,t23,h0,h4,h5,_⟩
   refine W_r (R_alloc (i:=5) (n:=0) (m:=3) rfl (congrArg Blk.ver h5) rfl (R_sk rfl t23 rfl rfl rfl rfl rfl rfl rfl (R_e (W_r (R_mv t0 (R_nilck_mp rfl h0 oB (R_fk rfl h0 ?_)))))))
   refine R_lk rfl h0 rfl rfl (R_sub rfl rfl (by omega) (by omega) (R_nilck_mp rfl h0 oB (R_fk rfl h0 (R_sk rfl rfl rfl h0 rfl rfl rfl rfl rfl (R_e (W_r (R_lk rfl rfl rfl rfl ?_)))))))
   refine R_sk t4 rfl rfl h4 rfl rfl rfl rfl rfl (R_e (W_ret ?_))
   refine RetL_ok (v:=(V.agg [(iV (f1.op)),(iV (f1.arg)),(V.sl (List.map cF (f1.kids)))])) (b:=(bk v 79 6 [[(V.sl (List.map cS (e.ia))),(V.sl (List.map cS (e.oa))),(V.str e.src),(iV ((s2.pos:Nat):Int)),(V.str s2.wd),(iV (((s2.dep:Nat):Int) - (1:Int)))]])) (resT1 (resV_c (u:=(V.agg [(iV (f1.op)),(iV (f1.arg)),(V.sl (List.map cF (f1.kids)))])) t4 (@rfl Blk (bk 1 24 3 [[(iV (f1.op)),(iV (f1.arg)),(V.sl (List.map cF (f1.kids)))]])) (lB oB rfl rfl))) ?_ (by simp) (.same (cut_fin 1 _) _) (@rfl Blk (bk v 79 6 [[(V.sl (List.map cS (e.ia))),(V.sl (List.map cS (e.oa))),(V.str e.src),(iV ((s2.pos:Nat):Int)),(V.str s2.wd),(iV (((s2.dep:Nat):Int) - (1:Int)))]])) (by simp [locB,loc0])
   simp only [pPart,hx] at h; rw [if_neg (by omega),hy] at h; cases h; rw [hdd]; rfl
  ·
   refine popv_pan (i:=0) (@rfl V (V.fn g [(V.mp 0 v 0 0)] [])) (hR (⟨s1.pos,s1.wd,s1.dep+1⟩:PS) _ (⟨k1.len,k1.pos,by show s1.dep+1≤128; omega⟩) hy) evnil rfl (@rfl Blk (bk v 79 6 [[(V.sl (List.map cS (e.ia))),(V.sl (List.map cS (e.oa))),(V.str e.src),(iV ((s1.pos:Nat):Int)),(V.str s1.wd),(iV ((s1.dep+1:Nat):Int))]])) rfl fun H'=>(RetL_pan ?_)
   simp only [pPart,hx] at h; rw [if_neg (by omega),hy] at h; cases h; rfl
 ·
  refine pop_pan (i:=0) (by have q:=pnext_loc v e s hs; rw [hx] at q; exact q) (evcons (@rfl V (V.mp 0 v 0 0)) evnil) rfl (@rfl Blk (bk v 79 6 [[(V.sl (List.map cS (e.ia))),(V.sl (List.map cS (e.oa))),(V.str e.src),(iV ((s.pos:Nat):Int)),(V.str s.wd),(iV ((s.dep:Nat):Int))]])) rfl fun H'=>(RetL_pan ?_)
  simp only [pPart,hx] at h; cases h; rfl
theorem pform_step (v:Nat) (e:PE) (s:PS) (hs:OkS e s) (k:Nat) (hkb:k≤4294967296) (ihC: ∀ (s:PS) (r:PR Fm),OkS e s→pF e k .conj s=some r→LocC Try.prog 60 1 [.mp 0 v 0 0] (hpB (bk v 79 6 [pCells e s])) (r.out 79 75 v e fmV)) (ihF: ∀ (s:PS) (r:PR Fm),OkS e s→pF e k .form s=some r→LocC Try.prog 37 1 [.mp 0 v 0 0] (hpB (bk v 79 6 [pCells e s])) (r.out 79 75 v e fmV)) (r:PR Fm) (h:pF e (k+1) .form s=some r):LocC Try.prog 37 1 [(V.mp 0 v 0 0)] (hpB (bk v 79 6 [[(V.sl (List.map cS (e.ia))),(V.sl (List.map cS (e.oa))),(V.str e.src),(iV ((s.pos:Nat):Int)),(V.str s.wd),(iV ((s.dep:Nat):Int))]])) (r.out 79 75 v e fmV):=by
 refine lW (k0:=0) Try.func37 s37_ok fun hB=>?_
 unfold s37
 dsimp only
 have hlen:=hs.len
 have hpos:=hs.pos
 have hdep:=hs.dep
 refine W_r (R_alloc (i:=2) (n:=0) (m:=3) rfl (congrArg Blk.ver rfl) rfl (R_e (W_seq_seq (W_r (R_mv rfl (R_mv rfl (R_mkm (evcons rfl evnil) evnil ?_)))))))
 refine R_e (W_seq_seq ?_)
 rcases hx:pSev e [124] 6 (pF e k .conj) k s with _|(⟨f1,s1⟩|⟨a_s1,x_s1⟩)
 ·
  exfalso; rw [pF,hx] at h; cases h
 ·
  obtain ⟨k1,k1d⟩:=pSev_keeps (pF_keeps e k .conj) _ _ _ hs hx
  refine pop_ok (i:=0) (psev_loc v e s hs 60 (pF e k .conj) ihC (pF_keeps e k .conj) [124] 6 k hkb _ hx) (evcons (@rfl V (V.mp 0 v 0 0)) (evcons (@rfl V (V.str ([124]))) (evcons (@rfl V (iV (6:Int))) (evcons (@rfl V (V.fn 60 [(V.mp 0 v 0 0)] [])) evnil)))) rfl (@rfl Blk (bk v 79 6 [[(V.sl (List.map cS (e.ia))),(V.sl (List.map cS (e.oa))),(V.str e.src),(iV ((s.pos:Nat):Int)),(V.str s.wd),(iV ((s.dep:Nat):Int))]])) rfl rfl (fork_ (R:=fun T H=>T 0=(V.mp 0 v 0 0)∧T 2=(V.mp 2 1 0 0)∧T 5=(V.mp 0 v 0 0)∧T 7=(V.fn 60 [(V.mp 0 v 0 0)] [])∧T 8=(V.agg [(iV (f1.op)),(iV (f1.arg)),(V.sl (List.map cF (f1.kids)))])∧H 0=(bk v 79 6 [[(V.sl (List.map cS (e.ia))),(V.sl (List.map cS (e.oa))),(V.str e.src),(iV ((s1.pos:Nat):Int)),(V.str s1.wd),(iV ((s1.dep:Nat):Int))]])∧H 2=(bk 1 24 3 [[(iV (0:Int)),(iV (0:Int)),V.nilsl]])∧H 3=(⟨0,false,false,0,0,[]⟩:Blk)∧H 4=(⟨0,false,false,0,0,[]⟩:Blk)∧True) ⟨(@rfl V (V.mp 0 v 0 0)),(@rfl V (V.mp 2 1 0 0)),(@rfl V (V.mp 0 v 0 0)),(@rfl V (V.fn 60 [(V.mp 0 v 0 0)] [])),(@rfl V (V.agg [(iV (f1.op)),(iV (f1.arg)),(V.sl (List.map cF (f1.kids)))])),rfl,rfl,rfl,rfl,trivial⟩ ?_)
  intro T H ⟨t0,t2,t5,t7,t8,h0,h2,h3,h4,_⟩
  refine W_r (R_alloc (i:=3) (n:=0) (m:=3) rfl (congrArg Blk.ver h3) rfl (R_sk rfl t8 rfl rfl rfl rfl rfl rfl rfl (R_e (W_seq_seq (W_r (R_mv t0 (R_nilck_mp rfl h0 oB ?_)))))))
  refine R_fk rfl h0 (R_lk rfl h0 rfl rfl (R_sneq (s:=s1.wd) (t:=([45,62])) rfl rfl (R_e ?_)))
  refine W_seq_if rfl (fun c1=>?_) fun c1=>?_
  ·
   have d1: ¬s1.wd=[45,62]:=c1
   refine W_seq_seq (W_r (R_lk rfl rfl rfl rfl (R_sk t2 rfl rfl h2 rfl rfl rfl rfl rfl (R_e (W_seq_ret ?_)))))
   refine RetL_ok (v:=(V.agg [(iV (f1.op)),(iV (f1.arg)),(V.sl (List.map cF (f1.kids)))])) (b:=(bk v 79 6 [[(V.sl (List.map cS (e.ia))),(V.sl (List.map cS (e.oa))),(V.str e.src),(iV ((s1.pos:Nat):Int)),(V.str s1.wd),(iV ((s1.dep:Nat):Int))]])) (resT1 (resV_c (u:=(V.agg [(iV (f1.op)),(iV (f1.arg)),(V.sl (List.map cF (f1.kids)))])) t2 (@rfl Blk (bk 1 24 3 [[(iV (f1.op)),(iV (f1.arg)),(V.sl (List.map cF (f1.kids)))]])) (lB oB rfl rfl))) ?_ (by simp) (.same (cut_fin 1 _) _) h0 (by simp [locB,loc0])
   rw [pF,hx] at h; simp only at h; rw [if_neg d1] at h; cases h; rfl
  have d1:s1.wd=[45,62]:=Decidable.not_not.1 c1
  refine W_seq_skip (W_seq_seq (W_r (R_mv t0 (R_mv t0 (R_mkm (evcons rfl evnil) evnil (R_e (W_seq_seq ?_)))))))
  rcases hy:pPart e (pF e k .form) s1 with _|(⟨f2,s2⟩|⟨a_s2,x_s2⟩)
  ·
   exfalso; rw [pF,hx] at h; simp only at h; rw [if_pos d1,hy] at h; simp only [mapP] at h; cases h
  ·
   obtain ⟨k2,k2d⟩:=pPart_keeps (pF_keeps e k .form) _ _ _ k1 hy
   refine pop_ok (i:=0) (ppart_loc v e s1 k1 37 (pF e k .form) ihF (pF_keeps e k .form) _ hy) (evcons (@rfl V (V.mp 0 v 0 0)) (evcons (@rfl V (V.fn 37 [(V.mp 0 v 0 0)] [])) evnil)) rfl h0 rfl rfl (fork_ (R:=fun T H=>T 2=(V.mp 2 1 0 0)∧T 3=(V.mp 3 1 0 0)∧T 15=(V.mp 0 v 0 0)∧T 17=(V.fn 37 [(V.mp 0 v 0 0)] [])∧T 18=(V.agg [(iV (f2.op)),(iV (f2.arg)),(V.sl (List.map cF (f2.kids)))])∧H 0=(bk v 79 6 [[(V.sl (List.map cS (e.ia))),(V.sl (List.map cS (e.oa))),(V.str e.src),(iV ((s2.pos:Nat):Int)),(V.str s2.wd),(iV ((s2.dep:Nat):Int))]])∧H 2=(bk 1 24 3 [[(iV (0:Int)),(iV (0:Int)),V.nilsl]])∧H 3=(bk 1 24 3 [[(iV (f1.op)),(iV (f1.arg)),(V.sl (List.map cF (f1.kids)))]])∧H 4=(⟨0,false,false,0,0,[]⟩:Blk)∧True) ⟨t2,(@rfl V (V.mp 3 1 0 0)),(@rfl V (V.mp 0 v 0 0)),(@rfl V (V.fn 37 [(V.mp 0 v 0 0)] [])),(@rfl V (V.agg [(iV (f2.op)),(iV (f2.arg)),(V.sl (List.map cF (f2.kids)))])),rfl,h2,rfl,h4,trivial⟩ ?_)
   intro T H ⟨t2,t3,t15,t17,t18,h0,h2,h3,h4,_⟩
   refine W_r (R_alloc (i:=4) (n:=0) (m:=3) rfl (congrArg Blk.ver h4) rfl (R_sk rfl t18 rfl rfl rfl rfl rfl rfl rfl (R_e (W_r (R_lk t3 h3 rfl rfl (R_callk (not_pure f1) rfl (R_lk rfl rfl rfl rfl ?_)))))))
   refine R_bslice rfl rfl (R_callk (node_pure ((6:Int)) ([(Fm.nd (4:Int) (0:Int) [f1]),f2])) (evcons rfl (evcons (sl_F2 (x:=((Fm.nd (4:Int) (0:Int) [f1]))) (y:=f2) rfl) evnil)) (R_sk t2 rfl rfl h2 rfl rfl rfl rfl rfl (R_e (W_ret ?_))))
   refine RetL_ok (v:=(V.agg [(iV (((6:Int)))),(iV (0:Int)),(V.sl (List.map cF (([(Fm.nd (4:Int) (0:Int) [f1]),f2]))))])) (b:=(bk v 79 6 [[(V.sl (List.map cS (e.ia))),(V.sl (List.map cS (e.oa))),(V.str e.src),(iV ((s2.pos:Nat):Int)),(V.str s2.wd),(iV ((s2.dep:Nat):Int))]])) (resT1 (resV_c (u:=(V.agg [(iV (((6:Int)))),(iV (0:Int)),(V.sl (List.map cF (([(Fm.nd (4:Int) (0:Int) [f1]),f2]))))])) t2 (@rfl Blk (bk 1 24 3 [[(iV (((6:Int)))),(iV (0:Int)),(V.sl (List.map cF (([(Fm.nd (4:Int) (0:Int) [f1]),f2]))))]])) (lB oB rfl rfl))) ?_ (by simp) (.same (cut_fin 1 _) _) h0 (by simp [locB,loc0])
   rw [pF,hx] at h; simp only at h; rw [if_pos d1,hy] at h; simp only [mapP] at h; cases h; rfl
  ·
   refine pop_pan (i:=0) (ppart_loc v e s1 k1 37 (pF e k .form) ihF (pF_keeps e k .form) _ hy) (evcons (@rfl V (V.mp 0 v 0 0)) (evcons (@rfl V (V.fn 37 [(V.mp 0 v 0 0)] [])) evnil)) rfl h0 rfl fun H'=>(RetL_pan ?_)
   rw [pF,hx] at h; simp only at h; rw [if_pos d1,hy] at h; simp only [mapP] at h; cases h; rfl
 ·
  refine pop_pan (i:=0) (psev_loc v e s hs 60 (pF e k .conj) ihC (pF_keeps e k .conj) [124] 6 k hkb _ hx) (evcons (@rfl V (V.mp 0 v 0 0)) (evcons (@rfl V (V.str ([124]))) (evcons (@rfl V (iV (6:Int))) (evcons (@rfl V (V.fn 60 [(V.mp 0 v 0 0)] [])) evnil)))) rfl (@rfl Blk (bk v 79 6 [[(V.sl (List.map cS (e.ia))),(V.sl (List.map cS (e.oa))),(V.str e.src),(iV ((s.pos:Nat):Int)),(V.str s.wd),(iV ((s.dep:Nat):Int))]])) rfl fun H'=>(RetL_pan ?_)
  rw [pF,hx] at h; cases h; rfl
def s60:SF:=⟨7,[.cell 2 true 3],.seq (.reg [sO 2 (.alloc 24 [.int .i64 0,.int .i64 0,.nilsl])]) (.seq (.seq (.reg [qM 3 0,qM 4 0,sO 5 (.mkm 81 [.t 4] [])]) (.seq (.pop (some 6) (.call 59 [.t 3,.c (.str [38]),.c (.int .i64 5),.t 5])) (.reg [sN (.store 3 (.t 2) (.t 6))]))) (.ret))⟩
theorem s60_ok:slimF Try.prog ⟨[31,36,37,38,40,41,42,44,45,59,60,61,65,66,67,71,72,73,81,82,84,92,93,98,99,102,104],[],[36,37,38,40,41,42,59,60,61,65,66,67,81,82,92,93,98,99,102,104],[]⟩ Try.f60=some s60:=by kernel_rfl
theorem pconj_step (v:Nat) (e:PE) (s:PS) (hs:OkS e s) (k:Nat) (hkb:k≤4294967296) (ihB: ∀ (s:PS) (r:PR Fm),OkS e s→pF e k .bin s=some r→LocC Try.prog 81 1 [.mp 0 v 0 0] (hpB (bk v 79 6 [pCells e s])) (r.out 79 75 v e fmV)) (r:PR Fm) (h:pF e (k+1) .conj s=some r):LocC Try.prog 60 1 [(V.mp 0 v 0 0)] (hpB (bk v 79 6 [[(V.sl (List.map cS (e.ia))),(V.sl (List.map cS (e.oa))),(V.str e.src),(iV ((s.pos:Nat):Int)),(V.str s.wd),(iV ((s.dep:Nat):Int))]])) (r.out 79 75 v e fmV):=by
 refine lW (k0:=0) Try.func60 s60_ok fun hB=>?_
 unfold s60
 dsimp only
 have hlen:=hs.len
 have hpos:=hs.pos
 have hdep:=hs.dep
 refine W_r (R_alloc (i:=2) (n:=0) (m:=3) rfl (congrArg Blk.ver rfl) rfl (R_e (W_seq_seq (W_r (R_mv rfl (R_mv rfl (R_mkm (evcons rfl evnil) evnil ?_)))))))
 refine R_e (W_seq_seq ?_)
 rcases hx:pSev e [38] 5 (pF e k .bin) k s with _|(⟨f1,s1⟩|⟨a_s1,x_s1⟩)
 ·
  exfalso; rw [pF,hx] at h; cases h
 ·
  obtain ⟨k1,k1d⟩:=pSev_keeps (pF_keeps e k .bin) _ _ _ hs hx
  refine pop_ok (i:=0) (psev_loc v e s hs 81 (pF e k .bin) ihB (pF_keeps e k .bin) [38] 5 k hkb _ hx) (evcons (@rfl V (V.mp 0 v 0 0)) (evcons (@rfl V (V.str ([38]))) (evcons (@rfl V (iV (5:Int))) (evcons (@rfl V (V.fn 81 [(V.mp 0 v 0 0)] [])) evnil)))) rfl (@rfl Blk (bk v 79 6 [[(V.sl (List.map cS (e.ia))),(V.sl (List.map cS (e.oa))),(V.str e.src),(iV ((s.pos:Nat):Int)),(V.str s.wd),(iV ((s.dep:Nat):Int))]])) rfl rfl (fork_ (R:=fun T H=>T 2=(V.mp 2 1 0 0)∧T 3=(V.mp 0 v 0 0)∧T 5=(V.fn 81 [(V.mp 0 v 0 0)] [])∧T 6=(V.agg [(iV (f1.op)),(iV (f1.arg)),(V.sl (List.map cF (f1.kids)))])∧H 0=(bk v 79 6 [[(V.sl (List.map cS (e.ia))),(V.sl (List.map cS (e.oa))),(V.str e.src),(iV ((s1.pos:Nat):Int)),(V.str s1.wd),(iV ((s1.dep:Nat):Int))]])∧H 2=(bk 1 24 3 [[(iV (0:Int)),(iV (0:Int)),V.nilsl]])∧True) ⟨(@rfl V (V.mp 2 1 0 0)),(@rfl V (V.mp 0 v 0 0)),(@rfl V (V.fn 81 [(V.mp 0 v 0 0)] [])),(@rfl V (V.agg [(iV (f1.op)),(iV (f1.arg)),(V.sl (List.map cF (f1.kids)))])),rfl,rfl,trivial⟩ ?_)
  intro T H ⟨t2,t3,t5,t6,h0,h2,_⟩
  refine W_r (R_sk t2 t6 rfl h2 rfl rfl rfl rfl rfl (R_e (W_ret ?_)))
  refine RetL_ok (v:=(V.agg [(iV (f1.op)),(iV (f1.arg)),(V.sl (List.map cF (f1.kids)))])) (b:=(bk v 79 6 [[(V.sl (List.map cS (e.ia))),(V.sl (List.map cS (e.oa))),(V.str e.src),(iV ((s1.pos:Nat):Int)),(V.str s1.wd),(iV ((s1.dep:Nat):Int))]])) (resT1 (resV_c (u:=(V.agg [(iV (f1.op)),(iV (f1.arg)),(V.sl (List.map cF (f1.kids)))])) t2 (@rfl Blk (bk 1 24 3 [[(iV (f1.op)),(iV (f1.arg)),(V.sl (List.map cF (f1.kids)))]])) (lB oB rfl rfl))) ?_ (by simp) (.same (cut_fin 1 _) _) h0 (by simp [locB,loc0])
  rw [pF,hx] at h; cases h; rfl
 ·
  refine pop_pan (i:=0) (psev_loc v e s hs 81 (pF e k .bin) ihB (pF_keeps e k .bin) [38] 5 k hkb _ hx) (evcons (@rfl V (V.mp 0 v 0 0)) (evcons (@rfl V (V.str ([38]))) (evcons (@rfl V (iV (5:Int))) (evcons (@rfl V (V.fn 81 [(V.mp 0 v 0 0)] [])) evnil)))) rfl (@rfl Blk (bk v 79 6 [[(V.sl (List.map cS (e.ia))),(V.sl (List.map cS (e.oa))),(V.str e.src),(iV ((s.pos:Nat):Int)),(V.str s.wd),(iV ((s.dep:Nat):Int))]])) rfl fun H'=>(RetL_pan ?_)
  rw [pF,hx] at h; cases h; rfl
def s81:SF:=⟨33,[.cell 2 true 3],.seq (.reg [sO 2 (.alloc 24 [.int .i64 0,.int .i64 0,.nilsl])]) (.seq (.seq (.reg [qM 6 0]) (.seq (.pop (some 7) (.call 92 [.t 6])) (.reg [sO 3 (.alloc 24 [.int .i64 0,.int .i64 0,.nilsl]),sN (.store 3 (.t 3) (.t 7))]))) (.seq (.seq (.reg [qM 8 0,sO 9 (.nilck (.t 8)),qF 10 4 9,ql 11 10]) (.block 0 (.seq (.reg [sO 13 (.sbin .eql (.t 11) (.c (.str [85]))),qM 12 13]) (.cond (.t 12) (.seq (.seq (.reg [qM 14 0,qM 15 0,sO 16 (.mkm 81 [.t 15] [])]) (.seq (.pop (some 17) (.call 61 [.t 14,.t 16])) (.reg [sO 4 (.alloc 24 [.int .i64 0,.int .i64 0,.nilsl]),sN (.store 3 (.t 4) (.t 17))]))) (.seq (.reg [qL 18 3 3,qL 19 3 4,sO 20 (.bslice 24 3 false [.int .i64 0,.int .i64 0,.nilsl] 2 [(0,.t 18),(1,.t 19)]),sO 21 (.call false 62 [.c (.int .i64 8),.t 20]),sN (.store 3 (.t 2) (.t 21))]) (.ret))) (.seq (.reg [sO 23 (.sbin .eql (.t 11) (.c (.str [82]))),qM 22 23]) (.cond (.t 22) (.seq (.seq (.reg [qM 24 0,qM 25 0,sO 26 (.mkm 81 [.t 25] [])]) (.seq (.pop (some 27) (.call 61 [.t 24,.t 26])) (.reg [sO 5 (.alloc 24 [.int .i64 0,.int .i64 0,.nilsl]),sN (.store 3 (.t 5) (.t 27))]))) (.seq (.reg [qL 28 3 3,qL 29 3 5,sO 30 (.bslice 24 3 false [.int .i64 0,.int .i64 0,.nilsl] 2 [(0,.t 28),(1,.t 29)]),sO 31 (.call false 62 [.c (.int .i64 10),.t 30]),sN (.store 3 (.t 2) (.t 31))]) (.ret))) (.skip))))))) (.seq (.reg [qL 32 3 3,sN (.store 3 (.t 2) (.t 32))]) (.ret))))⟩
theorem s81_ok:slimF Try.prog ⟨[31,36,37,38,40,41,42,44,45,59,60,61,65,66,67,71,72,73,81,82,84,92,93,98,99,102,104],[],[36,37,38,40,41,42,59,60,61,65,66,67,81,82,92,93,98,99,102,104],[]⟩ Try.f81=some s81:=by kernel_rfl
theorem pbin_step (v:Nat) (e:PE) (s:PS) (hs:OkS e s) (k:Nat) (hkb:k≤4294967296) (ihU: ∀ (s:PS) (r:PR Fm),OkS e s→pF e k .un s=some r→LocC Try.prog 92 1 [.mp 0 v 0 0] (hpB (bk v 79 6 [pCells e s])) (r.out 79 75 v e fmV)) (ihB: ∀ (s:PS) (r:PR Fm),OkS e s→pF e k .bin s=some r→LocC Try.prog 81 1 [.mp 0 v 0 0] (hpB (bk v 79 6 [pCells e s])) (r.out 79 75 v e fmV)) (r:PR Fm) (h:pF e (k+1) .bin s=some r):LocC Try.prog 81 1 [(V.mp 0 v 0 0)] (hpB (bk v 79 6 [[(V.sl (List.map cS (e.ia))),(V.sl (List.map cS (e.oa))),(V.str e.src),(iV ((s.pos:Nat):Int)),(V.str s.wd),(iV ((s.dep:Nat):Int))]])) (r.out 79 75 v e fmV):=by
 refine lW (k0:=0) Try.func81 s81_ok fun hB=>?_
 unfold s81
 dsimp only
 have hlen:=hs.len
 have hpos:=hs.pos
 have hdep:=hs.dep
 refine W_r (R_alloc (i:=2) (n:=0) (m:=3) rfl (congrArg Blk.ver rfl) rfl (R_e (W_seq_seq (W_r (R_mv rfl (R_e (W_seq_seq ?_)))))))
 rcases hx:pF e k .un s with _|(⟨f1,s1⟩|⟨a_s1,x_s1⟩)
 ·
  exfalso; rw [pF,hx] at h; cases h
 ·
  obtain ⟨k1,k1d⟩:=pF_keeps e k .un _ _ _ hs hx
  refine pop_ok (i:=0) (ihU _ _ hs hx) (evcons (@rfl V (V.mp 0 v 0 0)) evnil) rfl (@rfl Blk (bk v 79 6 [[(V.sl (List.map cS (e.ia))),(V.sl (List.map cS (e.oa))),(V.str e.src),(iV ((s.pos:Nat):Int)),(V.str s.wd),(iV ((s.dep:Nat):Int))]])) rfl rfl (fork_ (R:=fun T H=>T 0=(V.mp 0 v 0 0)∧T 2=(V.mp 2 1 0 0)∧T 6=(V.mp 0 v 0 0)∧T 7=(V.agg [(iV (f1.op)),(iV (f1.arg)),(V.sl (List.map cF (f1.kids)))])∧H 0=(bk v 79 6 [[(V.sl (List.map cS (e.ia))),(V.sl (List.map cS (e.oa))),(V.str e.src),(iV ((s1.pos:Nat):Int)),(V.str s1.wd),(iV ((s1.dep:Nat):Int))]])∧H 2=(bk 1 24 3 [[(iV (0:Int)),(iV (0:Int)),V.nilsl]])∧H 3=(⟨0,false,false,0,0,[]⟩:Blk)∧H 4=(⟨0,false,false,0,0,[]⟩:Blk)∧H 5=(⟨0,false,false,0,0,[]⟩:Blk)∧True) ⟨(@rfl V (V.mp 0 v 0 0)),(@rfl V (V.mp 2 1 0 0)),(@rfl V (V.mp 0 v 0 0)),(@rfl V (V.agg [(iV (f1.op)),(iV (f1.arg)),(V.sl (List.map cF (f1.kids)))])),rfl,rfl,rfl,rfl,rfl,trivial⟩ ?_)
  intro T H ⟨t0,t2,t6,t7,h0,h2,h3,h4,h5,_⟩
  refine W_r (R_alloc (i:=3) (n:=0) (m:=3) rfl (congrArg Blk.ver h3) rfl (R_sk rfl t7 rfl rfl rfl rfl rfl rfl rfl (R_e (W_seq_seq (W_r (R_mv t0 (R_nilck_mp rfl h0 oB ?_)))))))
  refine R_fk rfl h0 (R_lk rfl h0 rfl rfl (R_e (W_seq_blockgP fun Q1 n1 x1 y1 z1 w1=>(W_r (R_seql (s:=s1.wd) (t:=([85])) rfl rfl (R_mv rfl (R_e ?_)))))))
  refine W_if rfl (fun c2=>?_) fun c2=>?_
  ·
   have d1:s1.wd=[85]:=c2
   refine W_seq_seq (W_r (R_mv t0 (R_mv t0 (R_mkm (evcons rfl evnil) evnil (R_e (W_seq_seq ?_))))))
   rcases hy:pPart e (pF e k .bin) s1 with _|(⟨f2,s2⟩|⟨a_s2,x_s2⟩)
   ·
    exfalso; rw [pF,hx] at h; simp only at h; rw [if_pos d1,hy] at h; simp only [mapP] at h; cases h
   ·
    obtain ⟨k2,k2d⟩:=pPart_keeps (pF_keeps e k .bin) _ _ _ k1 hy
    refine pop_ok (i:=0) (ppart_loc v e s1 k1 81 (pF e k .bin) ihB (pF_keeps e k .bin) _ hy) (evcons (@rfl V (V.mp 0 v 0 0)) (evcons (@rfl V (V.fn 81 [(V.mp 0 v 0 0)] [])) evnil)) rfl h0 rfl rfl (fork_ (R:=fun T H=>T 2=(V.mp 2 1 0 0)∧T 3=(V.mp 3 1 0 0)∧T 14=(V.mp 0 v 0 0)∧T 16=(V.fn 81 [(V.mp 0 v 0 0)] [])∧T 17=(V.agg [(iV (f2.op)),(iV (f2.arg)),(V.sl (List.map cF (f2.kids)))])∧H 0=(bk v 79 6 [[(V.sl (List.map cS (e.ia))),(V.sl (List.map cS (e.oa))),(V.str e.src),(iV ((s2.pos:Nat):Int)),(V.str s2.wd),(iV ((s2.dep:Nat):Int))]])∧H 2=(bk 1 24 3 [[(iV (0:Int)),(iV (0:Int)),V.nilsl]])∧H 3=(bk 1 24 3 [[(iV (f1.op)),(iV (f1.arg)),(V.sl (List.map cF (f1.kids)))]])∧H 4=(⟨0,false,false,0,0,[]⟩:Blk)∧H 5=(⟨0,false,false,0,0,[]⟩:Blk)∧True) ⟨t2,(@rfl V (V.mp 3 1 0 0)),(@rfl V (V.mp 0 v 0 0)),(@rfl V (V.fn 81 [(V.mp 0 v 0 0)] [])),(@rfl V (V.agg [(iV (f2.op)),(iV (f2.arg)),(V.sl (List.map cF (f2.kids)))])),rfl,h2,rfl,h4,h5,trivial⟩ ?_)
    intro T H ⟨t2,t3,t14,t16,t17,h0,h2,h3,h4,h5,_⟩
    refine W_r (R_alloc (i:=4) (n:=0) (m:=3) rfl (congrArg Blk.ver h4) rfl (R_sk rfl t17 rfl rfl rfl rfl rfl rfl rfl (R_e (W_r (R_lk t3 h3 rfl rfl (R_lk rfl rfl rfl rfl (R_bslice rfl rfl ?_)))))))
    refine R_callk (node_pure ((8:Int)) ([f1,f2])) (evcons rfl (evcons (sl_F2 (x:=f1) (y:=f2) rfl) evnil)) (R_sk t2 rfl rfl h2 rfl rfl rfl rfl rfl (R_e (W_ret (y1 _ _ ?_))))
    refine RetL_ok (v:=(V.agg [(iV (((8:Int)))),(iV (0:Int)),(V.sl (List.map cF (([f1,f2]))))])) (b:=(bk v 79 6 [[(V.sl (List.map cS (e.ia))),(V.sl (List.map cS (e.oa))),(V.str e.src),(iV ((s2.pos:Nat):Int)),(V.str s2.wd),(iV ((s2.dep:Nat):Int))]])) (resT1 (resV_c (u:=(V.agg [(iV (((8:Int)))),(iV (0:Int)),(V.sl (List.map cF (([f1,f2]))))])) t2 (@rfl Blk (bk 1 24 3 [[(iV (((8:Int)))),(iV (0:Int)),(V.sl (List.map cF (([f1,f2]))))]])) (lB oB rfl rfl))) ?_ (by simp) (.same (cut_fin 1 _) _) h0 (by simp [locB,loc0])
    rw [pF,hx] at h; simp only at h; rw [if_pos d1,hy] at h; simp only [mapP] at h; cases h; rfl
   ·
    refine pop_pan (i:=0) (ppart_loc v e s1 k1 81 (pF e k .bin) ihB (pF_keeps e k .bin) _ hy) (evcons (@rfl V (V.mp 0 v 0 0)) (evcons (@rfl V (V.fn 81 [(V.mp 0 v 0 0)] [])) evnil)) rfl h0 rfl fun H'=>(w1 _ _ _ (RetL_pan ?_))
    rw [pF,hx] at h; simp only at h; rw [if_pos d1,hy] at h; simp only [mapP] at h; cases h; rfl
  have d1: ¬s1.wd=[85]:=c2
  refine W_r (R_seql (s:=s1.wd) (t:=([82])) rfl rfl (R_mv rfl (R_e ?_)))
  refine W_if rfl (fun c3=>?_) fun c3=>?_
  ·
   have d2:s1.wd=[82]:=c3
   refine W_seq_seq (W_r (R_mv t0 (R_mv t0 (R_mkm (evcons rfl evnil) evnil (R_e (W_seq_seq ?_))))))
   rcases hy:pPart e (pF e k .bin) s1 with _|(⟨f2,s2⟩|⟨a_s2,x_s2⟩)
   ·
    exfalso; rw [pF,hx] at h; simp only at h; rw [if_neg d1,if_pos d2,hy] at h; simp only [mapP] at h; cases h
   ·
    obtain ⟨k2,k2d⟩:=pPart_keeps (pF_keeps e k .bin) _ _ _ k1 hy
    refine pop_ok (i:=0) (ppart_loc v e s1 k1 81 (pF e k .bin) ihB (pF_keeps e k .bin) _ hy) (evcons (@rfl V (V.mp 0 v 0 0)) (evcons (@rfl V (V.fn 81 [(V.mp 0 v 0 0)] [])) evnil)) rfl h0 rfl rfl (fork_ (R:=fun T H=>T 2=(V.mp 2 1 0 0)∧T 3=(V.mp 3 1 0 0)∧T 24=(V.mp 0 v 0 0)∧T 26=(V.fn 81 [(V.mp 0 v 0 0)] [])∧T 27=(V.agg [(iV (f2.op)),(iV (f2.arg)),(V.sl (List.map cF (f2.kids)))])∧H 0=(bk v 79 6 [[(V.sl (List.map cS (e.ia))),(V.sl (List.map cS (e.oa))),(V.str e.src),(iV ((s2.pos:Nat):Int)),(V.str s2.wd),(iV ((s2.dep:Nat):Int))]])∧H 2=(bk 1 24 3 [[(iV (0:Int)),(iV (0:Int)),V.nilsl]])∧H 3=(bk 1 24 3 [[(iV (f1.op)),(iV (f1.arg)),(V.sl (List.map cF (f1.kids)))]])∧H 4=(⟨0,false,false,0,0,[]⟩:Blk)∧H 5=(⟨0,false,false,0,0,[]⟩:Blk)∧True) ⟨t2,(@rfl V (V.mp 3 1 0 0)),(@rfl V (V.mp 0 v 0 0)),(@rfl V (V.fn 81 [(V.mp 0 v 0 0)] [])),(@rfl V (V.agg [(iV (f2.op)),(iV (f2.arg)),(V.sl (List.map cF (f2.kids)))])),rfl,h2,rfl,h4,h5,trivial⟩ ?_)
    intro T H ⟨t2,t3,t24,t26,t27,h0,h2,h3,h4,h5,_⟩
    refine W_r (R_alloc (i:=5) (n:=0) (m:=3) rfl (congrArg Blk.ver h5) rfl (R_sk rfl t27 rfl rfl rfl rfl rfl rfl rfl (R_e (W_r (R_lk t3 h3 rfl rfl (R_lk rfl rfl rfl rfl (R_bslice rfl rfl ?_)))))))
    refine R_callk (node_pure ((10:Int)) ([f1,f2])) (evcons rfl (evcons (sl_F2 (x:=f1) (y:=f2) rfl) evnil)) (R_sk t2 rfl rfl h2 rfl rfl rfl rfl rfl (R_e (W_ret (y1 _ _ ?_))))
    refine RetL_ok (v:=(V.agg [(iV (((10:Int)))),(iV (0:Int)),(V.sl (List.map cF (([f1,f2]))))])) (b:=(bk v 79 6 [[(V.sl (List.map cS (e.ia))),(V.sl (List.map cS (e.oa))),(V.str e.src),(iV ((s2.pos:Nat):Int)),(V.str s2.wd),(iV ((s2.dep:Nat):Int))]])) (resT1 (resV_c (u:=(V.agg [(iV (((10:Int)))),(iV (0:Int)),(V.sl (List.map cF (([f1,f2]))))])) t2 (@rfl Blk (bk 1 24 3 [[(iV (((10:Int)))),(iV (0:Int)),(V.sl (List.map cF (([f1,f2]))))]])) (lB oB rfl rfl))) ?_ (by simp) (.same (cut_fin 1 _) _) h0 (by simp [locB,loc0])
    rw [pF,hx] at h; simp only at h; rw [if_neg d1,if_pos d2,hy] at h; simp only [mapP] at h; cases h; rfl
   ·
    refine pop_pan (i:=0) (ppart_loc v e s1 k1 81 (pF e k .bin) ihB (pF_keeps e k .bin) _ hy) (evcons (@rfl V (V.mp 0 v 0 0)) (evcons (@rfl V (V.fn 81 [(V.mp 0 v 0 0)] [])) evnil)) rfl h0 rfl fun H'=>(w1 _ _ _ (RetL_pan ?_))
    rw [pF,hx] at h; simp only at h; rw [if_neg d1,if_pos d2,hy] at h; simp only [mapP] at h; cases h; rfl
  have d2: ¬s1.wd=[82]:=c3
  refine W_skip (n1 _ _ (.done (W_r (R_lk rfl rfl rfl rfl (R_sk t2 rfl rfl h2 rfl rfl rfl rfl rfl (R_e (W_ret ?_)))))))
  refine RetL_ok (v:=(V.agg [(iV (f1.op)),(iV (f1.arg)),(V.sl (List.map cF (f1.kids)))])) (b:=(bk v 79 6 [[(V.sl (List.map cS (e.ia))),(V.sl (List.map cS (e.oa))),(V.str e.src),(iV ((s1.pos:Nat):Int)),(V.str s1.wd),(iV ((s1.dep:Nat):Int))]])) (resT1 (resV_c (u:=(V.agg [(iV (f1.op)),(iV (f1.arg)),(V.sl (List.map cF (f1.kids)))])) t2 (@rfl Blk (bk 1 24 3 [[(iV (f1.op)),(iV (f1.arg)),(V.sl (List.map cF (f1.kids)))]])) (lB oB rfl rfl))) ?_ (by simp) (.same (cut_fin 1 _) _) h0 (by simp [locB,loc0])
  rw [pF,hx] at h; simp only at h; rw [if_neg d1,if_neg d2] at h; cases h; rfl
 ·
  refine pop_pan (i:=0) (ihU _ _ hs hx) (evcons (@rfl V (V.mp 0 v 0 0)) evnil) rfl (@rfl Blk (bk v 79 6 [[(V.sl (List.map cS (e.ia))),(V.sl (List.map cS (e.oa))),(V.str e.src),(iV ((s.pos:Nat):Int)),(V.str s.wd),(iV ((s.dep:Nat):Int))]])) rfl fun H'=>(RetL_pan ?_)
  rw [pF,hx] at h; cases h; rfl
def s92:SF:=⟨67,[.cell 2 true 3],.seq (.reg [sO 2 (.alloc 24 [.int .i64 0,.int .i64 0,.nilsl])]) (.seq (.seq (.reg [qM 4 0,sO 5 (.nilck (.t 4)),qF 6 4 5,ql 7 6]) (.block 0 (.seq (.reg [sO 9 (.sbin .eql (.t 7) (.c (.str [33]))),qM 8 9]) (.cond (.t 8) (.seq (.seq (.reg [qM 10 0,qM 11 0,sO 12 (.mkm 92 [.t 11] [])]) (.seq (.pop (some 13) (.call 61 [.t 10,.t 12])) (.reg [sO 14 (.call false 50 [.t 13]),sN (.store 3 (.t 2) (.t 14))]))) (.ret)) (.seq (.reg [sO 16 (.sbin .eql (.t 7) (.c (.str [88]))),qM 15 16]) (.cond (.t 15) (.seq (.seq (.reg [qM 17 0,qM 18 0,sO 19 (.mkm 92 [.t 18] [])]) (.seq (.pop (some 20) (.call 61 [.t 17,.t 19])) (.reg [sO 21 (.bslice 24 3 false [.int .i64 0,.int .i64 0,.nilsl] 1 [(0,.t 20)]),sO 22 (.call false 62 [.c (.int .i64 7),.t 21]),sN (.store 3 (.t 2) (.t 22))]))) (.ret)) (.seq (.reg [sO 24 (.sbin .eql (.t 7) (.c (.str [78]))),qM 23 24]) (.cond (.t 23) (.seq (.seq (.reg [qM 25 0,qM 26 0,sO 27 (.mkm 92 [.t 26] [])]) (.seq (.pop (some 28) (.call 61 [.t 25,.t 27])) (.reg [sO 29 (.bslice 24 3 false [.int .i64 0,.int .i64 0,.nilsl] 1 [(0,.t 28)]),sO 30 (.call false 62 [.c (.int .i64 9),.t 29]),sN (.store 3 (.t 2) (.t 30))]))) (.ret)) (.seq (.reg [sO 32 (.sbin .eql (.t 7) (.c (.str [70]))),qM 31 32]) (.cond (.t 31) (.seq (.seq (.reg [sO 33 (.call false 96 []),qM 34 0,qM 35 0,sO 36 (.mkm 92 [.t 35] [])]) (.seq (.pop (some 37) (.call 61 [.t 34,.t 36])) (.reg [sO 38 (.bslice 24 3 false [.int .i64 0,.int .i64 0,.nilsl] 2 [(0,.t 33),(1,.t 37)]),sO 39 (.call false 62 [.c (.int .i64 8),.t 38]),sN (.store 3 (.t 2) (.t 39))]))) (.ret)) (.seq (.reg [sO 41 (.sbin .eql (.t 7) (.c (.str [71]))),qM 40 41]) (.cond (.t 40) (.seq (.seq (.reg [sO 42 (.call false 97 []),qM 43 0,qM 44 0,sO 45 (.mkm 92 [.t 44] [])]) (.seq (.pop (some 46) (.call 61 [.t 43,.t 45])) (.reg [sO 47 (.bslice 24 3 false [.int .i64 0,.int .i64 0,.nilsl] 2 [(0,.t 42),(1,.t 46)]),sO 48 (.call false 62 [.c (.int .i64 10),.t 47]),sN (.store 3 (.t 2) (.t 48))]))) (.ret)) (.seq (.reg [sO 50 (.sbin .eql (.t 7) (.c (.str [40]))),qM 49 50]) (.cond (.t 49) (.seq (.seq (.reg [qM 51 0,qM 52 0,sO 53 (.mkm 37 [.t 52] [])]) (.seq (.pop (some 54) (.call 61 [.t 51,.t 53])) (.reg [sO 3 (.alloc 24 [.int .i64 0,.int .i64 0,.nilsl]),sN (.store 3 (.t 3) (.t 54))]))) (.seq (.seq (.reg [qM 55 0,sO 56 (.nilck (.t 55)),qF 57 4 56,ql 58 57,sO 59 (.sbin .neq (.t 58) (.c (.str [41])))]) (.cond (.t 59) (.seq (.reg [qM 60 0]) (.seq (.pop (some 61) (.call 38 [.t 60,.c (.int .i64 5)])) (.reg []))) (.skip))) (.seq (.seq (.reg [qM 62 0]) (.seq (.pop (some 63) (.call 36 [.t 62])) (.reg []))) (.seq (.reg [qL 64 3 3,sN (.store 3 (.t 2) (.t 64))]) (.ret))))) (.skip))))))))))))))) (.seq (.seq (.reg [qM 65 0]) (.seq (.pop (some 66) (.call 98 [.t 65])) (.reg [sN (.store 3 (.t 2) (.t 66))]))) (.ret)))⟩
theorem s92_ok:slimF Try.prog ⟨[31,36,37,38,40,41,42,44,45,59,60,61,65,66,67,71,72,73,81,82,84,92,93,98,99,102,104],[],[36,37,38,40,41,42,59,60,61,65,66,67,81,82,92,93,98,99,102,104],[]⟩ Try.f92=some s92:=by kernel_rfl
def s96:SF:=⟨2,[.cell 0 true 3],.seq (.reg [sO 0 (.alloc 24 [.int .i64 0,.int .i64 0,.nilsl])]) (.seq (.reg [sO 1 (.build [.int .i64 0,.int .i64 0,.nilsl] [(0,1,.c (.int .i64 1))]),sN (.store 3 (.t 0) (.t 1))]) (.ret))⟩
theorem s96_ok:slimF Try.prog ⟨[31,36,37,38,40,41,42,44,45,59,60,61,65,66,67,71,72,73,81,82,84,92,93,98,99,102,104],[],[],[]⟩ Try.f96=some s96:=by kernel_rfl
theorem yes_pure:PureC Try.prog 96 [] (V.agg [(iV (1:Int)),(iV (0:Int)),(V.sl (List.map cF ([])))]):=by
 refine pW Try.func96 s96_ok fun hB=>?_
 unfold s96
 dsimp only
 refine W_r (R_alloc (i:=0) (n:=0) (m:=3) rfl (congrArg Blk.ver rfl) rfl (R_e (W_r (R_build rfl rfl (R_sk rfl rfl rfl rfl rfl rfl rfl rfl rfl (R_e (W_ret ?_)))))))
 refine RetC_1 (resV_c (u:=(V.agg [(iV (1:Int)),(iV (0:Int)),V.nilsl])) rfl (@rfl Blk (bk 1 24 3 [[(iV (1:Int)),(iV (0:Int)),V.nilsl]])) (lB oB rfl rfl)) (fz_agg3 (fz_canon (by simp) rfl) (fz_canon (by simp) rfl) (fz_nil ?_))
 · first|rfl|omega|simp_all
def s97:SF:=⟨3,[.cell 0 true 3],.seq (.reg [sO 0 (.alloc 24 [.int .i64 0,.int .i64 0,.nilsl])]) (.seq (.reg [sO 1 (.call false 96 []),sO 2 (.call false 50 [.t 1]),sN (.store 3 (.t 0) (.t 2))]) (.ret))⟩
theorem s97_ok:slimF Try.prog ⟨[31,36,37,38,40,41,42,44,45,59,60,61,65,66,67,71,72,73,81,82,84,92,93,98,99,102,104],[],[],[]⟩ Try.f97=some s97:=by kernel_rfl
theorem no_pure:PureC Try.prog 97 [] (V.agg [(iV (4:Int)),(iV (0:Int)),(V.sl (List.map cF ([Fm.nd 1 0 []])))]):=by
 refine pW Try.func97 s97_ok fun hB=>?_
 unfold s97
 dsimp only
 refine W_r (R_alloc (i:=0) (n:=0) (m:=3) rfl (congrArg Blk.ver rfl) rfl (R_e (W_r (R_callk (yes_pure) rfl (R_callk (not_pure (⟨((1:Int)),((0:Int)),([])⟩:Fm)) rfl (R_sk rfl rfl rfl rfl rfl rfl rfl rfl rfl (R_e ?_)))))))
 refine W_ret ?_
 refine RetC_1 (resV_c (u:=(V.agg [(iV (4:Int)),(iV (0:Int)),(V.sl (List.map cF ([(⟨((1:Int)),((0:Int)),([])⟩:Fm)])))])) rfl (@rfl Blk (bk 1 24 3 [[(iV (4:Int)),(iV (0:Int)),(V.sl (List.map cF ([(⟨((1:Int)),((0:Int)),([])⟩:Fm)])))]])) (lB oB rfl rfl)) (fz_agg3 (fz_canon (by simp) rfl) (fz_canon (by simp) rfl) (fz_sl ?_ (fun _=>by simp)))
 · first|rfl|omega|simp_all
def r98_2:List SO:=[
 qM 11 0,
 sO 12 (.nilck (.t 11)),
 qF 13 4 12,
 ql 14 13,
 sO 15 (.call false 100 [.t 14,.c (.str [105,110,58])]),
 qM 10 15,
 qE 16 10 0,
 qE 17 10 1,
 qM 4 16,
 qM 5 17]
def r98_3:List SO:=[
 qM 19 0,
 sO 20 (.nilck (.t 19)),
 qF 21 4 20,
 ql 22 21,
 sO 23 (.call false 100 [.t 22,.c (.str [111,117,116,58])]),
 qM 18 23,
 qE 24 18 0,
 qE 25 18 1,
 qM 6 24,
 qM 7 25]
def r98_7:List SO:=[
 qM 30 0,
 sO 31 (.nilck (.t 30)),
 qF 32 0 31,
 qL 33 1 32,
 qM 34 4,
 sO 35 (.call false 101 [.t 33,.t 34]),
 qM 29 35,
 qE 36 29 0,
 qE 37 29 1,
 qF 38 1 3,
 sN (.store 1 (.t 38) (.t 36)),
 qM 8 37]
def r98_10:List SO:=[
 qM 43 0,
 sO 44 (.nilck (.t 43)),
 qF 45 1 44,
 qL 46 1 45,
 qM 47 6,
 sO 48 (.call false 101 [.t 46,.t 47]),
 qM 42 48,
 qE 49 42 0,
 qE 50 42 1,
 qF 51 1 3,
 sN (.store 1 (.t 51) (.t 49)),
 qM 8 50]
def s98:SF:=⟨74,[.cell 2 true 3],.seq (.reg [sO 2 (.alloc 24 [.int .i64 0,.int .i64 0,.nilsl])]) (.seq (.reg [sO 9 (.call false 96 []),sO 3 (.alloc 24 [.int .i64 0,.int .i64 0,.nilsl]),sN (.store 3 (.t 3) (.t 9))]) (.seq (.reg r98_2) (.seq (.reg r98_3) (.seq (.reg [sO 8 (.mv (.c (.bool true)))]) (.seq (.block 0 (.seq (.reg [qM 27 5,qM 26 27]) (.cond (.t 26) (.seq (.reg [qF 28 0 3,sN (.store 1 (.t 28) (.c (.int .i64 2)))]) (.reg r98_7)) (.seq (.reg [qM 40 7,qM 39 40]) (.cond (.t 39) (.seq (.reg [qF 41 0 3,sN (.store 1 (.t 41) (.c (.int .i64 3)))]) (.reg r98_10)) (.seq (.reg [qM 53 0,sO 54 (.nilck (.t 53)),qF 55 4 54,ql 56 55,sO 57 (.sbin .eql (.t 56) (.c (.str [102,97,108,115,101]))),qM 52 57]) (.cond (.t 52) (.reg [sO 58 (.call false 97 []),sN (.store 3 (.t 3) (.t 58))]) (.seq (.reg [qM 60 0,sO 61 (.nilck (.t 60)),qF 62 4 61,ql 63 62,sO 64 (.sbin .neq (.t 63) (.c (.str [116,114,117,101]))),qM 59 64]) (.cond (.t 59) (.seq (.reg [qM 65 0]) (.seq (.pop (some 66) (.call 38 [.t 65,.c (.int .i64 5)])) (.reg []))) (.skip)))))))))) (.seq (.seq (.reg [qM 67 8,sO 68 (.un .not (.t 67))]) (.cond (.t 68) (.seq (.reg [qM 69 0]) (.seq (.pop (some 70) (.call 38 [.t 69,.c (.int .i64 8)])) (.reg []))) (.skip))) (.seq (.seq (.reg [qM 71 0]) (.seq (.pop (some 72) (.call 36 [.t 71])) (.reg []))) (.seq (.reg [qL 73 3 3,sN (.store 3 (.t 2) (.t 73))]) (.ret)))))))))⟩
theorem s98_ok:slimF Try.prog ⟨[31,36,37,38,40,41,42,44,45,59,60,61,65,66,67,71,72,73,81,82,84,92,93,98,99,102,104],[],[36,37,38,40,41,42,59,60,61,65,66,67,81,82,92,93,98,99,102,104],[]⟩ Try.f98=some s98:=by kernel_rfl
def r100_1:List SO:=[
 qM 6 0,
 qM 7 1,
 sO 8 (.call false 105 [.t 6,.t 7]),
 qE 9 8 0,
 qE 10 8 1,
 qM 4 9,
 qM 5 10]
def s100:SF:=⟨11,[.tmp 4,.tmp 5],.seq (.reg [sO 4 (.mv (.c (.str []))),sO 5 (.mv (.c (.bool false)))]) (.seq (.reg r100_1) (.ret))⟩
theorem s100_ok:slimF Try.prog ⟨[31,36,37,38,40,41,42,44,45,59,60,61,65,66,67,71,72,73,81,82,84,92,93,98,99,102,104],[],[],[]⟩ Try.f100=some s100:=by kernel_rfl
def s105:SF:=⟨15,[.tmp 4,.tmp 5],.seq (.reg [sO 4 (.mv (.c (.str []))),sO 5 (.mv (.c (.bool false)))]) (.seq (.seq (.reg [qM 6 0,qM 7 1,sO 8 (.call false 79 [.t 6,.t 7]),sO 9 (.un .not (.t 8))]) (.cond (.t 9) (.seq (.reg [qM 10 0,qM 4 10,sO 5 (.mv (.c (.bool false)))]) (.ret)) (.skip))) (.seq (.reg [qM 11 0,qM 12 1,sO 13 (.slen (.t 12)),sO 14 (.sslice (.t 11) (some (.t 13)) none),qM 4 14,sO 5 (.mv (.c (.bool true)))]) (.ret)))⟩
theorem s105_ok:slimF Try.prog ⟨[31,36,37,38,40,41,42,44,45,59,60,61,65,66,67,71,72,73,81,82,84,92,93,98,99,102,104],[],[],[]⟩ Try.f105=some s105:=by kernel_rfl
theorem slcp_pure (s p:List UInt8) (hl:s.length≤1048576):PureC Try.prog 105 [(V.str s),(V.str p)] (V.tup [(V.str ((if prB s p=true then s.drop p.length else s))),(V.bool (prB s p))]):=by
 refine pW Try.func105 s105_ok fun hB=>?_
 unfold s105
 dsimp only
 refine W_r (R_mv rfl (R_mv rfl (R_e (W_seq_seq (W_r (R_mv rfl (R_mv rfl ?_)))))))
 refine R_callk (slhp_pure s p (by omega)) rfl (R_notb rfl (R_e ?_))
 refine W_seq_ifb rfl (fun c1=>?_) (fun c1=>?_)
 ·
  have d1:prB s p=false:=by simpa using c1
  refine W_seq_seq (W_r (R_mv rfl (R_mv rfl (R_mv rfl (R_e (W_seq_ret ?_))))))
  refine Ret_2 (@rfl V (V.str s)) (@rfl V (V.bool false)) (fz_canon (by simp) ?_) (fz_bool ?_)
  · rw [if_neg (by simp [d1])]
  · exact d1.symm
 have d1:prB s p=true:=by simpa using c1
 have d2:p.length≤s.length:=(of_decide_eq_true d1).1
 refine W_seq_skip (W_r (R_mv rfl (R_mv rfl (R_slen (s:=p) rfl (R_sslo (s:=s) (m:=p.length) (@rfl V (V.str s)) (@rfl V (iV ((p.length:Nat):Int))) (by omega) (R_mv rfl (R_mv rfl ?_)))))))
 refine R_e (W_ret ?_)
 refine Ret_2 (@rfl V (V.str (List.drop p.length s))) (@rfl V (V.bool true)) (fz_canon (by simp) ?_) (fz_bool ?_)
 · rw [if_pos d1]
 · exact d1.symm
theorem scp_pure (s p:List UInt8) (hl:s.length≤1048576):PureC Try.prog 100 [(V.str s),(V.str p)] (V.tup [(V.str ((if prB s p=true then s.drop p.length else s))),(V.bool (prB s p))]):=by
 refine pW Try.func100 s100_ok fun hB=>?_
 unfold s100
 dsimp only
 refine W_r (R_mv rfl (R_mv rfl (R_e (W_r (R_mv rfl (R_mv rfl (R_callk (slcp_pure s p (by omega)) rfl ?_)))))))
 refine R_ext rfl rfl (R_ext rfl rfl (R_mv rfl (R_mv rfl (R_e (W_ret ?_)))))
 refine Ret_2 (@rfl V (V.str ((if prB s p=true then s.drop p.length else s)))) (@rfl V (V.bool (prB s p))) (fz_canon (by simp) rfl) (fz_canon (by simp) rfl)
def s101:SF:=⟨15,[.tmp 4,.tmp 5],.seq (.reg [sO 2 (.box 37 1 (.t 0)),qI 4 0,sO 5 (.mv (.c (.bool false)))]) (.seq (.reg [qF 7 0 2,ql 8 7,qM 9 1,sO 10 (.call false 90 [.t 8,.t 9]),qM 6 10]) (.seq (.reg [qM 11 6,sO 12 (.mx (.t 11) (.c (.int .i64 0))),qM 13 6,qC 14 .geq 13 0,qM 4 12,qM 5 14]) (.ret)))⟩
theorem s101_ok:slimF Try.prog ⟨[31,36,37,38,40,41,42,44,45,59,60,61,65,66,67,71,72,73,81,82,84,92,93,98,99,102,104],[],[],[]⟩ Try.f101=some s101:=by kernel_rfl
def b90_0:SC:=.seq (.reg [qP 9 .lss 8 7]) (.seq (.cond (.t 9) (.skip) (.exit 0)) (.seq (.block 1 (.seq (.reg [qM 10 8,qM 5 10]) (.seq (.reg [qM 11 1,qM 12 0,qM 13 5,qA 14 1 12 13,ql 15 14,sO 16 (.sbin .eql (.t 11) (.t 15))]) (.cond (.t 16) (.seq (.reg [qM 17 5,qM 4 17]) (.ret)) (.skip))))) (.reg [qC 18 .add 8 1,qM 8 18])))
def s90:SF:=⟨19,[.tmp 4],.seq (.reg [qI 4 0]) (.seq (.seq (.reg [qM 6 0,qN 7 6,qI 8 0]) (.block 0 (.loop b90_0))) (.seq (.reg [sO 4 (.mv (.c (.int .i64 (-1))))]) (.ret)))⟩
theorem s90_ok:slimF Try.prog ⟨[31,36,37,38,40,41,42,44,45,59,60,61,65,66,67,71,72,73,81,82,84,92,93,98,99,102,104],[],[],[]⟩ Try.f90=some s90:=by kernel_rfl
theorem sidx_pure (l:List (List UInt8)) (s:List UInt8):PureC Try.prog 90 [(V.sl (List.map cS (l))),(V.str s)] (iV (idxS l s)):=by
 refine pW Try.func90 s90_ok fun hB=>?_
 unfold s90
 dsimp only
 refine W_r (R_mv rfl (R_e (W_seq_seq (W_r (R_mv rfl (R_len rfl (R_mv rfl ?_)))))))
 refine R_e (W_seq_blockg fun Q1 n1 x1 y1 z1=>?_)
 refine W_loop (fun mm T H=> ∃ (k:Nat),mm=l.length - k∧T 0=(V.sl (List.map cS (l)))∧T 1=(V.str s)∧T 7=(iV ((l.length:Nat):Int))∧T 8=(iV ((k:Nat):Int))∧(k≤l.length)∧(idxS l s=fi (fun j=>decide (nth l j=s)) k (l.length - k))) ?_ ?_
 ·
  refine ⟨_,0,rfl,rfl,rfl,rfl,(Eq.trans (@rfl V (iV (0:Int))) rfl),?_,?_⟩
  · omega
  · rfl
 intro mm T H ⟨k,hmm,t0,t1,t7,t8,hk,hc⟩ Q2 p12 p22 p32
 unfold b90_0
 refine W_r (R_lss t8 t7 (R_e ?_))
 refine W_seq_if rfl (fun c3=>?_) fun c3=>?_
 ·
  refine W_seq_skip (W_seq_blockg fun Q4 n4 x4 y4 z4=>(W_r (R_mv t8 (R_mv rfl (R_e (W_r (R_mv t1 ?_)))))))
  refine R_mv t0 (R_mv rfl (R_idx (i:=k) (@rfl V (V.sl (List.map cS (l)))) (@rfl V (iV ((k:Nat):Int))) (by omega) rfl (R_load_pp rfl rfl (R_seql (s:=s) (t:=((nth (l) (k)))) rfl rfl (R_e ?_)))))
  refine W_if rfl (fun c5=>?_) fun c5=>?_
  ·
   have d1:nth l k=s:=(c5).symm
   refine W_r (R_mv rfl (R_mv rfl (R_e (W_ret (y4 _ _ (p22 _ _ (y1 _ _ ?_)))))))
   refine Ret_1 (@rfl V (iV ((k:Nat):Int))) (fz_int ?_)
   · exact (idxS_hit hc (by omega) d1).symm
  have d1: ¬nth l k=s:=fun e=>c5 e.symm
  refine W_skip (n4 _ _ (.done (W_t (R_addN t8 (@rfl V (iV ((1:Nat):Int))) (by omega) (R_mv rfl (R_e ?_))))))
  refine p12 _ _ _ ?_ ⟨(k+1),rfl,t0,t1,t7,(Eq.trans (@rfl V (iV ((k+1:Nat):Int))) (by rfl)),?_,?_⟩
  · omega
  · omega
  · exact idxS_skip hc (by omega) d1
 refine W_seq_exit (p32 _ _ _ (x1 _ _ (.done (W_r (R_mv rfl (R_e (W_ret ?_)))))))
 refine Ret_1 (@rfl V (iV (-1:Int))) (fz_int ?_)
 · exact (idxS_end hc (by omega)).symm
theorem aindex_pure (l:List (List UInt8)) (s:List UInt8):PureC Try.prog 101 [(V.agg [(V.sl (List.map cS (l)))]),(V.str s)] (V.tup [(iV (ixV l s)),(V.bool (ixB l s))]):=by
 refine pW Try.func101 s101_ok fun hB=>?_
 unfold s101
 dsimp only
 refine W_r (R_box (i:=2) (n:=0) (m:=1) (cs:=[(V.sl (List.map cS (l)))]) rfl (congrArg Blk.ver rfl) rfl rfl rfl (R_mv rfl (R_mv rfl (R_e (W_r (R_fk rfl rfl (R_lk rfl rfl rfl rfl ?_)))))))
 refine R_mv rfl (R_callk (sidx_pure l s) rfl (R_mv rfl (R_e (W_r (R_mv rfl (R_mxI (x:=(idxS l s)) (y:=(0:Int)) rfl rfl (R_mv rfl ?_)))))))
 refine R_geq rfl rfl (R_mv rfl (R_mv rfl (R_e (W_ret ?_))))
 refine Ret_2 (@rfl V (iV ((if (idxS l s) < (0:Int) then (0:Int) else (idxS l s))))) (@rfl V (V.bool (decide ((0:Int)≤(idxS l s))))) (fz_int ?_) (fz_bool ?_)
 · unfold ixV; split <;> split <;> omega
 · rfl
set_option maxHeartbeats 1000000 in
theorem patom_loc (v:Nat) (e:PE) (s:PS) (hs:OkS e s):LocC Try.prog 98 1 [(V.mp 0 v 0 0)] (hpB (bk v 79 6 [[(V.sl (List.map cS (e.ia))),(V.sl (List.map cS (e.oa))),(V.str e.src),(iV ((s.pos:Nat):Int)),(V.str s.wd),(iV ((s.dep:Nat):Int))]])) ((pAtom e s).out 79 75 v e fmV):=by
 refine lW (k0:=0) Try.func98 s98_ok fun hB=>?_
 unfold s98
 dsimp only
 have hlen:=hs.len
 have hpos:=hs.pos
 have hdep:=hs.dep
 refine W_r (R_alloc (i:=2) (n:=0) (m:=3) rfl (congrArg Blk.ver rfl) rfl (R_e (W_r (R_callk (yes_pure) rfl (R_alloc (i:=3) (n:=0) (m:=3) rfl (congrArg Blk.ver rfl) rfl (R_sk rfl rfl rfl rfl rfl rfl rfl rfl rfl (R_e ?_)))))))
 refine W_r (R_mv rfl (R_nilck_mp rfl rfl oB (R_fk rfl rfl (R_lk rfl rfl rfl rfl (R_callk (scp_pure s.wd ([105,110,58]) (by omega)) rfl (R_mv rfl (R_ext rfl rfl ?_)))))))
 refine R_ext rfl rfl (R_mv rfl (R_mv rfl (R_e (W_r (R_mv rfl (R_nilck_mp rfl rfl oB (R_fk rfl rfl ?_)))))))
 refine R_lk rfl rfl rfl rfl (R_callk (scp_pure s.wd ([111,117,116,58]) (by omega)) rfl (R_mv rfl (R_ext rfl rfl (R_ext rfl rfl (R_mv rfl (R_mv rfl (R_e ?_)))))))
 refine W_r (R_mv rfl (R_e (W_seq_blockgP fun Q1 n1 x1 y1 z1 w1=>(W_r (R_mv rfl (R_mv rfl (R_e ?_)))))))
 refine W_ifb rfl (fun c2=>?_) (fun c2=>?_)
 ·
  have q1:prB s.wd [105,110,58]=true:=c2
  refine W_r (R_fk rfl rfl (R_sk rfl rfl rfl rfl rfl rfl rfl rfl rfl (R_e ?_)))
  refine W_regc (fun T H=>T 0=(V.mp 0 v 0 0)∧T 2=(V.mp 2 1 0 0)∧T 3=(V.mp 3 1 0 0)∧T 8=(V.bool (ixB e.ia ((if prB s.wd ([105,110,58])=true then s.wd.drop ([105,110,58]).length else s.wd))))∧H 0=(bk v 79 6 [[(V.sl (List.map cS (e.ia))),(V.sl (List.map cS (e.oa))),(V.str e.src),(iV ((s.pos:Nat):Int)),(V.str s.wd),(iV ((s.dep:Nat):Int))]])∧H 2=(bk 1 24 3 [[(iV (0:Int)),(iV (0:Int)),V.nilsl]])∧H 3=(bk 1 24 3 [[(iV (2:Int)),(iV (ixV e.ia ((if prB s.wd ([105,110,58])=true then s.wd.drop ([105,110,58]).length else s.wd)))),(V.sl (List.map cF ([])))]])∧True) ?_ ?_
  ·
   refine R_mv rfl (R_nilck_mp rfl rfl oB (R_fk rfl rfl (R_lk rfl rfl rfl rfl (R_mv rfl (R_callk (aindex_pure e.ia ((if prB s.wd ([105,110,58])=true then s.wd.drop ([105,110,58]).length else s.wd))) rfl (R_mv rfl (R_ext rfl rfl ?_)))))))
   refine R_ext rfl rfl (R_fk rfl rfl (R_sk rfl rfl rfl rfl rfl rfl rfl rfl rfl (R_mv rfl ?_)))
   exact R_nil ⟨rfl,rfl,rfl,rfl,rfl,rfl,rfl,trivial⟩
  intro T H ⟨t0,t2,t3,t8,h0,h2,h3,_⟩
  refine n1 _ _ (.done (W_seq_seq (W_r (R_mv t8 (R_notb rfl (R_e ?_))))))
  refine W_seq_ifb rfl (fun c3=>?_) (fun c3=>?_)
  ·
   have d8:=c3
   rw [Bool.not_eq_true'] at d8
   rw [← Bool.not_eq_true] at d8
   refine W_seq_seq (W_r (R_mv t0 (R_e (W_seq_seq (pop_pan (i:=0) (pfail_loc v e s (8:Int)) (evcons (@rfl V (V.mp 0 v 0 0)) (evcons (@rfl V (iV (8:Int))) evnil)) rfl h0 rfl fun H'=>(RetL_pan ?_))))))
   first|(exact congrArg _ (pAtom_in0 q1 d8))|(exact congrArg _ (pAtom_out0 q1 q2 d8))
  have d8:=c3
  rw [Bool.not_eq_false'] at d8
  refine W_seq_skip (W_seq_seq (W_r (R_mv t0 (R_e (W_seq_seq ?_)))))
  rcases hx:pNext e s with ⟨u1,s1⟩|⟨a_s1,x_s1⟩
  ·
   obtain ⟨k1,k1d,k1g⟩:=pNext_inv hs hx
   refine pop_ok (i:=0) (by have q:=pnext_loc v e s hs; rw [hx] at q; exact q) (evcons (@rfl V (V.mp 0 v 0 0)) evnil) rfl h0 rfl rfl (fork_ (R:=fun T H=>T 2=(V.mp 2 1 0 0)∧T 3=(V.mp 3 1 0 0)∧T 71=(V.mp 0 v 0 0)∧T 72=(V.tup [])∧H 0=(bk v 79 6 [[(V.sl (List.map cS (e.ia))),(V.sl (List.map cS (e.oa))),(V.str e.src),(iV ((s1.pos:Nat):Int)),(V.str s1.wd),(iV ((s1.dep:Nat):Int))]])∧H 2=(bk 1 24 3 [[(iV (0:Int)),(iV (0:Int)),V.nilsl]])∧H 3=(bk 1 24 3 [[(iV (2:Int)),(iV (ixV e.ia ((if prB s.wd ([105,110,58])=true then s.wd.drop ([105,110,58]).length else s.wd)))),(V.sl (List.map cF ([])))]])∧True) ⟨t2,t3,(@rfl V (V.mp 0 v 0 0)),(@rfl V (V.tup [])),rfl,h2,h3,trivial⟩ ?_)
   intro T H ⟨t2,t3,t71,t72,h0,h2,h3,_⟩
   refine W_reg0 (W_r (R_lk t3 h3 rfl rfl (R_sk t2 rfl rfl h2 rfl rfl rfl rfl rfl (R_e (W_ret ?_)))))
   refine RetL_ok (v:=(V.agg [(iV (2:Int)),(iV (ixV e.ia ((if prB s.wd ([105,110,58])=true then s.wd.drop ([105,110,58]).length else s.wd)))),(V.sl (List.map cF ([])))])) (b:=(bk v 79 6 [[(V.sl (List.map cS (e.ia))),(V.sl (List.map cS (e.oa))),(V.str e.src),(iV ((s1.pos:Nat):Int)),(V.str s1.wd),(iV ((s1.dep:Nat):Int))]])) (resT1 (resV_c (u:=(V.agg [(iV (2:Int)),(iV (ixV e.ia ((if prB s.wd ([105,110,58])=true then s.wd.drop ([105,110,58]).length else s.wd)))),(V.sl (List.map cF ([])))])) t2 (@rfl Blk (bk 1 24 3 [[(iV (2:Int)),(iV (ixV e.ia ((if prB s.wd ([105,110,58])=true then s.wd.drop ([105,110,58]).length else s.wd)))),(V.sl (List.map cF ([])))]])) (lB oB rfl rfl))) ?_ (by simp) (.same (cut_fin 1 _) _) h0 (by simp [locB,loc0])
   exact congrArg _ ((pAtom_in1 q1 d8).trans (aft_ok hx))
  ·
   refine pop_pan (i:=0) (by have q:=pnext_loc v e s hs; rw [hx] at q; exact q) (evcons (@rfl V (V.mp 0 v 0 0)) evnil) rfl h0 rfl fun H'=>(RetL_pan ?_)
   first|(exact congrArg _ ((pAtom_in1 q1 d8).trans (aft_er hx)))|(exact congrArg _ ((pAtom_out1 q1 q2 d8).trans (aft_er hx)))|(exact congrArg _ ((pAtom_fa q1 q2 q3).trans (aft_er hx)))|(exact congrArg _ ((pAtom_tr q1 q2 q3 q4).trans (aft_er hx)))
 have q1: ¬prB s.wd [105,110,58]=true:=by rw [c2]; exact Bool.false_ne_true
 refine W_r (R_mv rfl (R_mv rfl (R_e ?_)))
 refine W_ifb rfl (fun c4=>?_) (fun c4=>?_)
 ·
  have q2:prB s.wd [111,117,116,58]=true:=c4
  refine W_r (R_fk rfl rfl (R_sk rfl rfl rfl rfl rfl rfl rfl rfl rfl (R_e ?_)))
  refine W_regc (fun T H=>T 0=(V.mp 0 v 0 0)∧T 2=(V.mp 2 1 0 0)∧T 3=(V.mp 3 1 0 0)∧T 8=(V.bool (ixB e.oa ((if prB s.wd ([111,117,116,58])=true then s.wd.drop ([111,117,116,58]).length else s.wd))))∧H 0=(bk v 79 6 [[(V.sl (List.map cS (e.ia))),(V.sl (List.map cS (e.oa))),(V.str e.src),(iV ((s.pos:Nat):Int)),(V.str s.wd),(iV ((s.dep:Nat):Int))]])∧H 2=(bk 1 24 3 [[(iV (0:Int)),(iV (0:Int)),V.nilsl]])∧H 3=(bk 1 24 3 [[(iV (3:Int)),(iV (ixV e.oa ((if prB s.wd ([111,117,116,58])=true then s.wd.drop ([111,117,116,58]).length else s.wd)))),(V.sl (List.map cF ([])))]])∧True) ?_ ?_
  ·
   refine R_mv rfl (R_nilck_mp rfl rfl oB (R_fk rfl rfl (R_lk rfl rfl rfl rfl (R_mv rfl (R_callk (aindex_pure e.oa ((if prB s.wd ([111,117,116,58])=true then s.wd.drop ([111,117,116,58]).length else s.wd))) rfl (R_mv rfl (R_ext rfl rfl ?_)))))))
   refine R_ext rfl rfl (R_fk rfl rfl (R_sk rfl rfl rfl rfl rfl rfl rfl rfl rfl (R_mv rfl ?_)))
   exact R_nil ⟨rfl,rfl,rfl,rfl,rfl,rfl,rfl,trivial⟩
  intro T H ⟨t0,t2,t3,t8,h0,h2,h3,_⟩
  refine n1 _ _ (.done (W_seq_seq (W_r (R_mv t8 (R_notb rfl (R_e ?_))))))
  refine W_seq_ifb rfl (fun c5=>?_) (fun c5=>?_)
  ·
   have d8:=c5
   rw [Bool.not_eq_true'] at d8
   rw [← Bool.not_eq_true] at d8
   refine W_seq_seq (W_r (R_mv t0 (R_e (W_seq_seq (pop_pan (i:=0) (pfail_loc v e s (8:Int)) (evcons (@rfl V (V.mp 0 v 0 0)) (evcons (@rfl V (iV (8:Int))) evnil)) rfl h0 rfl fun H'=>(RetL_pan ?_))))))
   first|(exact congrArg _ (pAtom_in0 q1 d8))|(exact congrArg _ (pAtom_out0 q1 q2 d8))
  have d8:=c5
  rw [Bool.not_eq_false'] at d8
  refine W_seq_skip (W_seq_seq (W_r (R_mv t0 (R_e (W_seq_seq ?_)))))
  rcases hx:pNext e s with ⟨u1,s1⟩|⟨a_s1,x_s1⟩
  ·
   obtain ⟨k1,k1d,k1g⟩:=pNext_inv hs hx
   refine pop_ok (i:=0) (by have q:=pnext_loc v e s hs; rw [hx] at q; exact q) (evcons (@rfl V (V.mp 0 v 0 0)) evnil) rfl h0 rfl rfl (fork_ (R:=fun T H=>T 2=(V.mp 2 1 0 0)∧T 3=(V.mp 3 1 0 0)∧T 71=(V.mp 0 v 0 0)∧T 72=(V.tup [])∧H 0=(bk v 79 6 [[(V.sl (List.map cS (e.ia))),(V.sl (List.map cS (e.oa))),(V.str e.src),(iV ((s1.pos:Nat):Int)),(V.str s1.wd),(iV ((s1.dep:Nat):Int))]])∧H 2=(bk 1 24 3 [[(iV (0:Int)),(iV (0:Int)),V.nilsl]])∧H 3=(bk 1 24 3 [[(iV (3:Int)),(iV (ixV e.oa ((if prB s.wd ([111,117,116,58])=true then s.wd.drop ([111,117,116,58]).length else s.wd)))),(V.sl (List.map cF ([])))]])∧True) ⟨t2,t3,(@rfl V (V.mp 0 v 0 0)),(@rfl V (V.tup [])),rfl,h2,h3,trivial⟩ ?_)
   intro T H ⟨t2,t3,t71,t72,h0,h2,h3,_⟩
   refine W_reg0 (W_r (R_lk t3 h3 rfl rfl (R_sk t2 rfl rfl h2 rfl rfl rfl rfl rfl (R_e (W_ret ?_)))))
   refine RetL_ok (v:=(V.agg [(iV (3:Int)),(iV (ixV e.oa ((if prB s.wd ([111,117,116,58])=true then s.wd.drop ([111,117,116,58]).length else s.wd)))),(V.sl (List.map cF ([])))])) (b:=(bk v 79 6 [[(V.sl (List.map cS (e.ia))),(V.sl (List.map cS (e.oa))),(V.str e.src),(iV ((s1.pos:Nat):Int)),(V.str s1.wd),(iV ((s1.dep:Nat):Int))]])) (resT1 (resV_c (u:=(V.agg [(iV (3:Int)),(iV (ixV e.oa ((if prB s.wd ([111,117,116,58])=true then s.wd.drop ([111,117,116,58]).length else s.wd)))),(V.sl (List.map cF ([])))])) t2 (@rfl Blk (bk 1 24 3 [[(iV (3:Int)),(iV (ixV e.oa ((if prB s.wd ([111,117,116,58])=true then s.wd.drop ([111,117,116,58]).length else s.wd)))),(V.sl (List.map cF ([])))]])) (lB oB rfl rfl))) ?_ (by simp) (.same (cut_fin 1 _) _) h0 (by simp [locB,loc0])
   exact congrArg _ ((pAtom_out1 q1 q2 d8).trans (aft_ok hx))
  ·
   refine pop_pan (i:=0) (by have q:=pnext_loc v e s hs; rw [hx] at q; exact q) (evcons (@rfl V (V.mp 0 v 0 0)) evnil) rfl h0 rfl fun H'=>(RetL_pan ?_)
   first|(exact congrArg _ ((pAtom_in1 q1 d8).trans (aft_er hx)))|(exact congrArg _ ((pAtom_out1 q1 q2 d8).trans (aft_er hx)))|(exact congrArg _ ((pAtom_fa q1 q2 q3).trans (aft_er hx)))|(exact congrArg _ ((pAtom_tr q1 q2 q3 q4).trans (aft_er hx)))
 have q2: ¬prB s.wd [111,117,116,58]=true:=by rw [c4]; exact Bool.false_ne_true
 refine W_r (R_mv rfl (R_nilck_mp rfl rfl oB (R_fk rfl rfl (R_lk rfl rfl rfl rfl (R_seql (s:=s.wd) (t:=([102,97,108,115,101])) rfl rfl (R_mv rfl (R_e ?_)))))))
 refine W_if rfl (fun c6=>?_) fun c6=>?_
 ·
  have q3:s.wd=[102,97,108,115,101]:=c6
  refine W_t (R_callk (no_pure) rfl (R_sk rfl rfl rfl rfl rfl rfl rfl rfl rfl (R_e (n1 _ _ (.done (W_seq_seq (W_r ?_)))))))
  refine R_mv rfl (R_notb rfl (R_e ?_))
  refine W_seq_ifb rfl (fun c7=>?_) (fun c7=>?_)
  · cases c7
  have d8:=c7
  rw [Bool.not_eq_false'] at d8
  refine W_seq_skip (W_seq_seq (W_r (R_mv rfl (R_e (W_seq_seq ?_)))))
  rcases hx:pNext e s with ⟨u1,s1⟩|⟨a_s1,x_s1⟩
  ·
   obtain ⟨k1,k1d,k1g⟩:=pNext_inv hs hx
   refine pop_ok (i:=0) (by have q:=pnext_loc v e s hs; rw [hx] at q; exact q) (evcons (@rfl V (V.mp 0 v 0 0)) evnil) rfl (@rfl Blk (bk v 79 6 [[(V.sl (List.map cS (e.ia))),(V.sl (List.map cS (e.oa))),(V.str e.src),(iV ((s.pos:Nat):Int)),(V.str s.wd),(iV ((s.dep:Nat):Int))]])) rfl rfl (fork_ (R:=fun T H=>T 2=(V.mp 2 1 0 0)∧T 3=(V.mp 3 1 0 0)∧T 71=(V.mp 0 v 0 0)∧T 72=(V.tup [])∧H 0=(bk v 79 6 [[(V.sl (List.map cS (e.ia))),(V.sl (List.map cS (e.oa))),(V.str e.src),(iV ((s1.pos:Nat):Int)),(V.str s1.wd),(iV ((s1.dep:Nat):Int))]])∧H 2=(bk 1 24 3 [[(iV (0:Int)),(iV (0:Int)),V.nilsl]])∧H 3=(bk 1 24 3 [[(iV (4:Int)),(iV (0:Int)),(V.sl (List.map cF ([Fm.nd 1 0 []])))]])∧True) ⟨(@rfl V (V.mp 2 1 0 0)),(@rfl V (V.mp 3 1 0 0)),(@rfl V (V.mp 0 v 0 0)),(@rfl V (V.tup [])),rfl,rfl,rfl,trivial⟩ ?_)
   intro T H ⟨t2,t3,t71,t72,h0,h2,h3,_⟩
   refine W_reg0 (W_r (R_lk t3 h3 rfl rfl (R_sk t2 rfl rfl h2 rfl rfl rfl rfl rfl (R_e (W_ret ?_)))))
   refine RetL_ok (v:=(V.agg [(iV (4:Int)),(iV (0:Int)),(V.sl (List.map cF ([Fm.nd 1 0 []])))])) (b:=(bk v 79 6 [[(V.sl (List.map cS (e.ia))),(V.sl (List.map cS (e.oa))),(V.str e.src),(iV ((s1.pos:Nat):Int)),(V.str s1.wd),(iV ((s1.dep:Nat):Int))]])) (resT1 (resV_c (u:=(V.agg [(iV (4:Int)),(iV (0:Int)),(V.sl (List.map cF ([Fm.nd 1 0 []])))])) t2 (@rfl Blk (bk 1 24 3 [[(iV (4:Int)),(iV (0:Int)),(V.sl (List.map cF ([Fm.nd 1 0 []])))]])) (lB oB rfl rfl))) ?_ (by simp) (.same (cut_fin 1 _) _) h0 (by simp [locB,loc0])
   exact congrArg _ ((pAtom_fa q1 q2 q3).trans (aft_ok hx))
  ·
   refine pop_pan (i:=0) (by have q:=pnext_loc v e s hs; rw [hx] at q; exact q) (evcons (@rfl V (V.mp 0 v 0 0)) evnil) rfl (@rfl Blk (bk v 79 6 [[(V.sl (List.map cS (e.ia))),(V.sl (List.map cS (e.oa))),(V.str e.src),(iV ((s.pos:Nat):Int)),(V.str s.wd),(iV ((s.dep:Nat):Int))]])) rfl fun H'=>(RetL_pan ?_)
   first|(exact congrArg _ ((pAtom_in1 q1 d8).trans (aft_er hx)))|(exact congrArg _ ((pAtom_out1 q1 q2 d8).trans (aft_er hx)))|(exact congrArg _ ((pAtom_fa q1 q2 q3).trans (aft_er hx)))|(exact congrArg _ ((pAtom_tr q1 q2 q3 q4).trans (aft_er hx)))
 have q3: ¬s.wd=[102,97,108,115,101]:=c6
 refine W_seq_regc (fun T H=>T 0=(V.mp 0 v 0 0)∧T 2=(V.mp 2 1 0 0)∧T 3=(V.mp 3 1 0 0)∧T 8=(V.bool true)∧T 59=(V.bool (decide (¬(s.wd=[116,114,117,101]))))∧H 0=(bk v 79 6 [[(V.sl (List.map cS (e.ia))),(V.sl (List.map cS (e.oa))),(V.str e.src),(iV ((s.pos:Nat):Int)),(V.str s.wd),(iV ((s.dep:Nat):Int))]])∧H 2=(bk 1 24 3 [[(iV (0:Int)),(iV (0:Int)),V.nilsl]])∧H 3=(bk 1 24 3 [[(iV (1:Int)),(iV (0:Int)),(V.sl (List.map cF ([])))]])∧True) ?_ ?_
 ·
  refine R_mv rfl (R_nilck_mp rfl rfl oB (R_fk rfl rfl (R_lk rfl rfl rfl rfl (R_sneq (s:=s.wd) (t:=([116,114,117,101])) rfl rfl (R_mv rfl ?_)))))
  exact R_nil ⟨rfl,rfl,rfl,rfl,rfl,rfl,rfl,rfl,trivial⟩
 intro T H ⟨t0,t2,t3,t8,t59,h0,h2,h3,_⟩
 refine W_if t59 (fun c8=>?_) fun c8=>?_
 ·
  have q4: ¬s.wd=[116,114,117,101]:=c8
  refine W_r (R_mv t0 (R_e (pop_pan (i:=0) (pfail_loc v e s (5:Int)) (evcons (@rfl V (V.mp 0 v 0 0)) (evcons (@rfl V (iV (5:Int))) evnil)) rfl h0 rfl fun H'=>(w1 _ _ _ (RetL_pan ?_)))))
  exact congrArg _ (pAtom_no q1 q2 q3 q4)
 have q4:s.wd=[116,114,117,101]:=Decidable.not_not.1 c8
 refine W_skip (n1 _ _ (.done (W_seq_seq (W_r (R_mv t8 (R_notb rfl (R_e ?_)))))))
 refine W_seq_ifb rfl (fun c9=>?_) (fun c9=>?_)
 · cases c9
 have d8:=c9
 rw [Bool.not_eq_false'] at d8
 refine W_seq_skip (W_seq_seq (W_r (R_mv t0 (R_e (W_seq_seq ?_)))))
 rcases hx:pNext e s with ⟨u1,s1⟩|⟨a_s1,x_s1⟩
 ·
  obtain ⟨k1,k1d,k1g⟩:=pNext_inv hs hx
  refine pop_ok (i:=0) (by have q:=pnext_loc v e s hs; rw [hx] at q; exact q) (evcons (@rfl V (V.mp 0 v 0 0)) evnil) rfl h0 rfl rfl (fork_ (R:=fun T H=>T 2=(V.mp 2 1 0 0)∧T 3=(V.mp 3 1 0 0)∧T 71=(V.mp 0 v 0 0)∧T 72=(V.tup [])∧H 0=(bk v 79 6 [[(V.sl (List.map cS (e.ia))),(V.sl (List.map cS (e.oa))),(V.str e.src),(iV ((s1.pos:Nat):Int)),(V.str s1.wd),(iV ((s1.dep:Nat):Int))]])∧H 2=(bk 1 24 3 [[(iV (0:Int)),(iV (0:Int)),V.nilsl]])∧H 3=(bk 1 24 3 [[(iV (1:Int)),(iV (0:Int)),(V.sl (List.map cF ([])))]])∧True) ⟨t2,t3,(@rfl V (V.mp 0 v 0 0)),(@rfl V (V.tup [])),rfl,h2,h3,trivial⟩ ?_)
  intro T H ⟨t2,t3,t71,t72,h0,h2,h3,_⟩
  refine W_reg0 (W_r (R_lk t3 h3 rfl rfl (R_sk t2 rfl rfl h2 rfl rfl rfl rfl rfl (R_e (W_ret ?_)))))
  refine RetL_ok (v:=(V.agg [(iV (1:Int)),(iV (0:Int)),(V.sl (List.map cF ([])))])) (b:=(bk v 79 6 [[(V.sl (List.map cS (e.ia))),(V.sl (List.map cS (e.oa))),(V.str e.src),(iV ((s1.pos:Nat):Int)),(V.str s1.wd),(iV ((s1.dep:Nat):Int))]])) (resT1 (resV_c (u:=(V.agg [(iV (1:Int)),(iV (0:Int)),(V.sl (List.map cF ([])))])) t2 (@rfl Blk (bk 1 24 3 [[(iV (1:Int)),(iV (0:Int)),(V.sl (List.map cF ([])))]])) (lB oB rfl rfl))) ?_ (by simp) (.same (cut_fin 1 _) _) h0 (by simp [locB,loc0])
  exact congrArg _ ((pAtom_tr q1 q2 q3 q4).trans (aft_ok hx))
 ·
  refine pop_pan (i:=0) (by have q:=pnext_loc v e s hs; rw [hx] at q; exact q) (evcons (@rfl V (V.mp 0 v 0 0)) evnil) rfl h0 rfl fun H'=>(RetL_pan ?_)
  first|(exact congrArg _ ((pAtom_in1 q1 d8).trans (aft_er hx)))|(exact congrArg _ ((pAtom_out1 q1 q2 d8).trans (aft_er hx)))|(exact congrArg _ ((pAtom_fa q1 q2 q3).trans (aft_er hx)))|(exact congrArg _ ((pAtom_tr q1 q2 q3 q4).trans (aft_er hx)))
theorem pun_step (v:Nat) (e:PE) (s:PS) (hs:OkS e s) (k:Nat) (hkb:k≤4294967296) (ihU: ∀ (s:PS) (r:PR Fm),OkS e s→pF e k .un s=some r→LocC Try.prog 92 1 [.mp 0 v 0 0] (hpB (bk v 79 6 [pCells e s])) (r.out 79 75 v e fmV)) (ihF: ∀ (s:PS) (r:PR Fm),OkS e s→pF e k .form s=some r→LocC Try.prog 37 1 [.mp 0 v 0 0] (hpB (bk v 79 6 [pCells e s])) (r.out 79 75 v e fmV)) (r:PR Fm) (h:pF e (k+1) .un s=some r):LocC Try.prog 92 1 [(V.mp 0 v 0 0)] (hpB (bk v 79 6 [[(V.sl (List.map cS (e.ia))),(V.sl (List.map cS (e.oa))),(V.str e.src),(iV ((s.pos:Nat):Int)),(V.str s.wd),(iV ((s.dep:Nat):Int))]])) (r.out 79 75 v e fmV):=by
 refine lW (k0:=0) Try.func92 s92_ok fun hB=>?_
 unfold s92
 dsimp only
 have hlen:=hs.len
 have hpos:=hs.pos
 have hdep:=hs.dep
 refine W_r (R_alloc (i:=2) (n:=0) (m:=3) rfl (congrArg Blk.ver rfl) rfl (R_e (W_seq_seq (W_r (R_mv rfl (R_nilck_mp rfl rfl oB (R_fk rfl rfl ?_)))))))
 refine R_lk rfl rfl rfl rfl (R_e (W_seq_blockgP fun Q1 n1 x1 y1 z1 w1=>(W_r (R_seql (s:=s.wd) (t:=([33])) rfl rfl (R_mv rfl (R_e ?_))))))
 refine W_if rfl (fun c2=>?_) fun c2=>?_
 ·
  have q1:s.wd=[33]:=c2
  refine W_seq_seq (W_r (R_mv rfl (R_mv rfl (R_mkm (evcons rfl evnil) evnil (R_e (W_seq_seq ?_))))))
  rcases hx:pPart e (pF e k .un) s with _|(⟨f1,s1⟩|⟨a_s1,x_s1⟩)
  ·
   exfalso; rw [pF,if_pos q1] at h; rw [hx] at h; simp only [mapP] at h; cases h
  ·
   obtain ⟨k1,k1d⟩:=pPart_keeps (pF_keeps e k .un) _ _ _ hs hx
   refine pop_ok (i:=0) (ppart_loc v e s hs 92 (pF e k .un) ihU (pF_keeps e k .un) _ hx) (evcons (@rfl V (V.mp 0 v 0 0)) (evcons (@rfl V (V.fn 92 [(V.mp 0 v 0 0)] [])) evnil)) rfl (@rfl Blk (bk v 79 6 [[(V.sl (List.map cS (e.ia))),(V.sl (List.map cS (e.oa))),(V.str e.src),(iV ((s.pos:Nat):Int)),(V.str s.wd),(iV ((s.dep:Nat):Int))]])) rfl rfl (fork_ (R:=fun T H=>T 2=(V.mp 2 1 0 0)∧T 10=(V.mp 0 v 0 0)∧T 12=(V.fn 92 [(V.mp 0 v 0 0)] [])∧T 13=(V.agg [(iV (f1.op)),(iV (f1.arg)),(V.sl (List.map cF (f1.kids)))])∧H 0=(bk v 79 6 [[(V.sl (List.map cS (e.ia))),(V.sl (List.map cS (e.oa))),(V.str e.src),(iV ((s1.pos:Nat):Int)),(V.str s1.wd),(iV ((s1.dep:Nat):Int))]])∧H 2=(bk 1 24 3 [[(iV (0:Int)),(iV (0:Int)),V.nilsl]])∧H 3=(⟨0,false,false,0,0,[]⟩:Blk)∧True) ⟨(@rfl V (V.mp 2 1 0 0)),(@rfl V (V.mp 0 v 0 0)),(@rfl V (V.fn 92 [(V.mp 0 v 0 0)] [])),(@rfl V (V.agg [(iV (f1.op)),(iV (f1.arg)),(V.sl (List.map cF (f1.kids)))])),rfl,rfl,rfl,trivial⟩ ?_)
   intro T H ⟨t2,t10,t12,t13,h0,h2,h3,_⟩
   refine W_r (R_callk (not_pure f1) (evcons t13 evnil) (R_sk t2 rfl rfl h2 rfl rfl rfl rfl rfl (R_e (W_ret (y1 _ _ ?_)))))
   refine RetL_ok (v:=(V.agg [(iV (4:Int)),(iV (0:Int)),(V.sl (List.map cF ([f1])))])) (b:=(bk v 79 6 [[(V.sl (List.map cS (e.ia))),(V.sl (List.map cS (e.oa))),(V.str e.src),(iV ((s1.pos:Nat):Int)),(V.str s1.wd),(iV ((s1.dep:Nat):Int))]])) (resT1 (resV_c (u:=(V.agg [(iV (4:Int)),(iV (0:Int)),(V.sl (List.map cF ([f1])))])) t2 (@rfl Blk (bk 1 24 3 [[(iV (4:Int)),(iV (0:Int)),(V.sl (List.map cF ([f1])))]])) (lB oB rfl rfl))) ?_ (by simp) (.same (cut_fin 1 _) _) h0 (by simp [locB,loc0])
   rw [pF,if_pos q1] at h; rw [hx] at h; simp only [mapP] at h; cases h; rfl
  ·
   refine pop_pan (i:=0) (ppart_loc v e s hs 92 (pF e k .un) ihU (pF_keeps e k .un) _ hx) (evcons (@rfl V (V.mp 0 v 0 0)) (evcons (@rfl V (V.fn 92 [(V.mp 0 v 0 0)] [])) evnil)) rfl (@rfl Blk (bk v 79 6 [[(V.sl (List.map cS (e.ia))),(V.sl (List.map cS (e.oa))),(V.str e.src),(iV ((s.pos:Nat):Int)),(V.str s.wd),(iV ((s.dep:Nat):Int))]])) rfl fun H'=>(w1 _ _ _ (RetL_pan ?_))
   rw [pF,if_pos q1] at h; rw [hx] at h; simp only [mapP] at h; cases h; rfl
 have q1: ¬s.wd=[33]:=c2
 refine W_r (R_seql (s:=s.wd) (t:=([88])) rfl rfl (R_mv rfl (R_e ?_)))
 refine W_if rfl (fun c3=>?_) fun c3=>?_
 ·
  have q2:s.wd=[88]:=c3
  refine W_seq_seq (W_r (R_mv rfl (R_mv rfl (R_mkm (evcons rfl evnil) evnil (R_e (W_seq_seq ?_))))))
  rcases hx:pPart e (pF e k .un) s with _|(⟨f1,s1⟩|⟨a_s1,x_s1⟩)
  ·
   exfalso; rw [pF,if_neg q1,if_pos q2] at h; rw [hx] at h; simp only [mapP] at h; cases h
  ·
   obtain ⟨k1,k1d⟩:=pPart_keeps (pF_keeps e k .un) _ _ _ hs hx
   refine pop_ok (i:=0) (ppart_loc v e s hs 92 (pF e k .un) ihU (pF_keeps e k .un) _ hx) (evcons (@rfl V (V.mp 0 v 0 0)) (evcons (@rfl V (V.fn 92 [(V.mp 0 v 0 0)] [])) evnil)) rfl (@rfl Blk (bk v 79 6 [[(V.sl (List.map cS (e.ia))),(V.sl (List.map cS (e.oa))),(V.str e.src),(iV ((s.pos:Nat):Int)),(V.str s.wd),(iV ((s.dep:Nat):Int))]])) rfl rfl (fork_ (R:=fun T H=>T 2=(V.mp 2 1 0 0)∧T 17=(V.mp 0 v 0 0)∧T 19=(V.fn 92 [(V.mp 0 v 0 0)] [])∧T 20=(V.agg [(iV (f1.op)),(iV (f1.arg)),(V.sl (List.map cF (f1.kids)))])∧H 0=(bk v 79 6 [[(V.sl (List.map cS (e.ia))),(V.sl (List.map cS (e.oa))),(V.str e.src),(iV ((s1.pos:Nat):Int)),(V.str s1.wd),(iV ((s1.dep:Nat):Int))]])∧H 2=(bk 1 24 3 [[(iV (0:Int)),(iV (0:Int)),V.nilsl]])∧H 3=(⟨0,false,false,0,0,[]⟩:Blk)∧True) ⟨(@rfl V (V.mp 2 1 0 0)),(@rfl V (V.mp 0 v 0 0)),(@rfl V (V.fn 92 [(V.mp 0 v 0 0)] [])),(@rfl V (V.agg [(iV (f1.op)),(iV (f1.arg)),(V.sl (List.map cF (f1.kids)))])),rfl,rfl,rfl,trivial⟩ ?_)
   intro T H ⟨t2,t17,t19,t20,h0,h2,h3,_⟩
   refine W_r (R_bslice (mcons (congrArg (fun v=>(0,v)) t20) rfl) rfl (R_callk (node_pure ((7:Int)) ([f1])) (evcons rfl (evcons (sl_F1 (x:=f1) rfl) evnil)) (R_sk t2 rfl rfl h2 rfl rfl rfl rfl rfl (R_e (W_ret (y1 _ _ ?_))))))
   refine RetL_ok (v:=(V.agg [(iV (((7:Int)))),(iV (0:Int)),(V.sl (List.map cF (([f1]))))])) (b:=(bk v 79 6 [[(V.sl (List.map cS (e.ia))),(V.sl (List.map cS (e.oa))),(V.str e.src),(iV ((s1.pos:Nat):Int)),(V.str s1.wd),(iV ((s1.dep:Nat):Int))]])) (resT1 (resV_c (u:=(V.agg [(iV (((7:Int)))),(iV (0:Int)),(V.sl (List.map cF (([f1]))))])) t2 (@rfl Blk (bk 1 24 3 [[(iV (((7:Int)))),(iV (0:Int)),(V.sl (List.map cF (([f1]))))]])) (lB oB rfl rfl))) ?_ (by simp) (.same (cut_fin 1 _) _) h0 (by simp [locB,loc0])
   rw [pF,if_neg q1,if_pos q2] at h; rw [hx] at h; simp only [mapP] at h; cases h; rfl
  ·
   refine pop_pan (i:=0) (ppart_loc v e s hs 92 (pF e k .un) ihU (pF_keeps e k .un) _ hx) (evcons (@rfl V (V.mp 0 v 0 0)) (evcons (@rfl V (V.fn 92 [(V.mp 0 v 0 0)] [])) evnil)) rfl (@rfl Blk (bk v 79 6 [[(V.sl (List.map cS (e.ia))),(V.sl (List.map cS (e.oa))),(V.str e.src),(iV ((s.pos:Nat):Int)),(V.str s.wd),(iV ((s.dep:Nat):Int))]])) rfl fun H'=>(w1 _ _ _ (RetL_pan ?_))
   rw [pF,if_neg q1,if_pos q2] at h; rw [hx] at h; simp only [mapP] at h; cases h; rfl
 have q2: ¬s.wd=[88]:=c3
 refine W_r (R_seql (s:=s.wd) (t:=([78])) rfl rfl (R_mv rfl (R_e ?_)))
 refine W_if rfl (fun c4=>?_) fun c4=>?_
 ·
  have q3:s.wd=[78]:=c4
  refine W_seq_seq (W_r (R_mv rfl (R_mv rfl (R_mkm (evcons rfl evnil) evnil (R_e (W_seq_seq ?_))))))
  rcases hx:pPart e (pF e k .un) s with _|(⟨f1,s1⟩|⟨a_s1,x_s1⟩)
  ·
   exfalso; rw [pF,if_neg q1,if_neg q2,if_pos q3] at h; rw [hx] at h; simp only [mapP] at h; cases h
  ·
   obtain ⟨k1,k1d⟩:=pPart_keeps (pF_keeps e k .un) _ _ _ hs hx
   refine pop_ok (i:=0) (ppart_loc v e s hs 92 (pF e k .un) ihU (pF_keeps e k .un) _ hx) (evcons (@rfl V (V.mp 0 v 0 0)) (evcons (@rfl V (V.fn 92 [(V.mp 0 v 0 0)] [])) evnil)) rfl (@rfl Blk (bk v 79 6 [[(V.sl (List.map cS (e.ia))),(V.sl (List.map cS (e.oa))),(V.str e.src),(iV ((s.pos:Nat):Int)),(V.str s.wd),(iV ((s.dep:Nat):Int))]])) rfl rfl (fork_ (R:=fun T H=>T 2=(V.mp 2 1 0 0)∧T 25=(V.mp 0 v 0 0)∧T 27=(V.fn 92 [(V.mp 0 v 0 0)] [])∧T 28=(V.agg [(iV (f1.op)),(iV (f1.arg)),(V.sl (List.map cF (f1.kids)))])∧H 0=(bk v 79 6 [[(V.sl (List.map cS (e.ia))),(V.sl (List.map cS (e.oa))),(V.str e.src),(iV ((s1.pos:Nat):Int)),(V.str s1.wd),(iV ((s1.dep:Nat):Int))]])∧H 2=(bk 1 24 3 [[(iV (0:Int)),(iV (0:Int)),V.nilsl]])∧H 3=(⟨0,false,false,0,0,[]⟩:Blk)∧True) ⟨(@rfl V (V.mp 2 1 0 0)),(@rfl V (V.mp 0 v 0 0)),(@rfl V (V.fn 92 [(V.mp 0 v 0 0)] [])),(@rfl V (V.agg [(iV (f1.op)),(iV (f1.arg)),(V.sl (List.map cF (f1.kids)))])),rfl,rfl,rfl,trivial⟩ ?_)
   intro T H ⟨t2,t25,t27,t28,h0,h2,h3,_⟩
   refine W_r (R_bslice (mcons (congrArg (fun v=>(0,v)) t28) rfl) rfl (R_callk (node_pure ((9:Int)) ([f1])) (evcons rfl (evcons (sl_F1 (x:=f1) rfl) evnil)) (R_sk t2 rfl rfl h2 rfl rfl rfl rfl rfl (R_e (W_ret (y1 _ _ ?_))))))
   refine RetL_ok (v:=(V.agg [(iV (((9:Int)))),(iV (0:Int)),(V.sl (List.map cF (([f1]))))])) (b:=(bk v 79 6 [[(V.sl (List.map cS (e.ia))),(V.sl (List.map cS (e.oa))),(V.str e.src),(iV ((s1.pos:Nat):Int)),(V.str s1.wd),(iV ((s1.dep:Nat):Int))]])) (resT1 (resV_c (u:=(V.agg [(iV (((9:Int)))),(iV (0:Int)),(V.sl (List.map cF (([f1]))))])) t2 (@rfl Blk (bk 1 24 3 [[(iV (((9:Int)))),(iV (0:Int)),(V.sl (List.map cF (([f1]))))]])) (lB oB rfl rfl))) ?_ (by simp) (.same (cut_fin 1 _) _) h0 (by simp [locB,loc0])
   rw [pF,if_neg q1,if_neg q2,if_pos q3] at h; rw [hx] at h; simp only [mapP] at h; cases h; rfl
  ·
   refine pop_pan (i:=0) (ppart_loc v e s hs 92 (pF e k .un) ihU (pF_keeps e k .un) _ hx) (evcons (@rfl V (V.mp 0 v 0 0)) (evcons (@rfl V (V.fn 92 [(V.mp 0 v 0 0)] [])) evnil)) rfl (@rfl Blk (bk v 79 6 [[(V.sl (List.map cS (e.ia))),(V.sl (List.map cS (e.oa))),(V.str e.src),(iV ((s.pos:Nat):Int)),(V.str s.wd),(iV ((s.dep:Nat):Int))]])) rfl fun H'=>(w1 _ _ _ (RetL_pan ?_))
   rw [pF,if_neg q1,if_neg q2,if_pos q3] at h; rw [hx] at h; simp only [mapP] at h; cases h; rfl
 have q3: ¬s.wd=[78]:=c4
 refine W_r (R_seql (s:=s.wd) (t:=([70])) rfl rfl (R_mv rfl (R_e ?_)))
 refine W_if rfl (fun c5=>?_) fun c5=>?_
 ·
  have q4:s.wd=[70]:=c5
  refine W_seq_seq (W_r (R_callk (yes_pure) rfl (R_mv rfl (R_mv rfl (R_mkm (evcons rfl evnil) evnil (R_e (W_seq_seq ?_)))))))
  rcases hx:pPart e (pF e k .un) s with _|(⟨f1,s1⟩|⟨a_s1,x_s1⟩)
  ·
   exfalso; rw [pF,if_neg q1,if_neg q2,if_neg q3,if_pos q4] at h; rw [hx] at h; simp only [mapP] at h; cases h
  ·
   obtain ⟨k1,k1d⟩:=pPart_keeps (pF_keeps e k .un) _ _ _ hs hx
   refine pop_ok (i:=0) (ppart_loc v e s hs 92 (pF e k .un) ihU (pF_keeps e k .un) _ hx) (evcons (@rfl V (V.mp 0 v 0 0)) (evcons (@rfl V (V.fn 92 [(V.mp 0 v 0 0)] [])) evnil)) rfl (@rfl Blk (bk v 79 6 [[(V.sl (List.map cS (e.ia))),(V.sl (List.map cS (e.oa))),(V.str e.src),(iV ((s.pos:Nat):Int)),(V.str s.wd),(iV ((s.dep:Nat):Int))]])) rfl rfl (fork_ (R:=fun T H=>T 2=(V.mp 2 1 0 0)∧T 33=(V.agg [(iV (1:Int)),(iV (0:Int)),(V.sl (List.map cF ([])))])∧T 34=(V.mp 0 v 0 0)∧T 36=(V.fn 92 [(V.mp 0 v 0 0)] [])∧T 37=(V.agg [(iV (f1.op)),(iV (f1.arg)),(V.sl (List.map cF (f1.kids)))])∧H 0=(bk v 79 6 [[(V.sl (List.map cS (e.ia))),(V.sl (List.map cS (e.oa))),(V.str e.src),(iV ((s1.pos:Nat):Int)),(V.str s1.wd),(iV ((s1.dep:Nat):Int))]])∧H 2=(bk 1 24 3 [[(iV (0:Int)),(iV (0:Int)),V.nilsl]])∧H 3=(⟨0,false,false,0,0,[]⟩:Blk)∧True) ⟨(@rfl V (V.mp 2 1 0 0)),(@rfl V (V.agg [(iV (1:Int)),(iV (0:Int)),(V.sl (List.map cF ([])))])),(@rfl V (V.mp 0 v 0 0)),(@rfl V (V.fn 92 [(V.mp 0 v 0 0)] [])),(@rfl V (V.agg [(iV (f1.op)),(iV (f1.arg)),(V.sl (List.map cF (f1.kids)))])),rfl,rfl,rfl,trivial⟩ ?_)
   intro T H ⟨t2,t33,t34,t36,t37,h0,h2,h3,_⟩
   refine W_r (R_bslice (mcons (congrArg (fun v=>(0,v)) t33) (mcons (congrArg (fun v=>(1,v)) t37) rfl)) rfl (R_callk (node_pure ((8:Int)) ([(Fm.nd (1:Int) (0:Int) []),f1])) (evcons rfl (evcons (sl_F2 (x:=((Fm.nd (1:Int) (0:Int) []))) (y:=f1) rfl) evnil)) (R_sk t2 rfl rfl h2 rfl rfl rfl rfl rfl (R_e (W_ret (y1 _ _ ?_))))))
   refine RetL_ok (v:=(V.agg [(iV (((8:Int)))),(iV (0:Int)),(V.sl (List.map cF (([(Fm.nd (1:Int) (0:Int) []),f1]))))])) (b:=(bk v 79 6 [[(V.sl (List.map cS (e.ia))),(V.sl (List.map cS (e.oa))),(V.str e.src),(iV ((s1.pos:Nat):Int)),(V.str s1.wd),(iV ((s1.dep:Nat):Int))]])) (resT1 (resV_c (u:=(V.agg [(iV (((8:Int)))),(iV (0:Int)),(V.sl (List.map cF (([(Fm.nd (1:Int) (0:Int) []),f1]))))])) t2 (@rfl Blk (bk 1 24 3 [[(iV (((8:Int)))),(iV (0:Int)),(V.sl (List.map cF (([(Fm.nd (1:Int) (0:Int) []),f1]))))]])) (lB oB rfl rfl))) ?_ (by simp) (.same (cut_fin 1 _) _) h0 (by simp [locB,loc0])
   rw [pF,if_neg q1,if_neg q2,if_neg q3,if_pos q4] at h; rw [hx] at h; simp only [mapP] at h; cases h; rfl
  ·
   refine pop_pan (i:=0) (ppart_loc v e s hs 92 (pF e k .un) ihU (pF_keeps e k .un) _ hx) (evcons (@rfl V (V.mp 0 v 0 0)) (evcons (@rfl V (V.fn 92 [(V.mp 0 v 0 0)] [])) evnil)) rfl (@rfl Blk (bk v 79 6 [[(V.sl (List.map cS (e.ia))),(V.sl (List.map cS (e.oa))),(V.str e.src),(iV ((s.pos:Nat):Int)),(V.str s.wd),(iV ((s.dep:Nat):Int))]])) rfl fun H'=>(w1 _ _ _ (RetL_pan ?_))
   rw [pF,if_neg q1,if_neg q2,if_neg q3,if_pos q4] at h; rw [hx] at h; simp only [mapP] at h; cases h; rfl
 have q4: ¬s.wd=[70]:=c5
 refine W_r (R_seql (s:=s.wd) (t:=([71])) rfl rfl (R_mv rfl (R_e ?_)))
 refine W_if rfl (fun c6=>?_) fun c6=>?_
 ·
  have q5:s.wd=[71]:=c6
  refine W_seq_seq (W_r (R_callk (no_pure) rfl (R_mv rfl (R_mv rfl (R_mkm (evcons rfl evnil) evnil (R_e (W_seq_seq ?_)))))))
  rcases hx:pPart e (pF e k .un) s with _|(⟨f1,s1⟩|⟨a_s1,x_s1⟩)
  ·
   exfalso; rw [pF,if_neg q1,if_neg q2,if_neg q3,if_neg q4,if_pos q5] at h; rw [hx] at h; simp only [mapP] at h; cases h
  ·
   obtain ⟨k1,k1d⟩:=pPart_keeps (pF_keeps e k .un) _ _ _ hs hx
   refine pop_ok (i:=0) (ppart_loc v e s hs 92 (pF e k .un) ihU (pF_keeps e k .un) _ hx) (evcons (@rfl V (V.mp 0 v 0 0)) (evcons (@rfl V (V.fn 92 [(V.mp 0 v 0 0)] [])) evnil)) rfl (@rfl Blk (bk v 79 6 [[(V.sl (List.map cS (e.ia))),(V.sl (List.map cS (e.oa))),(V.str e.src),(iV ((s.pos:Nat):Int)),(V.str s.wd),(iV ((s.dep:Nat):Int))]])) rfl rfl (fork_ (R:=fun T H=>T 2=(V.mp 2 1 0 0)∧T 42=(V.agg [(iV (4:Int)),(iV (0:Int)),(V.sl (List.map cF ([Fm.nd 1 0 []])))])∧T 43=(V.mp 0 v 0 0)∧T 45=(V.fn 92 [(V.mp 0 v 0 0)] [])∧T 46=(V.agg [(iV (f1.op)),(iV (f1.arg)),(V.sl (List.map cF (f1.kids)))])∧H 0=(bk v 79 6 [[(V.sl (List.map cS (e.ia))),(V.sl (List.map cS (e.oa))),(V.str e.src),(iV ((s1.pos:Nat):Int)),(V.str s1.wd),(iV ((s1.dep:Nat):Int))]])∧H 2=(bk 1 24 3 [[(iV (0:Int)),(iV (0:Int)),V.nilsl]])∧H 3=(⟨0,false,false,0,0,[]⟩:Blk)∧True) ⟨(@rfl V (V.mp 2 1 0 0)),(@rfl V (V.agg [(iV (4:Int)),(iV (0:Int)),(V.sl (List.map cF ([Fm.nd 1 0 []])))])),(@rfl V (V.mp 0 v 0 0)),(@rfl V (V.fn 92 [(V.mp 0 v 0 0)] [])),(@rfl V (V.agg [(iV (f1.op)),(iV (f1.arg)),(V.sl (List.map cF (f1.kids)))])),rfl,rfl,rfl,trivial⟩ ?_)
   intro T H ⟨t2,t42,t43,t45,t46,h0,h2,h3,_⟩
   refine W_r (R_bslice (mcons (congrArg (fun v=>(0,v)) t42) (mcons (congrArg (fun v=>(1,v)) t46) rfl)) rfl (R_callk (node_pure ((10:Int)) ([(Fm.nd (4:Int) (0:Int) [Fm.nd 1 0 []]),f1])) (evcons rfl (evcons (sl_F2 (x:=((Fm.nd (4:Int) (0:Int) [Fm.nd 1 0 []]))) (y:=f1) rfl) evnil)) (R_sk t2 rfl rfl h2 rfl rfl rfl rfl rfl (R_e (W_ret (y1 _ _ ?_))))))
   refine RetL_ok (v:=(V.agg [(iV (((10:Int)))),(iV (0:Int)),(V.sl (List.map cF (([(Fm.nd (4:Int) (0:Int) [Fm.nd 1 0 []]),f1]))))])) (b:=(bk v 79 6 [[(V.sl (List.map cS (e.ia))),(V.sl (List.map cS (e.oa))),(V.str e.src),(iV ((s1.pos:Nat):Int)),(V.str s1.wd),(iV ((s1.dep:Nat):Int))]])) (resT1 (resV_c (u:=(V.agg [(iV (((10:Int)))),(iV (0:Int)),(V.sl (List.map cF (([(Fm.nd (4:Int) (0:Int) [Fm.nd 1 0 []]),f1]))))])) t2 (@rfl Blk (bk 1 24 3 [[(iV (((10:Int)))),(iV (0:Int)),(V.sl (List.map cF (([(Fm.nd (4:Int) (0:Int) [Fm.nd 1 0 []]),f1]))))]])) (lB oB rfl rfl))) ?_ (by simp) (.same (cut_fin 1 _) _) h0 (by simp [locB,loc0])
   rw [pF,if_neg q1,if_neg q2,if_neg q3,if_neg q4,if_pos q5] at h; rw [hx] at h; simp only [mapP] at h; cases h; rfl
  ·
   refine pop_pan (i:=0) (ppart_loc v e s hs 92 (pF e k .un) ihU (pF_keeps e k .un) _ hx) (evcons (@rfl V (V.mp 0 v 0 0)) (evcons (@rfl V (V.fn 92 [(V.mp 0 v 0 0)] [])) evnil)) rfl (@rfl Blk (bk v 79 6 [[(V.sl (List.map cS (e.ia))),(V.sl (List.map cS (e.oa))),(V.str e.src),(iV ((s.pos:Nat):Int)),(V.str s.wd),(iV ((s.dep:Nat):Int))]])) rfl fun H'=>(w1 _ _ _ (RetL_pan ?_))
   rw [pF,if_neg q1,if_neg q2,if_neg q3,if_neg q4,if_pos q5] at h; rw [hx] at h; simp only [mapP] at h; cases h; rfl
 have q5: ¬s.wd=[71]:=c6
 refine W_r (R_seql (s:=s.wd) (t:=([40])) rfl rfl (R_mv rfl (R_e ?_)))
 refine W_if rfl (fun c7=>?_) fun c7=>?_
 ·
  have q6:s.wd=[40]:=c7
  refine W_seq_seq (W_r (R_mv rfl (R_mv rfl (R_mkm (evcons rfl evnil) evnil (R_e (W_seq_seq ?_))))))
  rcases hx:pPart e (pF e k .form) s with _|(⟨f1,s1⟩|⟨a_s1,x_s1⟩)
  ·
   exfalso; rw [pF,if_neg q1,if_neg q2,if_neg q3,if_neg q4,if_neg q5,if_pos q6] at h; rw [hx] at h; cases h
  ·
   obtain ⟨k1,k1d⟩:=pPart_keeps (pF_keeps e k .form) _ _ _ hs hx
   refine pop_ok (i:=0) (ppart_loc v e s hs 37 (pF e k .form) ihF (pF_keeps e k .form) _ hx) (evcons (@rfl V (V.mp 0 v 0 0)) (evcons (@rfl V (V.fn 37 [(V.mp 0 v 0 0)] [])) evnil)) rfl (@rfl Blk (bk v 79 6 [[(V.sl (List.map cS (e.ia))),(V.sl (List.map cS (e.oa))),(V.str e.src),(iV ((s.pos:Nat):Int)),(V.str s.wd),(iV ((s.dep:Nat):Int))]])) rfl rfl (fork_ (R:=fun T H=>T 0=(V.mp 0 v 0 0)∧T 2=(V.mp 2 1 0 0)∧T 51=(V.mp 0 v 0 0)∧T 53=(V.fn 37 [(V.mp 0 v 0 0)] [])∧T 54=(V.agg [(iV (f1.op)),(iV (f1.arg)),(V.sl (List.map cF (f1.kids)))])∧H 0=(bk v 79 6 [[(V.sl (List.map cS (e.ia))),(V.sl (List.map cS (e.oa))),(V.str e.src),(iV ((s1.pos:Nat):Int)),(V.str s1.wd),(iV ((s1.dep:Nat):Int))]])∧H 2=(bk 1 24 3 [[(iV (0:Int)),(iV (0:Int)),V.nilsl]])∧H 3=(⟨0,false,false,0,0,[]⟩:Blk)∧True) ⟨(@rfl V (V.mp 0 v 0 0)),(@rfl V (V.mp 2 1 0 0)),(@rfl V (V.mp 0 v 0 0)),(@rfl V (V.fn 37 [(V.mp 0 v 0 0)] [])),(@rfl V (V.agg [(iV (f1.op)),(iV (f1.arg)),(V.sl (List.map cF (f1.kids)))])),rfl,rfl,rfl,trivial⟩ ?_)
   intro T H ⟨t0,t2,t51,t53,t54,h0,h2,h3,_⟩
   refine W_r (R_alloc (i:=3) (n:=0) (m:=3) rfl (congrArg Blk.ver h3) rfl (R_sk rfl t54 rfl rfl rfl rfl rfl rfl rfl (R_e (W_seq_seq (W_r (R_mv t0 (R_nilck_mp rfl h0 oB ?_)))))))
   refine R_fk rfl h0 (R_lk rfl h0 rfl rfl (R_sneq (s:=s1.wd) (t:=([41])) rfl rfl (R_e ?_)))
   refine W_seq_if rfl (fun c8=>?_) fun c8=>?_
   ·
    have d1: ¬s1.wd=[41]:=c8
    refine W_seq_seq (W_r (R_mv t0 (R_e (W_seq_seq (pop_pan (i:=0) (pfail_loc v e s1 (5:Int)) (evcons (@rfl V (V.mp 0 v 0 0)) (evcons (@rfl V (iV (5:Int))) evnil)) rfl h0 rfl fun H'=>(w1 _ _ _ (RetL_pan ?_)))))))
    rw [pF,if_neg q1,if_neg q2,if_neg q3,if_neg q4,if_neg q5,if_pos q6] at h; rw [hx] at h; simp only at h; rw [if_neg d1] at h; cases h; rfl
   have d1:s1.wd=[41]:=Decidable.not_not.1 c8
   refine W_seq_skip (W_seq_seq (W_r (R_mv t0 (R_e (W_seq_seq ?_)))))
   rcases hy:pNext e s1 with ⟨u2,s2⟩|⟨a_s2,x_s2⟩
   ·
    obtain ⟨k2,k2d,k2g⟩:=pNext_inv k1 hy
    refine pop_ok (i:=0) (by have q:=pnext_loc v e s1 k1; rw [hy] at q; exact q) (evcons (@rfl V (V.mp 0 v 0 0)) evnil) rfl h0 rfl rfl (fork_ (R:=fun T H=>T 2=(V.mp 2 1 0 0)∧T 3=(V.mp 3 1 0 0)∧T 62=(V.mp 0 v 0 0)∧T 63=(V.tup [])∧H 0=(bk v 79 6 [[(V.sl (List.map cS (e.ia))),(V.sl (List.map cS (e.oa))),(V.str e.src),(iV ((s2.pos:Nat):Int)),(V.str s2.wd),(iV ((s2.dep:Nat):Int))]])∧H 2=(bk 1 24 3 [[(iV (0:Int)),(iV (0:Int)),V.nilsl]])∧H 3=(bk 1 24 3 [[(iV (f1.op)),(iV (f1.arg)),(V.sl (List.map cF (f1.kids)))]])∧True) ⟨t2,(@rfl V (V.mp 3 1 0 0)),(@rfl V (V.mp 0 v 0 0)),(@rfl V (V.tup [])),rfl,h2,rfl,trivial⟩ ?_)
    intro T H ⟨t2,t3,t62,t63,h0,h2,h3,_⟩
    refine W_reg0 (W_r (R_lk t3 h3 rfl rfl (R_sk t2 rfl rfl h2 rfl rfl rfl rfl rfl (R_e (W_ret (y1 _ _ ?_))))))
    refine RetL_ok (v:=(V.agg [(iV (f1.op)),(iV (f1.arg)),(V.sl (List.map cF (f1.kids)))])) (b:=(bk v 79 6 [[(V.sl (List.map cS (e.ia))),(V.sl (List.map cS (e.oa))),(V.str e.src),(iV ((s2.pos:Nat):Int)),(V.str s2.wd),(iV ((s2.dep:Nat):Int))]])) (resT1 (resV_c (u:=(V.agg [(iV (f1.op)),(iV (f1.arg)),(V.sl (List.map cF (f1.kids)))])) t2 (@rfl Blk (bk 1 24 3 [[(iV (f1.op)),(iV (f1.arg)),(V.sl (List.map cF (f1.kids)))]])) (lB oB rfl rfl))) ?_ (by simp) (.same (cut_fin 1 _) _) h0 (by simp [locB,loc0])
    rw [pF,if_neg q1,if_neg q2,if_neg q3,if_neg q4,if_neg q5,if_pos q6] at h; rw [hx] at h; simp only at h; rw [if_pos d1,hy] at h; cases h; rfl
   ·
    refine pop_pan (i:=0) (by have q:=pnext_loc v e s1 k1; rw [hy] at q; exact q) (evcons (@rfl V (V.mp 0 v 0 0)) evnil) rfl h0 rfl fun H'=>(w1 _ _ _ (RetL_pan ?_))
    rw [pF,if_neg q1,if_neg q2,if_neg q3,if_neg q4,if_neg q5,if_pos q6] at h; rw [hx] at h; simp only at h; rw [if_pos d1,hy] at h; cases h; rfl
  ·
   refine pop_pan (i:=0) (ppart_loc v e s hs 37 (pF e k .form) ihF (pF_keeps e k .form) _ hx) (evcons (@rfl V (V.mp 0 v 0 0)) (evcons (@rfl V (V.fn 37 [(V.mp 0 v 0 0)] [])) evnil)) rfl (@rfl Blk (bk v 79 6 [[(V.sl (List.map cS (e.ia))),(V.sl (List.map cS (e.oa))),(V.str e.src),(iV ((s.pos:Nat):Int)),(V.str s.wd),(iV ((s.dep:Nat):Int))]])) rfl fun H'=>(w1 _ _ _ (RetL_pan ?_))
   rw [pF,if_neg q1,if_neg q2,if_neg q3,if_neg q4,if_neg q5,if_pos q6] at h; rw [hx] at h; cases h; rfl
 have q6: ¬s.wd=[40]:=c7
 refine W_skip (n1 _ _ (.done (W_seq_seq (W_r (R_mv rfl (R_e (W_seq_seq ?_)))))))
 rcases hx:pAtom e s with ⟨f1,s1⟩|⟨a1,x1⟩
 ·
  refine pop_ok (i:=0) (by have q:=patom_loc v e s hs; rw [hx] at q; exact q) (evcons (@rfl V (V.mp 0 v 0 0)) evnil) rfl (@rfl Blk (bk v 79 6 [[(V.sl (List.map cS (e.ia))),(V.sl (List.map cS (e.oa))),(V.str e.src),(iV ((s.pos:Nat):Int)),(V.str s.wd),(iV ((s.dep:Nat):Int))]])) rfl rfl (fork_ (R:=fun T H=>T 2=(V.mp 2 1 0 0)∧T 65=(V.mp 0 v 0 0)∧T 66=(V.agg [(iV (f1.op)),(iV (f1.arg)),(V.sl (List.map cF (f1.kids)))])∧H 0=(bk v 79 6 [[(V.sl (List.map cS (e.ia))),(V.sl (List.map cS (e.oa))),(V.str e.src),(iV ((s1.pos:Nat):Int)),(V.str s1.wd),(iV ((s1.dep:Nat):Int))]])∧H 2=(bk 1 24 3 [[(iV (0:Int)),(iV (0:Int)),V.nilsl]])∧H 3=(⟨0,false,false,0,0,[]⟩:Blk)∧True) ⟨(@rfl V (V.mp 2 1 0 0)),(@rfl V (V.mp 0 v 0 0)),(@rfl V (V.agg [(iV (f1.op)),(iV (f1.arg)),(V.sl (List.map cF (f1.kids)))])),rfl,rfl,rfl,trivial⟩ ?_)
  intro T H ⟨t2,t65,t66,h0,h2,h3,_⟩
  refine W_r (R_sk t2 t66 rfl h2 rfl rfl rfl rfl rfl (R_e (W_ret ?_)))
  refine RetL_ok (v:=(V.agg [(iV (f1.op)),(iV (f1.arg)),(V.sl (List.map cF (f1.kids)))])) (b:=(bk v 79 6 [[(V.sl (List.map cS (e.ia))),(V.sl (List.map cS (e.oa))),(V.str e.src),(iV ((s1.pos:Nat):Int)),(V.str s1.wd),(iV ((s1.dep:Nat):Int))]])) (resT1 (resV_c (u:=(V.agg [(iV (f1.op)),(iV (f1.arg)),(V.sl (List.map cF (f1.kids)))])) t2 (@rfl Blk (bk 1 24 3 [[(iV (f1.op)),(iV (f1.arg)),(V.sl (List.map cF (f1.kids)))]])) (lB oB rfl rfl))) ?_ (by simp) (.same (cut_fin 1 _) _) h0 (by simp [locB,loc0])
  rw [pF,if_neg q1,if_neg q2,if_neg q3,if_neg q4,if_neg q5,if_neg q6] at h; rw [hx] at h; cases h; rfl
 ·
  refine pop_pan (i:=0) (by have q:=patom_loc v e s hs; rw [hx] at q; exact q) (evcons (@rfl V (V.mp 0 v 0 0)) evnil) rfl (@rfl Blk (bk v 79 6 [[(V.sl (List.map cS (e.ia))),(V.sl (List.map cS (e.oa))),(V.str e.src),(iV ((s.pos:Nat):Int)),(V.str s.wd),(iV ((s.dep:Nat):Int))]])) rfl fun H'=>(RetL_pan ?_)
  rw [pF,if_neg q1,if_neg q2,if_neg q3,if_neg q4,if_neg q5,if_neg q6] at h; rw [hx] at h; cases h; rfl
def s34:SF:=⟨13,[.tmp 4],.seq (.reg [sO 2 (.box 37 1 (.t 0)),sO 3 (.box 37 1 (.t 1)),qI 4 0]) (.seq (.seq (.reg [qL 6 1 2,sO 7 (.call false 55 [.t 6]),qM 5 7]) (.seq (.reg [qM 8 5,qC 9 .neq 8 0]) (.cond (.t 9) (.seq (.reg [qM 10 5,qM 4 10]) (.ret)) (.skip)))) (.seq (.reg [qL 11 1 3,sO 12 (.call false 55 [.t 11]),qM 4 12]) (.ret)))⟩
theorem s34_ok:slimF Try.prog ⟨[31,36,37,38,40,41,42,44,45,59,60,61,65,66,67,71,72,73,81,82,84,92,93,98,99,102,104],[],[],[]⟩ Try.f34=some s34:=by kernel_rfl
def b55_0:SC:=.seq (.reg [qP 19 .lss 18 17]) (.seq (.cond (.t 19) (.skip) (.exit 1)) (.seq (.block 2 (.seq (.reg [qM 20 18,qA 21 1 16 18,ql 22 21,qM 3 20,qM 4 22]) (.seq (.seq (.reg [qM 23 4,sO 24 (.call false 77 [.t 23]),sO 25 (.un .not (.t 24))]) (.cond (.t 25) (.seq (.reg [qI 2 9]) (.ret)) (.skip))) (.seq (.reg [qF 26 0 1,ql 27 26,qM 28 3,sO 29 (.slice 1 (.t 27) none (some (.t 28))),qM 30 4,sO 31 (.call false 78 [.t 29,.t 30])]) (.cond (.t 31) (.seq (.reg [qI 2 7]) (.ret)) (.skip)))))) (.reg [qC 32 .add 18 1,qM 18 32])))
def s55:SF:=⟨33,[.tmp 2],.seq (.reg [sO 1 (.box 37 1 (.t 0)),qI 2 0]) (.seq (.block 0 (.seq (.reg [qF 6 0 1,ql 7 6,qN 8 7,qC 9 .eql 8 0,qM 5 9]) (.cond (.t 5) (.seq (.reg [qI 2 19]) (.ret)) (.seq (.reg [qF 11 0 1,ql 12 11,qN 13 12,qC 14 .gtr 13 64,qM 10 14]) (.cond (.t 10) (.seq (.reg [qI 2 3]) (.ret)) (.skip)))))) (.seq (.seq (.reg [qF 15 0 1,ql 16 15,qN 17 16,qI 18 0]) (.block 1 (.loop b55_0))) (.seq (.reg [qI 2 0]) (.ret))))⟩
theorem s55_ok:slimF Try.prog ⟨[31,36,37,38,40,41,42,44,45,59,60,61,65,66,67,71,72,73,81,82,84,92,93,98,99,102,104],[],[],[]⟩ Try.f55=some s55:=by kernel_rfl
theorem bytes_at {s:ByteArray} {pos:Nat} (hp:pos < s.size):(s.data.toList.drop pos).all ltr=(ltr (s[pos]'hp)&&(s.data.toList.drop (pos+1)).all ltr):=by
  have h:pos < s.data.toList.length:=by simpa using hp
  rw [List.drop_eq_getElem_cons h,List.all_cons]
  congr 1
theorem name_out {s:ByteArray} {pos:Nat} (hc:s.data.toList.all ltr=(s.data.toList.drop pos).all ltr) (hp:pos < s.size) (h:ltr (s[pos]'hp)=false):nmB s.data.toList=false:=by
  unfold nmB; rw [hc,bytes_at hp,h]; rfl
set_option maxHeartbeats 4000000 in
set_option maxRecDepth 1000000 in
theorem name_calls (s : ByteArray) (w : World) (hs : s.size ≤ 1048576) :
    Calls Try.prog 77 #[.string s] w fun e w'=>e=.returned (.bool (nmB s.data.toList))∧ ∃ pos,w'=w.iter s pos:=by
  go_enter Try.func77,Try.ntmps77
  go_wp2
  go_loopw [] (fun w'=> ∃ (pos:Nat),w'=w.iter s pos∧s.data.toList.all ltr=(s.data.toList.drop pos).all ltr) (fun w'=>s.size - w'.iterPos w.heap.size)
  case atStart=>exact ⟨0,rfl,rfl⟩
  case round =>
    obtain ⟨pos,rfl,hc⟩:=hrel
    by_cases hp:pos < s.size
    · by_cases ha:(s[pos]'hp).toNat < 128
      · have hnx : ∀ ty, (Instr.next (.pointer (some ⟨w.heap.size, 0, none⟩)) true ty).run Try.prog (w.iter s pos) = _ := fun ty => run_next_ascii w s pos ty hp ha
        go_wp2
        all_goals clear hnx
        all_goals first
          | (have q : ltr (s[pos]'hp) = false := decide_eq_false (by (try simp only [Bool.not_eq_true', Bool.not_eq_false', bne_eq_false_iff_eq, decide_eq_false_iff_not, bne_iff_ne, ne_eq, Bool.or_eq_true, decide_eq_true_eq, Bool.or_eq_false_iff, Bool.and_eq_true, Bool.not_eq_true, not_and, not_or, Bool.and_eq_false_iff, Int.not_le, Int.not_lt] at *); omega)
             go_ret; exact ⟨by rw [name_out hc hp q]; rfl,_,rfl⟩)
          | (have q : ltr (s[pos]'hp) = true := decide_eq_true (by (try simp only [Bool.not_eq_true', Bool.not_eq_false', bne_eq_false_iff_eq, decide_eq_false_iff_not, bne_iff_ne, ne_eq, Bool.or_eq_true, decide_eq_true_eq, Bool.or_eq_false_iff, Bool.and_eq_true, Bool.not_eq_true, not_and, not_or, Bool.and_eq_false_iff, Int.not_le, Int.not_lt] at *); omega)
             go_roundw
             case rel=>exact ⟨pos+1,rfl,by rw [hc,bytes_at hp,q,Bool.true_and]⟩
             case measure=>simp; omega)
      · have hd:=decode_high s pos hp (by omega)
        have q:ltr (s[pos]'hp)=false:=decide_eq_false (by omega)
        have hnx: ∀ ty,(Instr.next (.pointer (some ⟨w.heap.size,0,none⟩)) true ty).run Try.prog (w.iter s pos)=_:=fun ty=>run_next_any w s pos ty hp
        have h1:=hd.1
        generalize (Utf8.decode s pos).1=c at hnx h1
        go_wp2
        all_goals first
          |(exfalso; clear hnx; simp at*; omega)
          |(go_ret; exact ⟨by rw [name_out hc hp q]; rfl,_,rfl⟩)
    · have hnx: ∀ ty,(Instr.next (.pointer (some ⟨w.heap.size,0,none⟩)) true ty).run Try.prog (w.iter s pos)=_:=fun ty=>run_next_end w s pos ty hp
      have hall:s.data.toList.all ltr=true:=by rw [hc,List.drop_eq_nil_of_le (by simpa using hp)]; rfl
      have hsz:s.data.toList.length=s.size:=by simp
      go_wp2
      all_goals go_ret
      all_goals refine ⟨?_,_,rfl⟩
      all_goals unfold nmB
      all_goals rw [hall,Bool.true_and]
      all_goals first
        |exact congrArg (fun b=>Ending.returned (Value.bool b)) (decide_eq_decide.2 (by rw [hsz]; omega))
        |exact congrArg (fun b=>Ending.returned (Value.bool b)) (decide_eq_false (by rw [hsz]; omega)).symm
theorem name_pure (s:List UInt8) (hl:s.length≤1048576):PureC Try.prog 77 [.str s] (.bool (nmB s)):=fun H=>by
  refine ⟨⟨_,Try.func77,by kernel_rfl,by kernel_rfl⟩,fun x cs hxH hx hr=>?_⟩
  obtain ⟨hlen,hr⟩:=hr
  match cs,hlen with
  | [c1], _ =>
    have h1:=hr 0 _ rfl
    simp only [List.getD_cons_zero] at h1
    cases h1
    refine (name_calls ⟨s.toArray⟩ x.w (show s.toArray.size≤1048576 by simpa using hl)).mono fun e w' h=>?_
    obtain ⟨h1,pos,h2⟩:=h
    obtain ⟨s1,s2⟩:=step_pure hx (.stringIter ⟨s.toArray⟩ pos)
    exact ⟨_,{x with w:=x.w.alloc (.stringIter ⟨s.toArray⟩ pos),Z:=fun b=>x.Z b∨b=x.w.heap.size},h1,h2.symm,hxH,s1,.bool _,s2⟩
def s78:SF:=⟨9,[.tmp 4],.seq (.reg [sO 4 (.mv (.c (.bool false)))]) (.seq (.reg [qM 5 0,qM 6 1,sO 7 (.call false 90 [.t 5,.t 6]),qC 8 .geq 7 0,qM 4 8]) (.ret))⟩
theorem s78_ok:slimF Try.prog ⟨[31,36,37,38,40,41,42,44,45,59,60,61,65,66,67,71,72,73,81,82,84,92,93,98,99,102,104],[],[],[]⟩ Try.f78=some s78:=by kernel_rfl
theorem scon_pure (l:List (List UInt8)) (s:List UInt8):PureC Try.prog 78 [(V.sl (List.map cS (l))),(V.str s)] (V.bool (decide (0≤idxS l s))):=by
 refine pW Try.func78 s78_ok fun hB=>?_
 unfold s78
 dsimp only
 refine W_r (R_mv rfl (R_e (W_r (R_mv rfl (R_mv rfl (R_callk (sidx_pure l s) rfl (R_geq rfl rfl ?_)))))))
 refine R_mv rfl (R_e (W_ret ?_))
 refine Ret_1 (@rfl V (V.bool (decide ((0:Int)≤(idxS l s))))) (fz_bool ?_)
 · rfl
theorem av_pure (l:List (List UInt8)) (hn: ∀ k,k < l.length→(nth l k).length≤100):PureC Try.prog 55 [(V.agg [(V.sl (List.map cS (l)))])] (iV (aval l)):=by
 refine pW Try.func55 s55_ok fun hB=>?_
 unfold s55
 dsimp only
 refine W_r (R_box (i:=1) (n:=0) (m:=1) (cs:=[(V.sl (List.map cS (l)))]) rfl (congrArg Blk.ver rfl) rfl rfl rfl (R_mv rfl (R_e (W_seq_blockg fun Q1 n1 x1 y1 z1=>(W_r (R_fk rfl rfl (R_lk rfl rfl rfl rfl ?_)))))))
 refine R_len rfl (R_eql rfl rfl (R_mv rfl (R_e ?_)))
 refine W_if rfl (fun c2=>?_) fun c2=>?_
 ·
  refine W_r (R_mv rfl (R_e (W_ret (y1 _ _ ?_))))
  refine Ret_1 (@rfl V (iV (19:Int))) (fz_int ?_)
  · unfold aval; rw [if_pos (by omega)]
 refine W_r (R_fk rfl rfl (R_lk rfl rfl rfl rfl (R_len rfl (R_gtr rfl rfl (R_mv rfl (R_e ?_))))))
 refine W_if rfl (fun c3=>?_) fun c3=>?_
 ·
  refine W_r (R_mv rfl (R_e (W_ret (y1 _ _ ?_))))
  refine Ret_1 (@rfl V (iV (3:Int))) (fz_int ?_)
  · unfold aval; rw [if_neg (by omega),if_pos (by omega)]
 refine W_skip (n1 _ _ (.done (W_seq_seq (W_r (R_fk rfl rfl (R_lk rfl rfl rfl rfl (R_len rfl ?_)))))))
 refine R_mv rfl (R_e (W_seq_blockg fun Q4 n4 x4 y4 z4=>?_))
 refine W_loop (fun mm T H=> ∃ (k:Nat),mm=l.length - k∧T 1=(V.mp 1 1 0 0)∧T 16=(V.sl (List.map cS (l)))∧T 17=(iV ((l.length:Nat):Int))∧T 18=(iV ((k:Nat):Int))∧H 1=(bk 1 37 1 [[(V.sl (List.map cS (l)))]])∧(k≤l.length)∧(aval l=fe (avE l) k (l.length - k))) ?_ ?_
 ·
  refine ⟨_,0,rfl,rfl,rfl,rfl,(Eq.trans (@rfl V (iV (0:Int))) rfl),rfl,?_,?_⟩
  · omega
  · unfold aval; rw [if_neg (by omega),if_neg (by omega)]; rfl
 intro mm T H ⟨k,hmm,t1,t16,t17,t18,h1,hk,hc⟩ Q5 p15 p25 p35
 unfold b55_0
 refine W_r (R_lss t18 t17 (R_e ?_))
 refine W_seq_if rfl (fun c6=>?_) fun c6=>?_
 ·
  refine W_seq_skip (W_seq_blockg fun Q7 n7 x7 y7 z7=>(W_r (R_mv t18 (R_idx (i:=k) t16 t18 (by omega) rfl (R_load_pp rfl rfl (R_mv rfl (R_mv rfl ?_)))))))
  refine R_e (W_seq_seq (W_r (R_mv rfl (R_callk (name_pure ((nth (l) (k))) (Nat.le_trans (hn k (by omega)) (by decide))) rfl (R_notb rfl (R_e ?_))))))
  refine W_seq_ifb rfl (fun c8=>?_) (fun c8=>?_)
  ·
   have d1:nmB (nth l k)=false:=by simpa using c8
   refine W_seq_seq (W_r (R_mv rfl (R_e (W_seq_ret (y7 _ _ (p25 _ _ (y4 _ _ ?_)))))))
   refine Ret_1 (@rfl V (iV (9:Int))) (fz_int ?_)
   · rw [hc,fe_hit (by unfold avE; rw [if_pos d1]; decide) (by omega)]; unfold avE; rw [if_pos d1]
  have d1:nmB (nth l k)=true:=by simpa using c8
  refine W_seq_skip (W_r (R_fk t1 h1 (R_lk rfl h1 rfl rfl (R_mv rfl (R_slice_hi (n:=k) (@rfl V (V.sl (List.map cS (l)))) (@rfl V (iV ((k:Nat):Int))) (by omega) (fun _=>rfl) (R_mv rfl (R_callk (scon_pure (List.take (k) (l)) ((nth (l) (k)))) rfl ?_)))))))
  refine R_e ?_
  refine W_ifb rfl (fun c9=>?_) (fun c9=>?_)
  ·
   have d2:dupB l k=true:=by rw [← dup_take (by omega)]; exact c9
   refine W_r (R_mv rfl (R_e (W_ret (y7 _ _ (p25 _ _ (y4 _ _ ?_))))))
   refine Ret_1 (@rfl V (iV (7:Int))) (fz_int ?_)
   · rw [hc,fe_hit (by unfold avE; rw [if_neg (by simp [d1]),if_pos d2]; decide) (by omega)]; unfold avE; rw [if_neg (by simp [d1]),if_pos d2]
  have d2:dupB l k=false:=by rw [← dup_take (by omega)]; simpa using c9
  refine W_skip (n7 _ _ (.done (W_t (R_addN t18 (@rfl V (iV ((1:Nat):Int))) (by omega) (R_mv rfl (R_e ?_))))))
  refine p15 _ _ _ ?_ ⟨(k+1),rfl,t1,t16,t17,(Eq.trans (@rfl V (iV ((k+1:Nat):Int))) (by rfl)),h1,?_,?_⟩
  · omega
  · omega
  · rw [hc,fe_skip (by unfold avE; rw [if_neg (by simp [d1]),if_neg (by simp [d2])]) (by omega)]
 refine W_seq_exit (p35 _ _ _ (x4 _ _ (.done (W_r (R_mv rfl (R_e (W_ret ?_)))))))
 refine Ret_1 (@rfl V (iV (0:Int))) (fz_int ?_)
 · rw [hc,fe_end (by omega)]
theorem names_pure (l m:List (List UInt8)) (hn: ∀ k,k < l.length→(nth l k).length≤100) (hm: ∀ k,k < m.length→(nth m k).length≤100):PureC Try.prog 34 [(V.agg [(V.sl (List.map cS (l)))]),(V.agg [(V.sl (List.map cS (m)))])] (iV (avs l m)):=by
 refine pW Try.func34 s34_ok fun hB=>?_
 unfold s34
 dsimp only
 refine W_r (R_box (i:=2) (n:=0) (m:=1) (cs:=[(V.sl (List.map cS (l)))]) rfl (congrArg Blk.ver rfl) rfl rfl rfl (R_box (i:=3) (n:=0) (m:=1) (cs:=[(V.sl (List.map cS (m)))]) rfl (congrArg Blk.ver rfl) rfl rfl rfl (R_mv rfl (R_e (W_seq_seq (W_r (R_lk rfl rfl rfl rfl ?_)))))))
 refine R_callk (av_pure l hn) rfl (R_mv rfl (R_e (W_seq_seq (W_r (R_mv rfl (R_neq rfl rfl (R_e ?_)))))))
 refine W_seq_if rfl (fun c1=>?_) fun c1=>?_
 ·
  refine W_seq_seq (W_r (R_mv rfl (R_mv rfl (R_e (W_seq_ret ?_)))))
  refine Ret_1 (@rfl V (iV (aval l))) (fz_int ?_)
  · unfold avs; rw [if_pos (by omega)]
 refine W_seq_skip (W_r (R_lk rfl rfl rfl rfl (R_callk (av_pure m hm) rfl (R_mv rfl (R_e (W_ret ?_))))))
 refine Ret_1 (@rfl V (iV (aval m))) (fz_int ?_)
 · unfold avs; rw [if_neg (by omega)]
theorem pF_loc (v:Nat) (e:PE): ∀ k:Nat,k≤4294967296→
    (∀ (s:PS) (r:PR Fm),OkS e s→pF e k .form s=some r→LocC Try.prog 37 1 [.mp 0 v 0 0] (hpB (bk v 79 6 [pCells e s])) (r.out 79 75 v e fmV))∧
    (∀ (s:PS) (r:PR Fm),OkS e s→pF e k .conj s=some r→LocC Try.prog 60 1 [.mp 0 v 0 0] (hpB (bk v 79 6 [pCells e s])) (r.out 79 75 v e fmV))∧
    (∀ (s:PS) (r:PR Fm),OkS e s→pF e k .bin s=some r→LocC Try.prog 81 1 [.mp 0 v 0 0] (hpB (bk v 79 6 [pCells e s])) (r.out 79 75 v e fmV))∧
    (∀ (s:PS) (r:PR Fm),OkS e s→pF e k .un s=some r→LocC Try.prog 92 1 [.mp 0 v 0 0] (hpB (bk v 79 6 [pCells e s])) (r.out 79 75 v e fmV))
  | 0, _ => by
    refine ⟨?_,?_,?_,?_⟩ <;> (intro s r _ h; cases h)
  | k + 1, hk => by
    obtain ⟨a,b,c,d⟩:=pF_loc v e k (by omega)
    exact ⟨fun s r hs h=>pform_step v e s hs k (by omega) b a r h,fun s r hs h=>pconj_step v e s hs k (by omega) c r h,
      fun s r hs h=>pbin_step v e s hs k (by omega) d c r h,fun s r hs h=>pun_step v e s hs k (by omega) d a r h⟩
noncomputable def rg35:Nat→Array Oper
  | 0 => match Try.f35.body with
    |some (.seq (.region _ o _) _)=>o
    |_=>#[]
  | _ => match Try.f35.body with
    |some (.seq _ (.seq (.region _ o _) _))=>o
    |_=>#[]
noncomputable def tl35:Code:=match Try.f35.body with
  |some (.seq _ (.seq _ (.cond _ a _)))=>a
  |_=>.skip
noncomputable def op35 (r k : Nat) : Oper := (rg35 r).getD k ⟨none, .assign (.const .nilIface), 0, "", #[], none⟩
theorem b35:Try.f35.body=some (.seq (.region 0 #[op35 0 0,op35 0 1] false) (.seq (.region 1 #[op35 1 0,op35 1 1] false) (.cond (.tmp 8) tl35 .skip))):=by kernel_rfl
def s35t : SC := .seq (.reg [qM 10 3, sO 11 (.tas 75 (.t 10)), qM 9 11, qE 12 9 0, qE 13 9 1, sO 4 (.alloc 75 [.int .i64 0, .int .i64 0]), sN (.store 2 (.t 4) (.t 12)), qM 5 13])
  (.seq (.seq (.reg [qM 14 5,sO 15 (.un .not (.t 14))]) (.cond (.t 15) (.seq (.reg [qM 16 3]) (.seq (.pop none (.raise (.t 16))) (.reg []))) (.skip)))
    (.reg [sO 17 (.build [.int .i64 0,.int .i64 0,.nilsl] []),qF 18 0 4,sO 19 (.ldp false 1 (.t 18)),qF 20 1 4,sO 21 (.ldp false 1 (.t 20)),sN (.store 3 (.t 0) (.t 17)),sN (.store 1 (.t 1) (.t 19)),sN (.store 1 (.t 2) (.t 21))]))
theorem s35t_ok:slim Try.prog ⟨[],[19,21],[],[]⟩ 22 tl35=some s35t:=by kernel_rfl
theorem u20:Try.prog.underlying 20=some (.interface #[]):=by kernel_rfl
theorem r35 (tmps:Array Value) (w:World):(results Try.f35 tmps).run Try.prog w=.ok (.tuple #[]) w:=by
  have:Try.f35.results=#[]:=by kernel_rfl
  simp [results,this]
theorem n35:Try.f35.ntmps=22:=by kernel_rfl
theorem idle35 (a b c:Value) (w:World):CallsD Try.prog 35 #[a,b,c] .returning w fun e u' w'=>e=.returned (.tuple #[])∧u'=.returning∧w'=w:=by
  refine callsD_of_wpS Try.func35 b35 fun c₀ cs hu=>?_
  refine wpS_seq (wpS_recover (t1:=6) (t2:=3) (v:=.nilIface) (cs':=c₀::cs) (by kernel_rfl) (by kernel_rfl) (by kernel_rfl) (by kernel_rfl) (by kernel_rfl) (by kernel_rfl) (by simp [n35]) (.inr ⟨by simp [recoverD,hu],rfl,rfl⟩) ?_)
  refine wpS_seq (wpS_of_wp (wp_nnil (t1:=3) (t2:=7) (t3:=8) (v:=.nilIface) (b:=false) u20 (by kernel_rfl) (by kernel_rfl) (by kernel_rfl) (by kernel_rfl) (by kernel_rfl) (by kernel_rfl) (by simp [n35,Act.put]) (eval_put (by simp [n35,Act.put])) (.inr ⟨rfl,rfl⟩) ?_))
  refine wpS_cond (t:=false) (eval_put (by simp [n35,Act.put])) ?_
  rw [if_neg (by simp)]
  refine wpS_of_wp (wp_skip ?_)
  refine ⟨rfl,.returning,?_,_,r35 _ _,rfl,rfl,rfl⟩
  cases c₀; simp at hu; simp [hu]
theorem catchW {H:Heap} {T:Nat→V} {a:Nat} {x:Int} {u1 u2 u3 u4 u5:V} (t0:T 0=.mp 6 1 0 0) (t1:T 1=.mp 7 1 0 0) (t2:T 2=.mp 8 1 0 0) (t3:T 3=.raw (failC 75 a x))
    (h6:H 6=bk 1 24 3 [[u1,u2,u3]]) (h7:H 7=bk 1 3 1 [[u4]]) (h8:H 8=bk 1 27 1 [[u5]]):
    W Try.prog 1000 s35t (fun e _ H'=>e=.norm∧H' 6=bk 1 24 3 [[iV 0,iV 0,.nilsl]]∧H' 7=bk 1 3 1 [[iV a]]∧H' 8=bk 1 27 1 [[iV x]]) T H:=by
  unfold s35t
  generalize hm:(H 1004).ver=m
  refine W_r (R_mv t3 (R_tas (v:=.tup [.agg [iV a,iV x],.bool true]) rfl rfl (R_mv rfl (R_ext rfl rfl (R_ext rfl rfl (R_alloc (i:=1004) rfl hm rfl (R_sk (id:=1004) (v:=.agg [iV a,iV x]) (B':=bk (m+1) 75 2 [[iV a,iV x]]) rfl rfl rfl rfl rfl rfl rfl rfl rfl (R_mv rfl (R_e ?_)))))))))
  refine W_seq_seq (W_r (R_mv rfl (R_notb rfl (R_e (W_seq_cond (bb:=false) rfl (by intro h; cases h) fun _=>?_)))))
  refine .freezeP 1004 4 (m+1) 0 0 [iV a,iV x] rfl rfl rfl rfl (.done ?_)
  refine W_t (R_build rfl rfl (R_fld_pp (cs:=[iV a,iV x]) rfl rfl (R_ldp rfl rfl (R_fld_pp (cs:=[iV a,iV x]) rfl rfl (R_ldp rfl rfl ?_)))))
  refine R_sk (id:=6) (v:=.agg [iV 0,iV 0,.nilsl]) (B':=bk 1 24 3 [[iV 0,iV 0,.nilsl]]) t0 rfl rfl h6 rfl rfl rfl rfl rfl ?_
  refine R_sk (id:=7) (v:=iV a) (B':=bk 1 3 1 [[iV a]]) t1 rfl rfl h7 rfl rfl rfl rfl rfl ?_
  refine R_sk (id:=8) (v:=iV x) (B':=bk 1 27 1 [[iV x]]) t2 rfl rfl h8 rfl rfl rfl rfl rfl ?_
  exact R_e ⟨rfl,rfl,rfl,rfl⟩
theorem catch35 {x:Cx} (hx:Inv x) {p6 p7 p8:Value} {a:Nat} {e:Int} {u1 u2 u3 u4 u5:V} (r6:R x (.mp 6 1 0 0) p6) (r7:R x (.mp 7 1 0 0) p7) (r8:R x (.mp 8 1 0 0) p8)
    (h6:x.H 6=bk 1 24 3 [[u1,u2,u3]]) (h7:x.H 7=bk 1 3 1 [[u4]]) (h8:x.H 8=bk 1 27 1 [[u5]]):
    CallsD Try.prog 35 #[p6,p7,p8] (.panicking [⟨failC 75 a e,false,false⟩]) x.w fun en u' w'=>en=.returned (.tuple #[])∧u'=.panicking [⟨failC 75 a e,true,false⟩]∧
      ∃ y:Cx,y.w=w'∧Inv y∧Frame x y∧y.H 6=bk 1 24 3 [[iV 0,iV 0,.nilsl]]∧y.H 7=bk 1 3 1 [[iV a]]∧y.H 8=bk 1 27 1 [[iV e]]:=by
  refine callsD_of_wpS Try.func35 b35 fun c₀ cs hu=>?_
  rw [n35]
  refine wpS_seq (wpS_recover (t1:=6) (t2:=3) (v:=failC 75 a e) (cs':={c₀ with mode:=.panicking [⟨failC 75 a e,true,false⟩]}::cs) (by kernel_rfl) (by kernel_rfl) (by kernel_rfl) (by kernel_rfl) (by kernel_rfl) (by kernel_rfl) (by simp) (.inl (by simp [recoverD,hu])) ?_)
  refine wpS_seq (wpS_of_wp (wp_nnil (t1:=3) (t2:=7) (t3:=8) (v:=failC 75 a e) (b:=true) u20 (by kernel_rfl) (by kernel_rfl) (by kernel_rfl) (by kernel_rfl) (by kernel_rfl) (by kernel_rfl) (by simp [Act.put]) (eval_put (by simp [Act.put])) (.inl ⟨_,_,rfl,rfl⟩) ?_))
  refine wpS_cond (t:=true) (eval_put (by simp [Act.put])) ?_
  rw [if_pos rfl]
  have hr:RL x [.mp 6 1 0 0,.mp 7 1 0 0,.mp 8 1 0 0] [p6,p7,p8]:=⟨rfl,fun j v hj=>by
    match j,hj with
    |0,hj=>cases hj; exact r6
    |1,hj=>cases hj; exact r7
    |2,hj=>cases hj; exact r8
    |n+3,hj=>simp at hj⟩
  have hT:=TRel_start (n:=22) hr (by simp)
  have hf:R x (.raw (failC 75 a e)) (failC 75 a e):=.raw _ rfl
  have hT2:=(((hT.put (d:=some 6) (fun _ h=>by cases h; omega) hf).put (d:=some 3) (fun _ h=>by cases h; omega) hf).put (d:=some 7) (fun _ h=>by cases h; omega) hf).put (d:=some 8) (fun _ h=>by cases h; omega) (.bool true)
  have hW:=catchW (H:=x.H) (T:=putT (putT (putT (putT (T0 [.mp 6 1 0 0,.mp 7 1 0 0,.mp 8 1 0 0]) (some 6) (.raw (failC 75 a e))) (some 3) (.raw (failC 75 a e))) (some 7) (.raw (failC 75 a e))) (some 8) (.bool true)) (a:=a) (x:=e) rfl rfl rfl rfl h6 h7 h8
  refine wpS_of_wp (wp_mono (W_sound tl35 s35t s35t_ok _ x x _ _ hW hx hT2 (Frame.refl x)) ?_)
  intro e' a' w' hp
  obtain ⟨e2,T',y,he,hw,⟨rfl,g6,g7,g8⟩,hy,hT',hF'⟩:=hp
  cases e' with
  |normal=>exact ⟨hT'.defers,_,rfl,_,r35 _ _,rfl,rfl,y,hw,hy,hF',g6,g7,g8⟩
  |panic l=>obtain ⟨c,h⟩:=exOf_panic he; cases h
  |_=>cases he
structure End19 (r:Fm×Int×Int) (T:Nat→V) (H:Heap):Prop where
  t6:T 6=.mp 6 1 0 0
  t7:T 7=.mp 7 1 0 0
  t8:T 8=.mp 8 1 0 0
  h6: ∃ kv,H 6=bk 1 24 3 [[iV r.1.op,iV r.1.arg,kv]]∧(kv=.sl (r.1.kids.map cF)∨kv=.nilsl∧r.1.kids=[])
  h7:H 7=bk 1 3 1 [[iV r.2.1]]
  h8:H 8=bk 1 27 1 [[iV r.2.2]]
theorem End19.res {r:Fm×Int×Int} {T:Nat→V} {H:Heap} (h:End19 r T H): ∃ u,resT [.cell 6 true 3,.cell 7 false 1,.cell 8 false 1] T H=some u∧fzv true H 6 u=.tup [fmV r.1,iV r.2.1,iV r.2.2]:=by
  obtain ⟨t6,t7,t8,⟨kv,h6,hk⟩,h7,h8⟩:=h
  have e7:resV T H (.cell 7 false 1)=some (iV r.2.1):=resV_c t7 h7 (lB oB rfl rfl)
  have e8:resV T H (.cell 8 false 1)=some (iV r.2.2):=resV_c t8 h8 (lB oB rfl rfl)
  rcases hk with rfl|⟨rfl,h0⟩
  · have e6:resV T H (.cell 6 true 3)=some (.agg [iV r.1.op,iV r.1.arg,.sl (r.1.kids.map cF)]):=resV_c t6 h6 (lB oB rfl rfl)
    exact ⟨.tup [.agg [iV r.1.op,iV r.1.arg,.sl (r.1.kids.map cF)],iV r.2.1,iV r.2.2],by simp only [resT,mapO,e6,e7,e8],by simp⟩
  · have e6:resV T H (.cell 6 true 3)=some (.agg [iV r.1.op,iV r.1.arg,.nilsl]):=resV_c t6 h6 (lB oB rfl rfl)
    exact ⟨.tup [.agg [iV r.1.op,iV r.1.arg,.nilsl],iV r.2.1,iV r.2.2],by simp only [resT,mapO,e6,e7,e8],by simp [fzv,h0]⟩
abbrev z24:List V:=[.int .i64 0,.int .i64 0,.nilsl]
abbrev sP0:SC:=.reg [sO 3 (.box 37 1 (.t 0)),sO 4 (.box 37 1 (.t 1)),sO 6 (.alloc 24 z24),sO 7 (.alloc 3 [.int .i64 0]),sO 8 (.alloc 27 [.int .i64 0])]
abbrev sP1:SC:=.seq (.reg [qL 12 1 3,qL 13 1 4,sO 14 (.call false 34 [.t 12,.t 13]),qM 9 14]) (.seq (.reg [qM 15 9,qC 16 .neq 15 0]) (.cond (.t 16) (.seq (.reg [sO 17 (.build z24 []),qM 18 9,sN (.store 3 (.t 6) (.t 17)),sN (.store 1 (.t 7) (.c (.int .i64 0))),sN (.store 1 (.t 8) (.t 18))]) (.ret)) (.skip)))
abbrev sP2:SC:=.seq (.reg [qM 19 2,sO 20 (.slen (.t 19)),qC 21 .gtr 20 1048576]) (.cond (.t 21) (.seq (.reg [sO 22 (.build z24 []),sN (.store 3 (.t 6) (.t 22)),sN (.store 1 (.t 7) (.c (.int .i64 0))),sN (.store 1 (.t 8) (.c (.int .i64 3)))]) (.ret)) (.skip))
def sPre:SC:=.seq sP0 (.seq sP1 (.seq sP2 .skip))
def QPre (ia oa:List (List UInt8)) (src:List UInt8):Ex→(Nat→V)→Heap→Prop
  | .norm,T,H=> ¬avs ia oa≠0∧ ¬1048576 < src.length∧T 2=.str src∧T 3=.mp 3 1 0 0∧T 4=.mp 4 1 0 0∧H 3=bk 1 37 1 [[.sl (ia.map cS)]]∧H 4=bk 1 37 1 [[.sl (oa.map cS)]]∧End19 (.nd 0 0 [],0,0) T H
  | .ret,T,H=>End19 (prs ia oa src) T H
  |_,_,_=>False
theorem pre19 (ia oa:List (List UInt8)) (src:List UInt8) (hn: ∀ k,k < ia.length→(nth ia k).length≤100) (hm: ∀ k,k < oa.length→(nth oa k).length≤100):
    W Try.prog 0 sPre (QPre ia oa src) (T0 [.agg [.sl (ia.map cS)],.agg [.sl (oa.map cS)],.str src]) H0:=by
  unfold sPre
  refine W_r (R_box (i:=3) rfl rfl rfl rfl rfl (R_box (i:=4) rfl rfl rfl rfl rfl (R_alloc (i:=6) rfl rfl rfl (R_alloc (i:=7) rfl rfl rfl (R_alloc (i:=8) rfl rfl rfl (R_e ?_))))))
  refine W_seq_seq (W_r (R_lk (v:=.agg [.sl (ia.map cS)]) rfl rfl rfl rfl (R_lk (v:=.agg [.sl (oa.map cS)]) rfl rfl rfl rfl (R_callk (names_pure ia oa hn hm) rfl (R_mv rfl (R_e ?_))))))
  refine W_seq_seq (W_r (R_mv rfl (R_neq rfl rfl (R_e (W_seq_cond (bb:=decide (avs ia oa≠0)) rfl ?_ ?_)))))
  · intro h
    have h:=of_decide_eq_true h
    refine W_seq_seq (W_r (R_build rfl rfl (R_mv rfl ?_)))
    refine R_sk (id:=6) (v:=.agg [iV 0,iV 0,.nilsl]) (B':=bk 1 24 3 [[iV 0,iV 0,.nilsl]]) rfl rfl rfl rfl rfl rfl rfl rfl rfl ?_
    refine R_sk (id:=7) (v:=iV 0) (B':=bk 1 3 1 [[iV 0]]) rfl rfl rfl rfl rfl rfl rfl rfl rfl ?_
    refine R_sk (id:=8) (v:=iV (avs ia oa)) (B':=bk 1 27 1 [[iV (avs ia oa)]]) rfl rfl rfl rfl rfl rfl rfl rfl rfl (R_e (W_seq_ret ?_))
    show End19 (prs ia oa src) _ _
    rw [prs,if_pos h]
    exact ⟨rfl,rfl,rfl,⟨.nilsl,rfl,.inr ⟨rfl,rfl⟩⟩,rfl,rfl⟩
  · intro h
    have h:=of_decide_eq_false h
    refine W_seq_skip (W_seq_seq (W_r (R_mv rfl (R_slen (s:=src) rfl (R_gtr rfl rfl (R_e (W_seq_cond (bb:=decide ((1048576:Int) < (src.length:Nat))) rfl ?_ ?_)))))))
    · intro h2
      have h2:1048576 < src.length:=by have:=of_decide_eq_true h2; omega
      refine W_seq_seq (W_r (R_build rfl rfl ?_))
      refine R_sk (id:=6) (v:=.agg [iV 0,iV 0,.nilsl]) (B':=bk 1 24 3 [[iV 0,iV 0,.nilsl]]) rfl rfl rfl rfl rfl rfl rfl rfl rfl ?_
      refine R_sk (id:=7) (v:=iV 0) (B':=bk 1 3 1 [[iV 0]]) rfl rfl rfl rfl rfl rfl rfl rfl rfl ?_
      refine R_sk (id:=8) (v:=iV 3) (B':=bk 1 27 1 [[iV 3]]) rfl rfl rfl rfl rfl rfl rfl rfl rfl (R_e (W_seq_ret ?_))
      show End19 (prs ia oa src) _ _
      rw [prs,if_neg h,if_pos h2]
      exact ⟨rfl,rfl,rfl,⟨.nilsl,rfl,.inr ⟨rfl,rfl⟩⟩,rfl,rfl⟩
    · intro h2
      have h2: ¬1048576 < src.length:=by have:=of_decide_eq_false h2; omega
      refine W_seq_skip (W_skip ?_)
      exact ⟨h,h2,rfl,rfl,rfl,rfl,rfl,rfl,rfl,rfl,⟨.nilsl,rfl,.inr ⟨rfl,rfl⟩⟩,rfl,rfl⟩
theorem pop_panH {P:Program} {k0 f i:Nat} {Q:Ex→(Nat→V)→Heap→Prop} {T:Nat→V} {H:Heap} {d:Option Nat} {r:SC} {us us':List V} {args:List SX} {b b1:Blk} {c:Value} (hc:LocC P f 1 us (hpB b) (.pan c)) (he:evs T args=us') (ha:us.map (ren fun _=>i)=us') (hb:H i=b1) (h1:b1=renB (fun _=>i) b)
    (h: ∀ H',(∀ j,j≠i→H' j=H j)→Q (.pan c) T H'):W P k0 (.seq (.pop d (.call f args)) r) Q T H:=by
  subst he
  exact ⟨.pan c [i],hc.usep ha hb h1,fun H' hH=>h H' fun j hj=>hH j (by simpa using hj)⟩
abbrev sR1:SC:=.reg [qL 24 1 3,qL 25 1 4,qM 26 2,sO 27 (.build [.nilsl,.nilsl,.str [],.int .i64 0,.str [],.int .i64 0] [(0,1,.t 24),(1,1,.t 25),(2,1,.t 26)]),sO 28 (.box 79 6 (.t 27)),qM 10 28]
abbrev sR2:SC:=.seq (.reg [qM 29 10]) (.seq (.pop (some 30) (.call 36 [.t 29])) (.reg []))
abbrev sR3:SC:=.seq (.reg [qM 31 10]) (.seq (.pop (some 32) (.call 37 [.t 31])) (.reg [sN (.store 3 (.t 6) (.t 32))]))
abbrev sR4:SC:=.seq (.reg [qM 33 10,sO 34 (.nilck (.t 33)),qF 35 4 34,ql 36 35,sO 37 (.sbin .neq (.t 36) (.c (.str [])))]) (.cond (.t 37) (.seq (.reg [qM 38 10]) (.seq (.pop (some 39) (.call 38 [.t 38,.c (.int .i64 5)])) (.reg []))) (.skip))
abbrev sR5:SC:=.seq (.seq (.reg [qL 40 3 6,sO 41 (.call false 14 [.t 40]),qM 11 41]) (.seq (.reg [qM 42 11,qC 43 .neq 42 0]) (.cond (.t 43) (.seq (.reg [sO 44 (.build z24 []),qM 45 2,sO 46 (.slen (.t 45)),qM 47 11,sN (.store 3 (.t 6) (.t 44)),sN (.store 1 (.t 7) (.t 46)),sN (.store 1 (.t 8) (.t 47))]) (.ret)) (.skip))))
  (.seq (.reg [qL 48 3 6,sN (.store 3 (.t 6) (.t 48)),sN (.store 1 (.t 7) (.c (.int .i64 0))),sN (.store 1 (.t 8) (.c (.int .i64 0)))]) (.ret))
def sRest:SC:=.seq sR1 (.seq sR2 (.seq sR3 (.seq sR4 sR5)))
def QR (r:Fm×Int×Int):Ex→(Nat→V)→Heap→Prop
  | .ret,T,H=>End19 r T H
  | .pan c,T,H=> ∃ (a:Nat) (x:Int),c=failC 75 a x∧r=(.nd 0 0 [],(a:Int),x)∧T 6=.mp 6 1 0 0∧T 7=.mp 7 1 0 0∧T 8=.mp 8 1 0 0∧
      ∃ u1 u2 u3 u4 u5,H 6=bk 1 24 3 [[u1,u2,u3]]∧H 7=bk 1 3 1 [[u4]]∧H 8=bk 1 27 1 [[u5]]
  |_,_,_=>False
theorem rest5 (e:PE) (f:Fm) (r:Fm×Int×Int) (hr:r=if fval f≠0 then (.nd 0 0 [],((e.src.length:Nat):Int),fval f) else (f,0,0)) {T:Nat→V} {H:Heap} (t2:T 2=.str e.src) (t6:T 6=.mp 6 1 0 0) (t7:T 7=.mp 7 1 0 0) (t8:T 8=.mp 8 1 0 0)
    (h6:H 6=bk 1 24 3 [[iV f.op,iV f.arg,.sl (f.kids.map cF)]]) (h7:H 7=bk 1 3 1 [[iV 0]]) (h8:H 8=bk 1 27 1 [[iV 0]]):W Try.prog 0 sR5 (QR r) T H:=by
  refine W_seq_seq (W_r (R_lk (v:=fmV f) t6 h6 rfl rfl (R_callk (fvalid_pure f) rfl (R_mv rfl (R_e (W_seq_seq (W_r (R_mv rfl (R_neq rfl rfl (R_e (W_seq_cond (bb:=decide (fval f≠0)) rfl ?_ ?_)))))))))))
  · intro h
    have h:=of_decide_eq_true h
    refine W_seq_seq (W_r (R_build rfl rfl (R_mv t2 (R_slen rfl (R_mv rfl ?_)))))
    refine R_sk (id:=6) (v:=.agg [iV 0,iV 0,.nilsl]) (B':=bk 1 24 3 [[iV 0,iV 0,.nilsl]]) t6 rfl rfl h6 rfl rfl rfl rfl rfl ?_
    refine R_sk (id:=7) (v:=iV (e.src.length:Nat)) (B':=bk 1 3 1 [[iV (e.src.length:Nat)]]) t7 rfl rfl h7 rfl rfl rfl rfl rfl ?_
    refine R_sk (id:=8) (v:=iV (fval f)) (B':=bk 1 27 1 [[iV (fval f)]]) t8 rfl rfl h8 rfl rfl rfl rfl rfl (R_e (W_seq_ret ?_))
    show End19 r _ _
    rw [hr,if_pos h]
    exact ⟨t6,t7,t8,⟨.nilsl,rfl,.inr ⟨rfl,rfl⟩⟩,rfl,rfl⟩
  · intro h
    have h:=of_decide_eq_false h
    refine W_seq_skip (W_r (R_lk (v:=fmV f) t6 h6 rfl rfl ?_))
    refine R_sk (id:=6) (v:=fmV f) (B':=bk 1 24 3 [[iV f.op,iV f.arg,.sl (f.kids.map cF)]]) t6 rfl rfl h6 rfl rfl rfl rfl rfl ?_
    refine R_sk (id:=7) (v:=iV 0) (B':=bk 1 3 1 [[iV 0]]) t7 rfl rfl h7 rfl rfl rfl rfl rfl ?_
    refine R_sk (id:=8) (v:=iV 0) (B':=bk 1 27 1 [[iV 0]]) t8 rfl rfl h8 rfl rfl rfl rfl rfl (R_e (W_ret ?_))
    show End19 r _ _
    rw [hr,if_neg h]
    exact ⟨t6,t7,t8,⟨_,rfl,.inl rfl⟩,rfl,rfl⟩
theorem rest4 (e:PE) (v:Nat) (s:PS) (f:Fm) (r:Fm×Int×Int) (hr:r=if s.wd≠[] then (.nd 0 0 [],(s.pos:Int),5) else if fval f≠0 then (.nd 0 0 [],((e.src.length:Nat):Int),fval f) else (f,0,0)) {T:Nat→V} {H:Heap}
    (t2:T 2=.str e.src) (t6:T 6=.mp 6 1 0 0) (t7:T 7=.mp 7 1 0 0) (t8:T 8=.mp 8 1 0 0) (t10:T 10=.mp 28 v 0 0) (h28:H 28=bk v 79 6 [pCells e s])
    (h6:H 6=bk 1 24 3 [[iV f.op,iV f.arg,.sl (f.kids.map cF)]]) (h7:H 7=bk 1 3 1 [[iV 0]]) (h8:H 8=bk 1 27 1 [[iV 0]]):W Try.prog 0 (.seq sR4 sR5) (QR r) T H:=by
  refine W_seq_seq (W_r (R_mv t10 (R_nilck_mp rfl h28 oB (R_fk rfl h28 (R_lk (v:=.str s.wd) rfl h28 rfl rfl (R_sneq rfl rfl (R_e (W_seq_cond (bb:=decide (¬s.wd=[])) rfl ?_ ?_))))))))
  · intro h
    have h:=of_decide_eq_true h
    refine W_seq_seq (W_r (R_mv t10 (R_e (W_seq_seq (pop_panH (i:=28) (pfail_loc v e s 5) (evcons rfl (evcons rfl evnil)) rfl h28 rfl fun H' hH=>?_)))))
    rw [if_pos h] at hr
    exact ⟨s.pos,5,rfl,hr,t6,t7,t8,_,_,_,_,_,(hH 6 (by omega)).trans h6,(hH 7 (by omega)).trans h7,(hH 8 (by omega)).trans h8⟩
  · intro h
    have h:=of_decide_eq_false h
    rw [if_neg h] at hr
    exact W_seq_skip (rest5 e f r hr t2 t6 t7 t8 h6 h7 h8)
theorem rest19 (e:PE) (hl:e.src.length≤1048576) {T:Nat→V} {H:Heap} (t2:T 2=.str e.src) (t3:T 3=.mp 3 1 0 0) (t4:T 4=.mp 4 1 0 0) (h3:H 3=bk 1 37 1 [[.sl (e.ia.map cS)]]) (h4:H 4=bk 1 37 1 [[.sl (e.oa.map cS)]]) (hE:End19 (.nd 0 0 [],0,0) T H):
    W Try.prog 0 sRest (QR (prsE e)) T H:=by
  obtain ⟨t6,t7,t8,⟨kv,h6,_⟩,h7,h8⟩:=hE
  unfold sRest
  generalize hv:(H 28).ver=m
  have hs0:OkS e ⟨0,[],0⟩:=⟨hl,by simp,by simp⟩
  refine W_r (R_lk (v:=.agg [.sl (e.ia.map cS)]) t3 h3 rfl rfl (R_lk (v:=.agg [.sl (e.oa.map cS)]) t4 h4 rfl rfl (R_mv t2 (R_build rfl rfl (R_box (i:=28) rfl hv rfl rfl rfl (R_mv rfl (R_e ?_)))))))
  refine W_seq_seq (W_r (R_mv rfl (R_e (W_seq_seq ?_))))
  rcases hx:pNext e ⟨0,[],0⟩ with ⟨u,s1⟩|⟨a,x⟩
  · obtain ⟨k1,_,_⟩:=pNext_inv hs0 hx
    refine pop_ok (i:=28) (by have q:=pnext_loc (m+1) e ⟨0,[],0⟩ hs0; rw [hx] at q; exact q) (evcons (@rfl V (.mp 28 (m+1) 0 0)) evnil) rfl rfl rfl rfl ?_
    refine W_reg0 (W_seq_seq (W_r (R_mv rfl (R_e (W_seq_seq ?_)))))
    obtain ⟨r,hF⟩:=pF_all k1
    have hloc:=(pF_loc (m+1) e (fuE e) (by unfold fuE; omega)).1 s1 r k1 hF
    rcases r with ⟨f,s2⟩|⟨a,x⟩
    · refine pop_ok (i:=28) hloc (evcons (@rfl V (.mp 28 (m+1) 0 0)) evnil) rfl rfl rfl rfl ?_
      refine W_r (R_sk (id:=6) (v:=fmV f) (B':=bk 1 24 3 [[iV f.op,iV f.arg,.sl (f.kids.map cF)]]) t6 rfl rfl h6 rfl rfl rfl rfl rfl (R_e ?_))
      exact rest4 e (m+1) s2 f _ (by rw [prsE,hx]; simp only [hF]) t2 t6 t7 t8 rfl rfl rfl h7 h8
    · refine pop_panH (i:=28) hloc (evcons (@rfl V (.mp 28 (m+1) 0 0)) evnil) rfl rfl rfl fun H' hH=>?_
      exact ⟨a,x,rfl,by rw [prsE,hx]; simp only [hF],t6,t7,t8,_,_,_,_,_,(hH 6 (by omega)).trans h6,(hH 7 (by omega)).trans h7,(hH 8 (by omega)).trans h8⟩
  · refine pop_panH (i:=28) (by have q:=pnext_loc (m+1) e ⟨0,[],0⟩ hs0; rw [hx] at q; exact q) (evcons (@rfl V (.mp 28 (m+1) 0 0)) evnil) rfl rfl rfl fun H' hH=>?_
    exact ⟨a,x,rfl,by rw [prsE,hx],t6,t7,t8,_,_,_,_,_,(hH 6 (by omega)).trans h6,(hH 7 (by omega)).trans h7,(hH 8 (by omega)).trans h8⟩
noncomputable def c19:Code:=match Try.f19.body with
  |some c=>c
  |_=>.skip
noncomputable def g19:Array Oper:=match sufC 3 c19 with
  | .seq (.region _ o _) _=>o
  |_=>#[]
noncomputable def op19 (k : Nat) : Oper := g19.getD k ⟨none, .assign (.const .nilIface), 0, "", #[], none⟩
noncomputable def rt19:Code:=match sufC 3 c19 with
  | .seq _ r=>r
  |_=>.skip
abbrev em19:List Nat:=[31,36,37,38,59,60,61,81,92,98]
abbrev pa19:List Nat:=[36,37,38,59,60,61,81,92,98]
theorem b19:Try.f19.body=some c19:=by kernel_rfl
theorem n19:Try.f19.ntmps=49:=by kernel_rfl
theorem pre_ok:preS Try.prog ⟨em19,[],pa19,[]⟩ 49 3 c19=some sPre:=by kernel_rfl
theorem suf_ok:sufC 3 c19=.seq (.region 6 #[op19 0,op19 1] false) rt19:=by kernel_rfl
theorem rest_ok:slim Try.prog ⟨em19,[],pa19,[]⟩ 49 rt19=some sRest:=by kernel_rfl
theorem res_ok:mapO (slimRes Try.prog 49) Try.f19.results.toList=some [.cell 6 true 3,.cell 7 false 1,.cell 8 false 1]:=by kernel_rfl
theorem inv35 (cap:Array Value) (w:World):(invoke (.fn (.func 35) cap) #[]).run Try.prog w=.ok (.enter 35 cap) w:=by
  have e: ∀ args w,(callFunc 35 args).run Try.prog w=.ok (.enter 35 args) w:=fun args w=>by
    have h2 : (Try.f35.name == "runtime.NumGoroutine") = false := by kernel_rfl
    have h1 : Try.f35.name ≠ "runtime.NumGoroutine" := by simpa using h2
    simp [callFunc,Try.func35,h1,b35,mark]
  simp [invoke,e]
theorem prs_pure (ia oa : List (List UInt8)) (src : List UInt8) (hn : ∀ k, k < ia.length → (nth ia k).length ≤ 100) (hm : ∀ k, k < oa.length → (nth oa k).length ≤ 100) :
    PureC Try.prog 19 [.agg [.sl (ia.map cS)],.agg [.sl (oa.map cS)],.str src] (.tup [fmV (prs ia oa src).1,iV (prs ia oa src).2.1,iV (prs ia oa src).2.2]):=by
  refine pure_of_calls ⟨Try.f19,Try.func19,by kernel_rfl,by kernel_rfl⟩ (by simp) (by simp) fun x cs hxH hx hr hb=>?_
  refine calls_of_wp_defers Try.func19 b19 ?_
  rw [n19]
  -- the end,where nothing is put off
  have fin: ∀ (D:List Deferred) (T:Nat→V) (a:Act) (y:Cx),Inv y→TRel D 49 y T a→Frame x y→End19 (prs ia oa src) T y.H→
      Leaves Try.prog Try.f19 a.tmps (fun e w'=> ∃ c u y,e=.returned c∧y.w=w'∧fzv true y.H 6 u=.tup [fmV (prs ia oa src).1,iV (prs ia oa src).2.1,iV (prs ia oa src).2.2]∧Inv y∧R y u c∧Frame x y) [] .returning y.w:=fun D T a y hy hT hF hE=>by
    obtain ⟨u,h1,h2⟩:=hE.res
    obtain ⟨c,h3,h4⟩:=results_run res_ok hy hT h1
    exact ⟨c,h3,c,u,y,rfl,rfl,h2,hy,h4,hF⟩
  refine W_sound_pre 3 c19 sPre pre_ok (QPre ia oa src) x x _ _ (by rw [hxH]; exact pre19 ia oa src hn hm) hx (TRel_start hr (by simp)) (Frame.refl x) _ ?_ ?_
  · intro T a y hq hy hT hF
    obtain ⟨q1,q2,t2,t3,t4,h3,h4,hE⟩:=hq
    have hE':=hE
    obtain ⟨t6,t7,t8,_,_,_⟩:=hE'
    have r6:R y (.mp 6 1 0 0) (a.eval (.tmp 6)):=by have:=hT.tmps 6; rw [t6] at this; exact this
    have r7:R y (.mp 7 1 0 0) (a.eval (.tmp 7)):=by have:=hT.tmps 7; rw [t7] at this; exact this
    have r8:R y (.mp 8 1 0 0) (a.eval (.tmp 8)):=by have:=hT.tmps 8; rw [t8] at this; exact this
    rw [suf_ok]
    refine wp_seq (wp_defer (t:=23) (g:=35) (caps:=#[.tmp 6,.tmp 7,.tmp 8]) (tys:=#[]) (by kernel_rfl) (by kernel_rfl) (by kernel_rfl) (by kernel_rfl) (by kernel_rfl) (by kernel_rfl) (by rw [hT.size]; omega) ?_)
    simp only [Exit.then]
    have hcap:(#[.tmp 6,.tmp 7,.tmp 8]:Array Operand).map a.eval=#[a.eval (.tmp 6),a.eval (.tmp 7),a.eval (.tmp 8)]:=by simp
    rw [hcap]
    have hfn:R y (.fn 35 [] [.mp 6 1 0 0,.mp 7 1 0 0,.mp 8 1 0 0]) (.func (.func 35) #[] #[a.eval (.tmp 6),a.eval (.tmp 7),a.eval (.tmp 8)]):=by
      refine .fn _ _ _ _ _ rfl rfl (fun j v h=>by simp at h) fun j v h=>?_
      match j,h with
      |0,h=>cases h; exact r6
      |1,h=>cases h; exact r7
      |2,h=>cases h; exact r8
      |n+3,h=>simp at h
    have hp:=hT.put (d:=some 23) (fun _ h=>by cases h; omega) hfn
    refine wp_mono (W_sound (D:=[⟨.fn (.func 35) #[a.eval (.tmp 6),a.eval (.tmp 7),a.eval (.tmp 8)],#[]⟩]) rt19 sRest rest_ok (QR (prsE ⟨ia,oa,src⟩)) y y (putT T (some 23) (.fn 35 [] [.mp 6 1 0 0,.mp 7 1 0 0,.mp 8 1 0 0])) _
      (rest19 ⟨ia,oa,src⟩ (by simpa using q2) t2 t3 t4 h3 h4 ⟨t6,t7,t8,hE.h6,hE.h7,hE.h8⟩) hy ⟨hp.tmps,by simp only [hT.defers],hp.size⟩ (Frame.refl y)) ?_
    have hpe:prs ia oa src=prsE ⟨ia,oa,src⟩:=by rw [prs,if_neg q1,if_neg q2]
    intro e a' w' hp'
    obtain ⟨e',T',z,he,hw,hq,hz,hT',hF'⟩:=hp'
    subst hw
    cases e with
    | ret =>
      cases he
      show Leaves _ _ _ _ a'.defers _ _
      rw [hT'.defers]
      refine leaves_cons (by simp) (inv35 _ _) ((idle35 _ _ _ _).mono ?_)
      rintro e u' w'' ⟨rfl,rfl,rfl⟩
      exact fin _ T' a' z hz hT' (hF.trans hF') (by rw [hpe]; exact hq)
    | panic l =>
      obtain ⟨c,rfl⟩:=exOf_panic he
      have hl:l=[⟨c,false,false⟩]:=by
        simp only [exOf] at he
        split at he
        · cases he; rfl
        · cases he
      subst hl
      obtain ⟨a1,x1,rfl,hr1,t6',t7',t8',u1,u2,u3,u4,u5,g6,g7,g8⟩:=hq
      show Leaves _ _ _ _ a'.defers _ _
      rw [hT'.defers]
      refine leaves_cons (by simp) (inv35 _ _) ((catch35 hz (r6.frame hy hF') (r7.frame hy hF') (r8.frame hy hF') g6 g7 g8).mono ?_)
      rintro e u' w'' ⟨rfl,rfl,y2,rfl,i2,f2,k6,k7,k8⟩
      refine fin _ T' a' y2 i2 (hT'.frame hz f2) ((hF.trans hF').trans f2) ?_
      rw [hpe,hr1]
      exact ⟨t6',t7',t8',⟨.nilsl,k6,.inr ⟨rfl,rfl⟩⟩,k7,k8⟩
    |normal=>cases he; exact hq.elim
    |exit id=>cases he; exact hq.elim
    |goto l=>cases he
    |outgrown=>cases he
  · intro e a w hne hp
    obtain ⟨e',T,y,he,hw,hq,hy,hT,hF⟩:=hp
    subst hw
    cases e with
    | ret =>
      cases he
      show Leaves _ _ _ _ a.defers _ _
      rw [hT.defers]
      exact fin _ T a y hy hT hF hq
    |normal=>exact absurd rfl hne
    |panic l=>obtain ⟨c,rfl⟩:=exOf_panic he; exact hq.elim
    |exit id=>cases he; exact hq.elim
    |goto l=>cases he
    |outgrown=>cases he
def s21:SF:=⟨38,[.tmp 6,.tmp 7],.seq (.reg [sO 3 (.box 37 1 (.t 0)),sO 4 (.box 37 1 (.t 1)),sO 5 (.box 24 3 (.t 2)),sO 6 (.mv (.c (.str []))),qI 7 0]) (.seq (.seq (.reg [qL 11 1 3,qL 12 1 4,sO 13 (.call false 34 [.t 11,.t 12]),qM 8 13]) (.seq (.reg [qM 14 8,qC 15 .neq 14 0]) (.cond (.t 15) (.seq (.reg [qM 16 8,sO 6 (.mv (.c (.str []))),qM 7 16]) (.ret)) (.skip)))) (.seq (.seq (.reg [qL 17 3 5,sO 18 (.call false 14 [.t 17]),qM 9 18]) (.seq (.reg [qM 19 9,qC 20 .neq 19 0]) (.cond (.t 20) (.seq (.reg [qM 21 9,sO 6 (.mv (.c (.str []))),qM 7 21]) (.ret)) (.skip)))) (.seq (.seq (.reg [qL 22 1 3,qL 23 1 4,qL 24 3 5,sO 25 (.call false 43 [.t 22,.t 23,.t 24]),sO 26 (.un .not (.t 25))]) (.cond (.t 26) (.seq (.reg [sO 6 (.mv (.c (.str []))),qI 7 2]) (.ret)) (.skip))) (.seq (.reg [qL 27 1 3,qL 28 1 4,sO 29 (.build [.nilsl,.nilsl,.nilp,.nilsl] [(0,1,.t 27),(1,1,.t 28)]),sO 30 (.box 94 4 (.t 29)),qM 10 30]) (.seq (.reg [qM 31 10,qL 32 3 5,sO 33 (.call true 44 [.t 31,.t 32])]) (.seq (.reg [qM 34 10,sO 35 (.nilck (.t 34)),qF 36 2 35,sO 37 (.call true 45 [.t 36]),qM 6 37,qI 7 0]) (.ret)))))))⟩
theorem s21_ok:slimF Try.prog ⟨[31,36,37,38,40,41,42,44,45,59,60,61,65,66,67,71,72,73,81,82,84,92,93,98,99,102,104],[],[],[]⟩ Try.f21=some s21:=by kernel_rfl
def r43_1:List SO:=[
 qF 7 0 5,
 ql 8 7,
 qC 9 .eql 8 2,
 qM 10 9,
 ⟨some (10,true),some 11,.fld 1 (.t 5)⟩,
 ⟨some (10,true),some 12,.load false 1 (.t 11)⟩,
 ⟨some (10,true),some 13,.fld 0 (.t 3)⟩,
 ⟨some (10,true),some 14,.load false 1 (.t 13)⟩,
 ⟨some (10,true),some 15,.len (.t 14)⟩,
 ⟨some (10,true),some 16,.bin .geq (.t 12) (.t 15)⟩,
 sO 17 (.pick (.t 10) (.t 16) (.c (.bool false))),
 qM 18 17,
 ⟨some (18,false),some 19,.fld 0 (.t 5)⟩,
 ⟨some (18,false),some 20,.load false 1 (.t 19)⟩,
 ⟨some (18,false),some 21,.bin .eql (.t 20) (.c (.int .i64 3))⟩,
 ⟨some (18,false),some 22,.mv (.t 21)⟩,
 ⟨some (22,true),some 23,.fld 1 (.t 5)⟩,
 ⟨some (22,true),some 24,.load false 1 (.t 23)⟩,
 ⟨some (22,true),some 25,.fld 0 (.t 4)⟩,
 ⟨some (22,true),some 26,.load false 1 (.t 25)⟩,
 ⟨some (22,true),some 27,.len (.t 26)⟩,
 ⟨some (22,true),some 28,.bin .geq (.t 24) (.t 27)⟩,
 ⟨some (18,false),some 29,.pick (.t 22) (.t 28) (.c (.bool false))⟩,
 sO 30 (.pick (.t 18) (.c (.bool true)) (.t 29))]
def s43:SF:=⟨36,[.tmp 6],.seq (.reg [sO 3 (.box 37 1 (.t 0)),sO 4 (.box 37 1 (.t 1)),sO 5 (.box 24 3 (.t 2)),sO 6 (.mv (.c (.bool false)))]) (.seq (.seq (.reg r43_1) (.cond (.t 30) (.seq (.reg [sO 6 (.mv (.c (.bool false)))]) (.ret)) (.skip))) (.seq (.reg [qF 31 2 5,ql 32 31,sO 33 (.mkf 70 [.t 3,.t 4]),sO 34 (.call false 69 [.t 32,.t 33]),sO 35 (.un .not (.t 34)),qM 6 35]) (.ret)))⟩
theorem s43_ok:slimF Try.prog ⟨[31,36,37,38,40,41,42,44,45,59,60,61,65,66,67,71,72,73,81,82,84,92,93,98,99,102,104],[],[],[]⟩ Try.f43=some s43:=by kernel_rfl
def s69:SF:=⟨9,[.tmp 4],.seq (.reg [sO 4 (.mv (.c (.bool false)))]) (.seq (.reg [qM 5 0,qM 6 1,sO 7 (.call false 83 [.t 5,.t 6]),qC 8 .geq 7 0,qM 4 8]) (.ret))⟩
theorem s69_ok:slimF Try.prog ⟨[31,36,37,38,40,41,42,44,45,59,60,61,65,66,67,71,72,73,81,82,84,92,93,98,99,102,104],[],[],[]⟩ Try.f69=some s69:=by kernel_rfl
def b83_0:SC:=.seq (.reg [qP 9 .lss 8 7]) (.seq (.cond (.t 9) (.skip) (.exit 0)) (.seq (.block 1 (.seq (.reg [qM 10 8,qM 5 10]) (.seq (.reg [qM 11 1,qM 12 0,qM 13 5,qA 14 3 12 13,qL 15 3 14,sO 16 (.callv false (.t 11) [.t 15])]) (.cond (.t 16) (.seq (.reg [qM 17 5,qM 4 17]) (.ret)) (.skip))))) (.reg [qC 18 .add 8 1,qM 8 18])))
def s83:SF:=⟨19,[.tmp 4],.seq (.reg [qI 4 0]) (.seq (.seq (.reg [qM 6 0,qN 7 6,qI 8 0]) (.block 0 (.loop b83_0))) (.seq (.reg [sO 4 (.mv (.c (.int .i64 (-1))))]) (.ret)))⟩
theorem s83_ok:slimF Try.prog ⟨[31,36,37,38,40,41,42,44,45,59,60,61,65,66,67,71,72,73,81,82,84,92,93,98,99,102,104],[],[],[]⟩ Try.f83=some s83:=by kernel_rfl
theorem idxf_pure (p:Fm→Bool) (w:List Fm) (g:Nat) (caps:List V) (hca:canonL caps=true) (hpu:pureL caps=true) (hq: ∀ k,k < w.length→PureC Try.prog g (V.agg [iV (nth w k).op,iV (nth w k).arg,V.sl (List.map cF (nth w k).kids)]::caps) (.bool (p (nth w k)))):PureC Try.prog 83 [(V.sl (List.map cF (w))),(V.fn g [] caps)] (iV (fi (fun jx=>p (nth w jx)) 0 w.length)):=by
 refine pure_of_Wb true 6 Try.func83 s83_ok (by kernel_rfl) (by simp [s83]) (by simp [hpu]) (by simp) fun hB=>?_
 simp only [bnd_map,bnd_int,bnd_bool,bnd_str,bnd_agg,bnd_pp,bnd_nil,bnd_cons,implies_true,and_true,true_and] at hB
 unfold s83
 dsimp only
 refine W_r (R_mv rfl (R_e (W_seq_seq (W_r (R_mv rfl (R_len rfl (R_mv rfl ?_)))))))
 refine R_e (W_seq_blockg fun Q1 n1 x1 y1 z1=>?_)
 refine W_loop (fun mm T H=> ∃ (k:Nat),mm=w.length - k∧T 0=(V.sl (List.map cF (w)))∧T 1=(V.fn g [] caps)∧T 7=(iV ((w.length:Nat):Int))∧T 8=(iV ((k:Nat):Int))∧(k≤w.length)∧(fi (fun j=>p (nth w j)) 0 w.length=fi (fun j=>p (nth w j)) k (w.length - k))) ?_ ?_
 ·
  refine ⟨_,0,rfl,rfl,rfl,rfl,(Eq.trans (@rfl V (iV (0:Int))) rfl),?_,?_⟩
  · omega
  · rfl
 intro mm T H ⟨k,hmm,t0,t1,t7,t8,hk,hc⟩ Q2 p12 p22 p32
 unfold b83_0
 refine W_r (R_lss t8 t7 (R_e ?_))
 refine W_seq_if rfl (fun c3=>?_) fun c3=>?_
 ·
  refine W_seq_skip (W_seq_blockg fun Q4 n4 x4 y4 z4=>(W_r (R_mv t8 (R_mv rfl (R_e (W_r (R_mv t1 ?_)))))))
  refine R_mv t0 (R_mv rfl (R_idxu (i:=k) (@rfl V (V.sl (List.map cF (w)))) (@rfl V (iV ((k:Nat):Int))) (by omega) (cF_eq _) rfl (R_load_pp rfl rfl (R_callv (@rfl V (V.fn g [] caps)) (evcons (@rfl V (V.agg [(iV (((nth (w) (k))).op)),(iV (((nth (w) (k))).arg)),(V.sl (List.map cF (((nth (w) (k))).kids)))])) evnil) (hq k (by omega)) (fzv_mapcanon _ _ (by simp [hca])) (by simp [hpu]) (Or.inl (by simp [hpu])) (R_e ?_)))))
  refine W_ifb rfl (fun c5=>?_) (fun c5=>?_)
  ·
   have d1:=c5
   refine W_r (R_mv rfl (R_mv rfl (R_e (W_ret (y4 _ _ (p22 _ _ (y1 _ _ ?_)))))))
   refine Ret_1 (@rfl V (iV ((k:Nat):Int))) (fz_int ?_)
   · rw [hc,fi_hit (by exact d1) (by omega)]
  have d1:=c5
  refine W_skip (n4 _ _ (.done (W_t (R_addN t8 (@rfl V (iV ((1:Nat):Int))) (by omega) (R_mv rfl (R_e ?_))))))
  refine p12 _ _ _ ?_ ⟨(k+1),rfl,t0,t1,t7,(Eq.trans (@rfl V (iV ((k+1:Nat):Int))) (by rfl)),?_,?_⟩
  · omega
  · omega
  · rw [hc,fi_skip (by exact d1) (by omega)]
 refine W_seq_exit (p32 _ _ _ (x1 _ _ (.done (W_r (R_mv rfl (R_e (W_ret ?_)))))))
 refine Ret_1 (@rfl V (iV (-1:Int))) (fz_int ?_)
 · rw [hc,fi_end (by omega)]
theorem conf_pure (p:Fm→Bool) (w:List Fm) (g:Nat) (caps:List V) (hca:canonL caps=true) (hpu:pureL caps=true) (hq: ∀ k,k < w.length→PureC Try.prog g (V.agg [iV (nth w k).op,iV (nth w k).arg,V.sl (List.map cF (nth w k).kids)]::caps) (.bool (p (nth w k)))):PureC Try.prog 69 [(V.sl (List.map cF (w))),(V.fn g [] caps)] (V.bool (decide (0≤fi (fun jx=>p (nth w jx)) 0 w.length))):=by
 refine pure_of_Wb true 6 Try.func69 s69_ok (by kernel_rfl) (by simp [s69]) (by simp [hpu]) (by simp) fun hB=>?_
 simp only [bnd_map,bnd_int,bnd_bool,bnd_str,bnd_agg,bnd_pp,bnd_nil,bnd_cons,implies_true,and_true,true_and] at hB
 unfold s69
 dsimp only
 refine W_r (R_mv rfl (R_e (W_r (R_mv rfl (R_mv rfl (R_call (evcons (@rfl V (V.sl (List.map cF (w)))) (evcons (@rfl V (V.fn g [] caps)) evnil)) (idxf_pure p w g caps hca hpu hq) (fzv_mapcanon _ _ (by simp [hca,hpu,-List.map_take,-List.map_drop,-List.map_append,-List.map_reverse])) (by simp [hca,hpu,-List.map_take,-List.map_drop,-List.map_append,-List.map_reverse]) (Or.inl (by simp [hca,hpu,-List.map_take,-List.map_drop,-List.map_append,-List.map_reverse])) (R_geq rfl rfl ?_)))))))
 refine R_mv rfl (R_e (W_ret ?_))
 refine Ret_1 (@rfl V (V.bool (decide ((0:Int)≤(fi (fun jx=>p (nth w jx)) 0 w.length))))) (fz_bool ?_)
 · first|rfl|omega|simp_all
def s70:SF:=⟨10,[.tmp 4],.seq (.reg [sO 3 (.box 24 3 (.t 0)),sO 4 (.mv (.c (.bool false)))]) (.seq (.reg [qL 5 1 1,qL 6 1 2,qL 7 3 3,sO 8 (.call false 43 [.t 5,.t 6,.t 7]),sO 9 (.un .not (.t 8)),qM 4 9]) (.ret))⟩
theorem s70_ok:slimF Try.prog ⟨[31,36,37,38,40,41,42,44,45,59,60,61,65,66,67,71,72,73,81,82,84,92,93,98,99,102,104],[],[],[]⟩ Try.f70=some s70:=by kernel_rfl
theorem named1_pure (f:Fm) (ia oa:List (List UInt8)) (hq:PureC Try.prog 43 [(V.agg [(V.sl (List.map cS (ia)))]),(V.agg [(V.sl (List.map cS (oa)))]),(V.agg [(iV (f.op)),(iV (f.arg)),(V.sl (List.map cF (f.kids)))])] (V.bool (nmd ((ia.length:Nat):Int) ((oa.length:Nat):Int) f))):PureC Try.prog 70 [(V.agg [(iV (f.op)),(iV (f.arg)),(V.sl (List.map cF (f.kids)))]),(V.pp [(V.sl (List.map cS (ia)))]),(V.pp [(V.sl (List.map cS (oa)))])] (V.bool (!(nmd ((ia.length:Nat):Int) ((oa.length:Nat):Int) f))):=by
 refine pW Try.func70 s70_ok fun hB=>?_
 unfold s70
 dsimp only
 refine W_r (R_box (i:=3) (n:=0) (m:=3) (cs:=[(iV (f.op)),(iV (f.arg)),(V.sl (List.map cF (f.kids)))]) rfl (congrArg Blk.ver rfl) rfl rfl rfl (R_mv rfl (R_e (W_r (R_load_pp rfl rfl (R_load_pp rfl rfl (R_lk rfl rfl rfl rfl ?_)))))))
 refine R_callc (evcons rfl (evcons rfl (evcons rfl evnil))) (hq) (R_notb rfl (R_mv rfl (R_e (W_ret ?_))))
 refine Ret_1 (@rfl V (V.bool ((!nmd ((ia.length:Nat):Int) ((oa.length:Nat):Int) f)))) (fz_bool ?_)
 · rfl
theorem named_pure_step (ia oa:List (List UInt8)) (f:Fm) (ih: ∀ (ia oa:List (List UInt8)) (g:Fm),g.sz < f.sz→PureC Try.prog 43 [(V.agg [(V.sl (List.map cS (ia)))]),(V.agg [(V.sl (List.map cS (oa)))]),(V.agg [(iV (g.op)),(iV (g.arg)),(V.sl (List.map cF (g.kids)))])] (V.bool (nmd ((ia.length:Nat):Int) ((oa.length:Nat):Int) g))):PureC Try.prog 43 [(V.agg [(V.sl (List.map cS (ia)))]),(V.agg [(V.sl (List.map cS (oa)))]),(V.agg [(iV (f.op)),(iV (f.arg)),(V.sl (List.map cF (f.kids)))])] (V.bool (nmd ((ia.length:Nat):Int) ((oa.length:Nat):Int) f)):=by
 refine pW Try.func43 s43_ok fun hB=>?_
 unfold s43
 dsimp only
 refine W_r (R_box (i:=3) (n:=0) (m:=1) (cs:=[(V.sl (List.map cS (ia)))]) rfl (congrArg Blk.ver rfl) rfl rfl rfl (R_box (i:=4) (n:=0) (m:=1) (cs:=[(V.sl (List.map cS (oa)))]) rfl (congrArg Blk.ver rfl) rfl rfl rfl (R_box (i:=5) (n:=0) (m:=3) (cs:=[(iV (f.op)),(iV (f.arg)),(V.sl (List.map cF (f.kids)))]) rfl (congrArg Blk.ver rfl) rfl rfl rfl (R_mv rfl (R_e (W_seq_seq (W_r ?_)))))))
 refine R_fk rfl rfl (R_lk rfl rfl rfl rfl (R_eql rfl rfl (R_mv rfl ?_)))
 refine Ops_seg 7 (fun T H=>T 3=(V.mp 3 1 0 0)∧T 4=(V.mp 4 1 0 0)∧T 5=(V.mp 5 1 0 0)∧T 17=(V.bool (decide (((f.op)=(2:Int))∧(((ia.length:Nat):Int)≤(f.arg)))))∧H 3=(bk 1 37 1 [[(V.sl (List.map cS (ia)))]])∧H 4=(bk 1 37 1 [[(V.sl (List.map cS (oa)))]])∧H 5=(bk 1 24 3 [[(iV (f.op)),(iV (f.arg)),(V.sl (List.map cF (f.kids)))]])∧True) ?_ ?_
 ·
  by_cases g1:(f.op)=(2:Int)
  ·
   refine G_yes (edT g1 rfl) (R_fk rfl rfl (G_yes (edT g1 rfl) (R_lk rfl rfl rfl rfl (G_yes (edT g1 rfl) (R_fk rfl rfl (G_yes (edT g1 rfl) (R_lk rfl rfl rfl rfl ?_)))))))
   refine G_yes (edT g1 rfl) (R_len rfl (G_yes (edT g1 rfl) (R_geq rfl rfl (R_pickT (edT g1 rfl) rfl ?_))))
   exact ⟨rfl,rfl,rfl,(dec_andT g1),rfl,rfl,rfl,trivial⟩
  ·
   refine G_n (edF g1 rfl) (G_n (edF g1 rfl) (G_n (edF g1 rfl) (G_n (edF g1 rfl) (G_n (edF g1 rfl) (G_n (edF g1 rfl) (R_pickF (edF g1 rfl) rfl ?_))))))
   exact ⟨rfl,rfl,rfl,(dec_andF g1),rfl,rfl,rfl,trivial⟩
 intro T H ⟨t3,t4,t5,t17,h3,h4,h5,_⟩
 refine R_mv t17 ?_
 refine Ops_seg 12 (fun T H=>T 3=(V.mp 3 1 0 0)∧T 4=(V.mp 4 1 0 0)∧T 5=(V.mp 5 1 0 0)∧T 30=(V.bool (decide ((((f.op)=(2:Int))∧(((ia.length:Nat):Int)≤(f.arg)))∨(((f.op)=(3:Int))∧(((oa.length:Nat):Int)≤(f.arg))))))∧H 3=(bk 1 37 1 [[(V.sl (List.map cS (ia)))]])∧H 4=(bk 1 37 1 [[(V.sl (List.map cS (oa)))]])∧H 5=(bk 1 24 3 [[(iV (f.op)),(iV (f.arg)),(V.sl (List.map cF (f.kids)))]])∧True) ?_ ?_
 ·
  by_cases g2:((f.op)=(2:Int))∧(((ia.length:Nat):Int)≤(f.arg))
  ·
   refine G_n (edT g2 rfl) (G_n (edT g2 rfl) (G_n (edT g2 rfl) (G_n (edT g2 rfl) (G_raw (@rfl V (V.raw undef)) (G_raw (@rfl V (V.raw undef)) (G_raw (@rfl V (V.raw undef)) (G_raw (@rfl V (V.raw undef)) ?_)))))))
   refine G_raw (@rfl V (V.raw undef)) (G_raw (@rfl V (V.raw undef)) (G_n (edT g2 rfl) (R_pickT (edT g2 rfl) rfl ?_)))
   exact ⟨t3,t4,t5,(dec_orT g2),h3,h4,h5,trivial⟩
  ·
   refine G_yes (edF g2 rfl) (R_fk t5 h5 (G_yes (edF g2 rfl) (R_lk rfl h5 rfl rfl (G_yes (edF g2 rfl) (R_eql rfl rfl (G_yes (edF g2 rfl) (R_mv rfl ?_)))))))
   refine Ops_seg 7 (fun T H=>T 3=(V.mp 3 1 0 0)∧T 4=(V.mp 4 1 0 0)∧T 5=(V.mp 5 1 0 0)∧T 18=(V.bool false)∧T 29=(V.bool (decide (((f.op)=(3:Int))∧(((oa.length:Nat):Int)≤(f.arg)))))∧H 3=(bk 1 37 1 [[(V.sl (List.map cS (ia)))]])∧H 4=(bk 1 37 1 [[(V.sl (List.map cS (oa)))]])∧H 5=(bk 1 24 3 [[(iV (f.op)),(iV (f.arg)),(V.sl (List.map cF (f.kids)))]])∧True) ?_ ?_
   ·
    by_cases g3:(f.op)=(3:Int)
    ·
     refine G_yes (edT g3 rfl) (R_fk t5 h5 (G_yes (edT g3 rfl) (R_lk rfl h5 rfl rfl (G_yes (edT g3 rfl) (R_fk t4 h4 (G_yes (edT g3 rfl) (R_lk rfl h4 rfl rfl ?_)))))))
     refine G_yes (edT g3 rfl) (R_len rfl (G_yes (edT g3 rfl) (R_geq rfl rfl (G_yes (edF g2 rfl) (R_pickT (edT g3 rfl) rfl ?_)))))
     exact ⟨t3,t4,t5,(edF g2 rfl),(dec_andT g3),h3,h4,h5,trivial⟩
    ·
     refine G_n (edF g3 rfl) (G_n (edF g3 rfl) (G_n (edF g3 rfl) (G_n (edF g3 rfl) (G_n (edF g3 rfl) (G_n (edF g3 rfl) (G_yes (edF g2 rfl) (R_pickF (edF g3 rfl) rfl ?_)))))))
     exact ⟨t3,t4,t5,(edF g2 rfl),(dec_andF g3),h3,h4,h5,trivial⟩
   intro T H ⟨t3,t4,t5,t18,t29,h3,h4,h5,_⟩
   refine R_pickF t18 t29 ?_
   exact ⟨t3,t4,t5,(dec_orF g2),h3,h4,h5,trivial⟩
 intro T H ⟨t3,t4,t5,t30,h3,h4,h5,_⟩
 refine R_e ?_
 refine W_seq_if t30 (fun c4=>?_) fun c4=>?_
 ·
  refine W_seq_seq (W_r (R_mv rfl (R_e (W_seq_ret ?_))))
  refine Ret_1 (@rfl V (V.bool false)) (fz_bool ?_)
  · exact (nmd_no (by omega)).symm
 refine W_seq_skip (W_r (R_fk t5 h5 (R_lk rfl h5 rfl rfl (R_mkf (evcons t3 (evcons t4 evnil)) (R_call (evcons (@rfl V (V.sl (List.map cF (f.kids)))) (evcons (@rfl V (V.fn 70 [] [(V.mp 3 1 0 0),(V.mp 4 1 0 0)])) evnil)) (conf_pure (fun g=> !(nmd ((ia.length:Nat):Int) ((oa.length:Nat):Int) g)) f.kids 70 ([(V.pp [(V.sl (List.map cS (ia)))]),(V.pp [(V.sl (List.map cS (oa)))])]) (by simp) (by simp) (fun k hk=>named1_pure (nth f.kids k) ia oa (ih ia oa (nth f.kids k) (Fm.sz_kid hk)))) (mcons (fzv_canon 6 _ (by simp [-List.map_take,-List.map_drop,-List.map_append,-List.map_reverse])) (mcons (by simp [fzv,Blk.own,h3,h4,h5]) rfl)) (by simp [-List.map_take,-List.map_drop,-List.map_append,-List.map_reverse]) (Or.inr rfl) (R_not rfl (R_mv rfl ?_)))))))
 refine R_e (W_ret ?_)
 refine Ret_1 (@rfl V (V.bool (decide (¬(0≤fi (fun jx=>(fun g=> !(nmd ((ia.length:Nat):Int) ((oa.length:Nat):Int) g)) (nth f.kids jx)) 0 f.kids.length))))) (fz_bool ?_)
 · rw [nmd_go (by omega),decide_not]; exact fi_all (p:=nmd ((ia.length:Nat):Int) ((oa.length:Nat):Int))
theorem named_pure (ia oa:List (List UInt8)) (f:Fm):PureC Try.prog 43 [(V.agg [(V.sl (List.map cS (ia)))]),(V.agg [(V.sl (List.map cS (oa)))]),(V.agg [(iV (f.op)),(iV (f.arg)),(V.sl (List.map cF (f.kids)))])] (V.bool (nmd ((ia.length:Nat):Int) ((oa.length:Nat):Int) f)):=by
  have key: ∀ (mm:Nat) (ia oa:List (List UInt8)) (f:Fm),f.sz < mm→PureC Try.prog 43 [(V.agg [(V.sl (List.map cS (ia)))]),(V.agg [(V.sl (List.map cS (oa)))]),(V.agg [(iV (f.op)),(iV (f.arg)),(V.sl (List.map cF (f.kids)))])] (V.bool (nmd ((ia.length:Nat):Int) ((oa.length:Nat):Int) f)):=by
    intro mm
    induction mm with
    |zero=>intro ia oa f hlt; exact absurd hlt (Nat.not_lt_zero _)
    | succ mm ih =>
      intro ia oa f hlt
      exact named_pure_step ia oa f fun ia2 oa2 f2 hlt2=>ih ia2 oa2 f2 (by omega)
  exact key (f.sz+1) ia oa f (Nat.lt_succ_self _)
def r44_5:List SO:=[
 qM 14 0,
 sO 15 (.nilck (.t 14)),
 qF 16 2 15,
 qM 17 0,
 sO 18 (.nilck (.t 17)),
 qF 19 0 18,
 qF 20 0 19,
 ql 21 20,
 qF 22 1 3,
 ql 23 22,
 qA 24 1 21 23,
 ql 25 24,
 sO 26 (.sbin .add (.c (.str [105,110,58])) (.t 25)),
 sO 27 (.call true 71 [.t 16,.t 26])]
def r44_7:List SO:=[
 qM 30 0,
 sO 31 (.nilck (.t 30)),
 qF 32 2 31,
 qM 33 0,
 sO 34 (.nilck (.t 33)),
 qF 35 1 34,
 qF 36 0 35,
 ql 37 36,
 qF 38 1 3,
 ql 39 38,
 qA 40 1 37 39,
 ql 41 40,
 sO 42 (.sbin .add (.c (.str [111,117,116,58])) (.t 41)),
 sO 43 (.call true 71 [.t 32,.t 42])]
def s44:SF:=⟨128,[],.seq (.reg [sO 3 (.box 24 3 (.t 1))]) (.seq (.reg [qF 4 0 3,ql 5 4]) (.block 0 (.seq (.reg [qC 7 .eql 5 1,qM 6 7]) (.cond (.t 6) (.reg [qM 8 0,sO 9 (.nilck (.t 8)),qF 10 2 9,sO 11 (.call true 71 [.t 10,.c (.str [116,114,117,101])])]) (.seq (.reg [qC 13 .eql 5 2,qM 12 13]) (.cond (.t 12) (.reg r44_5) (.seq (.reg [qC 29 .eql 5 3,qM 28 29]) (.cond (.t 28) (.reg r44_7) (.seq (.reg [qC 45 .eql 5 4,qM 44 45]) (.cond (.t 44) (.seq (.reg [qM 46 0,sO 47 (.nilck (.t 46)),qF 48 2 47,sO 49 (.call true 71 [.t 48,.c (.str [33])])]) (.reg [qM 50 0,qF 51 2 3,ql 52 51,sO 53 (.idx 3 (.t 52) (.c (.int .i64 0))),qL 54 3 53,sO 55 (.call true 72 [.t 50,.t 54,.c (.int .i64 4)])])) (.seq (.reg [qC 57 .eql 5 7,qM 56 57]) (.cond (.t 56) (.seq (.reg [qM 58 0,sO 59 (.nilck (.t 58)),qF 60 2 59,sO 61 (.call true 71 [.t 60,.c (.str [88,32])])]) (.reg [qM 62 0,qF 63 2 3,ql 64 63,sO 65 (.idx 3 (.t 64) (.c (.int .i64 0))),qL 66 3 65,sO 67 (.call true 72 [.t 62,.t 66,.c (.int .i64 4)])])) (.seq (.reg [qC 69 .eql 5 9,qM 68 69]) (.cond (.t 68) (.seq (.reg [qM 70 0,sO 71 (.nilck (.t 70)),qF 72 2 71,sO 73 (.call true 71 [.t 72,.c (.str [78,32])])]) (.reg [qM 74 0,qF 75 2 3,ql 76 75,sO 77 (.idx 3 (.t 76) (.c (.int .i64 0))),qL 78 3 77,sO 79 (.call true 72 [.t 74,.t 78,.c (.int .i64 4)])])) (.seq (.reg [qC 81 .eql 5 6,qM 80 81]) (.cond (.t 80) (.reg [qM 82 0,qF 83 2 3,ql 84 83,sO 85 (.call true 73 [.t 82,.t 84,.c (.str [32,124,32]),.c (.int .i64 2)])]) (.seq (.reg [qC 87 .eql 5 5,qM 86 87]) (.cond (.t 86) (.reg [qM 88 0,qF 89 2 3,ql 90 89,sO 91 (.call true 73 [.t 88,.t 90,.c (.str [32,38,32]),.c (.int .i64 3)])]) (.seq (.reg [qC 93 .eql 5 8,qM 92 93]) (.cond (.t 92) (.seq (.reg [qM 94 0,qF 95 2 3,ql 96 95,sO 97 (.idx 3 (.t 96) (.c (.int .i64 0))),qL 98 3 97,sO 99 (.call true 72 [.t 94,.t 98,.c (.int .i64 4)])]) (.seq (.reg [qM 100 0,sO 101 (.nilck (.t 100)),qF 102 2 101,sO 103 (.call true 71 [.t 102,.c (.str [32,85,32])])]) (.reg [qM 104 0,qF 105 2 3,ql 106 105,sO 107 (.idx 3 (.t 106) (.c (.int .i64 1))),qL 108 3 107,sO 109 (.call true 72 [.t 104,.t 108,.c (.int .i64 3)])]))) (.seq (.reg [qC 111 .eql 5 10,qM 110 111]) (.cond (.t 110) (.seq (.reg [qM 112 0,qF 113 2 3,ql 114 113,sO 115 (.idx 3 (.t 114) (.c (.int .i64 0))),qL 116 3 115,sO 117 (.call true 72 [.t 112,.t 116,.c (.int .i64 4)])]) (.seq (.reg [qM 118 0,sO 119 (.nilck (.t 118)),qF 120 2 119,sO 121 (.call true 71 [.t 120,.c (.str [32,82,32])])]) (.reg [qM 122 0,qF 123 2 3,ql 124 123,sO 125 (.idx 3 (.t 124) (.c (.int .i64 1))),qL 126 3 125,sO 127 (.call true 72 [.t 122,.t 126,.c (.int .i64 3)])]))) (.skip)))))))))))))))))))))))⟩
theorem s44_ok:slimF Try.prog ⟨[31,36,37,38,40,41,42,44,45,59,60,61,65,66,67,71,72,73,81,82,84,92,93,98,99,102,104],[],[],[]⟩ Try.f44=some s44:=by kernel_rfl
def r71_2:List SO:=[
 qM 8 0,
 qM 9 0,
 sO 10 (.nilck (.t 9)),
 qF 11 1 10,
 ql 12 11,
 qM 13 1,
 sO 14 (.append 5 1 1 (.t 12) (.t 13)),
 sO 15 (.nilck (.t 8)),
 qF 16 1 15,
 sN (.store 1 (.t 16) (.t 14))]
def s71:SF:=⟨19,[.tmp 4,.tmp 5],.seq (.reg [qI 4 0,sO 5 (.mv (.c (.raw .nilIface)))]) (.seq (.reg [qM 6 0,sO 7 (.call true 84 [.t 6])]) (.seq (.reg r71_2) (.seq (.reg [qM 17 1,sO 18 (.slen (.t 17)),qM 4 18,sO 5 (.mv (.c (.raw .nilIface)))]) (.ret))))⟩
theorem s71_ok:slimF Try.prog ⟨[31,36,37,38,40,41,42,44,45,59,60,61,65,66,67,71,72,73,81,82,84,92,93,98,99,102,104],[],[],[]⟩ Try.f71=some s71:=by kernel_rfl
theorem bu89:Try.prog.underlying 89=some (.pointer 92):=by kernel_rfl
theorem bu129:Try.prog.underlying 129=some .unsafePointer:=by kernel_rfl
theorem bi92:(Try.prog.info? 92).map (·.size)=some 2:=by kernel_rfl
theorem blies1:(fun n:Nat=>liesAt Try.prog Try.prog.depth 94 (n+1) 2 92 1)=fun _=>true:=by kernel_rfl
theorem bcells:Try.prog.cellsOf 94=4:=by kernel_rfl
theorem blies {m:Nat} (h:4≤m):liesAt Try.prog Try.prog.depth 94 (m / Try.prog.cellsOf 94) 2 92 1=true:=by
  rw [bcells]
  obtain ⟨n,hn⟩: ∃ n,m / 4=n+1:=⟨m / 4 - 1,by omega⟩
  rw [hn]; exact congrFun blies1 n
set_option maxHeartbeats 1000000 in
set_option maxRecDepth 100000 in
theorem copy_used (b:Nat) (w:World) (h0:w.cell? ⟨b,2,none⟩=some (.pointer (some ⟨b,2,none⟩))):
    Calls Try.prog 84 #[.pointer (some ⟨b,2,none⟩)] w fun e w'=>e=.returned (.tuple #[])∧w'=w:=by
  obtain ⟨j,hj,_⟩:=Option.map_eq_some_iff.1 bi92
  go_enter Try.func84,Try.ntmps84
  go_wp2
  rw [Lib.run_neq_ptr_same w _ bu89 hj]
  go_wp2
  go_end0
  exact ⟨rfl,rfl⟩
set_option maxHeartbeats 1000000 in
set_option maxRecDepth 100000 in
theorem copy_fresh (b m:Nat) (w:World) (hm:4≤m) (h0:w.cell? ⟨b,2,none⟩=some (.pointer none)) (hsh:w.shape? b=some (94,m)) (hfz:w.frozen? ⟨b,2,none⟩=false):
    Calls Try.prog 84 #[.pointer (some ⟨b,2,none⟩)] w fun e w'=>e=.returned (.tuple #[])∧w'=w.setCell ⟨b,2,none⟩ (.pointer (some ⟨b,2,none⟩)):=by
  obtain ⟨j,hj,hjs⟩:=Option.map_eq_some_iff.1 bi92
  go_enter Try.func84,Try.ntmps84
  go_wp2
  rw [Lib.run_to_unsafe w ⟨b,2,none⟩ bu89 bu129 hj (by rw [hjs]; decide) hsh (by show 2 < m; omega)]
  simp only [Result.andThen]
  rw [Oper.upon_value]
  go_wp2
  rw [run_callFunc_extern Try.func94 (by kernel_rfl) (by kernel_rfl) (by kernel_rfl) (e:=Extern.AbiNoEscape.same) (by kernel_rfl)]
  rw [Lib.run_noEscape]
  simp only [Result.andThen]
  rw [Oper.upon_value]
  go_wp2
  rw [Lib.run_from_unsafe w ⟨b,2,none⟩ bu129 bu89 hj hsh (blies hm)]
  simp only [Result.andThen]
  rw [Oper.upon_value]
  go_wp2
  go_end0
  exact ⟨rfl,rfl⟩
theorem putL_self {ρ:Nat→Nat} {HL H:Heap}: ∀ {n:Nat},(∀ i,i < n→H (ρ i)=renB ρ (HL i))→putL ρ HL H n=H
  |0,_=>rfl
  | n + 1, h => by
    simp only [putL]
    rw [putL_self fun i hi=>h i (by omega)]
    funext j
    by_cases q:j=ρ n
    · subst q; rw [upd_same,h n (by omega)]
    · rw [upd_ne _ _ q]
theorem szOf89:szOf Try.prog 89=some 1:=by kernel_rfl
theorem copy_loc (v : Nat) (i o a buf : V) (B : Blk) (ha : a = .nilp ∨ a = .mp 0 v 0 2) : LocC Try.prog 84 2 [.mp 0 v 0 2] (hpB2 (bk v 94 4 [[i, o, a, buf]]) B) (.ok (.tup []) (hpB2 (bk v 94 4 [[i, o, .mp 0 v 0 2, buf]]) B)) := by
  intro H ρ hρ hH
  refine ⟨⟨_,Try.func84,by kernel_rfl,by kernel_rfl⟩,fun x cs hxH hx hr=>?_⟩
  subst hxH
  have h0:x.H (ρ 0)=bk v 94 4 [[ren0 ρ i,ren0 ρ o,ren0 ρ a,ren0 ρ buf]]:=hH 0 (by omega)
  have h1:x.H (ρ 1)=renB ρ B:=hH 1 (by omega)
  have ho:(x.H (ρ 0)).own=true:=by rw [h0]; rfl
  obtain ⟨cc,g1,g2,g3,g4⟩:=hx.blk (ρ 0) ho
  have hty:(x.H (ρ 0)).ty=94:=by rw [h0]
  have hsz:(x.H (ρ 0)).sz=4:=by rw [h0]
  rw [hty] at g1
  have hcs:4≤cc.size:=by rw [h0] at g3; simpa using g3
  have hrows:(x.H (ρ 0)).rows[0]?=some [ren0 ρ i,ren0 ρ o,ren0 ρ a,ren0 ρ buf]:=by rw [h0]; rfl
  have c2:=g4 0 _ 2 _ hrows rfl
  rw [hsz] at c2
  have hcell:x.w.cell? ⟨x.σ (ρ 0),2,none⟩=some (cc.getD 2 undef):=own_cell g1 (by omega)
  obtain ⟨hlen,hr⟩:=hr
  match cs,hlen with
  | [c1], _ =>
    have r0:R x (.mp (ρ 0) v 0 2) c1:=hr 0 _ rfl
    have r0':=r0
    cases r0 with
    | mp _ _ _ _ p hv' hh =>
      have hp:=hh (by rw [h0]) ho
      rw [hsz] at hp
      simp only [Nat.zero_mul,Nat.zero_add] at hp
      subst hp
      rcases ha with rfl|rfl
      · -- never written yet
        have e2:cc.getD 2 undef=.pointer none:=by
          have c2:R x .nilp (cc.getD 2 undef):=c2
          generalize cc.getD 2 undef=q at c2
          cases c2; rfl
        rw [e2] at hcell
        have hfz:x.w.frozen? ⟨x.σ (ρ 0),2,none⟩=false:=Lib.frozen_of_heap (by exact g1) 2
        have hst:stP x.H 1 (V.mp (ρ 0) v 0 2).cells (.mp (ρ 0) v 0 2)=some (upd x.H (ρ 0) (bk v 94 4 [[ren0 ρ i,ren0 ρ o,.mp (ρ 0) v 0 2,ren0 ρ buf]])):=by
          simp [stP,ok,h0,V.cells,V.one,Blk.own,putAt]
        obtain ⟨y,y1,y2,y3,y4⟩:=store_run (P:=Try.prog) hx hst r0' r0' szOf89
        have hrun:(Instr.storeAt 89 (.pointer (some ⟨x.σ (ρ 0),2,none⟩)) (.pointer (some ⟨x.σ (ρ 0),2,none⟩))).run Try.prog x.w=.ok () (x.w.setCell ⟨x.σ (ρ 0),2,none⟩ (.pointer (some ⟨x.σ (ρ 0),2,none⟩))):=by
          simp [go_sem,hcell,hfz]
        rw [hrun] at y1
        injection y1 with _ y1
        refine (copy_fresh (x.σ (ρ 0)) cc.size x.w hcs hcell (by simp [World.shape?,g1]) hfz).mono fun e w' h=>?_
        obtain ⟨rfl,rfl⟩:=h
        refine ⟨_,y,rfl,y1.symm,?_,y3,.tup [] #[] rfl (fun j v h=>by simp at h),y4⟩
        rw [y2]
        funext j
        simp only [putL]
        by_cases q1:j=ρ 1
        · subst q1
          rw [upd_same,upd_ne _ _ (fun q=>absurd (hρ 1 0 (by omega) (by omega) q) (by omega)),h1]
          rfl
        · rw [upd_ne _ _ q1]
          rfl
      · -- written before
        have e2:cc.getD 2 undef=.pointer (some ⟨x.σ (ρ 0),2,none⟩):=by
          have c2:R x (.mp (ρ 0) v 0 2) (cc.getD 2 undef):=c2
          generalize cc.getD 2 undef=q at c2
          cases c2 with
          | mp _ _ _ _ p hv hh =>
            have:=hh (by rw [h0]) ho
            rw [hsz] at this
            rw [this]
        rw [e2] at hcell
        refine (copy_used (x.σ (ρ 0)) x.w hcell).mono fun e w' h=>?_
        obtain ⟨rfl,rfl⟩:=h
        exact ⟨_,x,rfl,rfl,(putL_self fun i hi=>by
          have:i=0∨i=1:=by omega
          rcases this with rfl|rfl
          · exact h0
          · exact h1).symm,hx,.tup [] #[] rfl (fun j v h=>by simp at h),Frame.refl x⟩
theorem wstr_loc (v u:Nat) (ia oa:List (List UInt8)) (a:V) (l m:List UInt8) (ha:a=.nilp∨a=.mp 0 v 0 2) (hl:l.length+m.length≤4294967296):LocC Try.prog 71 2 [(V.mp 0 v 0 2),(V.str m)] (hpB2 (bk v 94 4 [[(V.sl (List.map cS (ia))),(V.sl (List.map cS (oa))),(a),(V.ms 1 u 0 (List.length (l)))]]) (bz u 5 1 (List.map bB (l)))) (.ok (.tup [iV (m.length:Nat),.raw .nilIface]) (hpB2 (bk v 94 4 [[.sl (ia.map cS),.sl (oa.map cS),.mp 0 v 0 2,.ms 1 ((u+1)) 0 (List.length (l++m))]]) ⟨(u+1),true,true,5,1,(l++m).map bB⟩)):=by
 refine lW2 (k0:=0) (hla:=by rcases ha with rfl|rfl <;> simp [locB,loc0]) (hlb:=bB_loc _) Try.func71 s71_ok fun hB=>?_
 unfold s71
 dsimp only
 refine W_r (R_mv rfl (R_mv rfl (R_e (W_r (R_mv rfl (R_callE (evcons rfl evnil) (LocC.use2 (i:=0) (j:=1) (copy_loc v (V.sl (List.map cS (ia))) (V.sl (List.map cS (oa))) (a) (V.ms 1 u 0 (List.length (l))) (bz u 5 1 (List.map bB (l))) ha) (by decide) rfl (@rfl Blk (bk v 94 4 [[(V.sl (List.map cS (ia))),(V.sl (List.map cS (oa))),(a),(V.ms 1 u 0 (List.length (l)))]])) (@rfl Blk (bz u 5 1 (List.map bB (l)))) (by rcases ha with rfl|rfl <;> rfl) (bB_ren _ _) rfl (bB_ren _ _)) (R_e ?_)))))))
 refine W_r (R_mv rfl (R_mv rfl (R_nilck_mp rfl rfl oB (R_fk rfl rfl (R_lk rfl rfl rfl rfl (R_mv rfl (R_appendB (l:=l) (m:=m) (@rfl V (V.ms 1 u 0 (List.length (l)))) (@rfl Blk (bz u 5 1 (List.map bB (l)))) (by rfl) (@rfl V (V.str m)) (by omega) ?_)))))))
 refine R_nilck_mp rfl rfl oB (R_fk rfl rfl (R_sk rfl rfl rfl rfl rfl rfl rfl rfl rfl (R_e (W_r (R_mv rfl (R_slen (s:=m) rfl (R_mv rfl ?_)))))))
 refine R_mv rfl (R_e (W_ret ?_))
 refine RetL2_ok (v:=(V.tup [(iV ((m.length:Nat):Int)),(V.raw .nilIface)])) (a:=(bk v 94 4 [[(V.sl (List.map cS (ia))),(V.sl (List.map cS (oa))),(V.mp 0 v 0 2),(V.ms 1 (u+1) 0 ((List.length (l))+(m).length))]])) (b:=(bz (u+1) 5 1 (List.map bB (l++m)))) (resT2 (resV_t (@rfl V (iV ((m.length:Nat):Int)))) (resV_t (@rfl V (V.raw .nilIface)))) ?_ (by simp) (FinV.tup2 (.same (cut_fin 2 _) _) (.same (cut_fin 2 _) _)) (@rfl Blk (bk v 94 4 [[(V.sl (List.map cS (ia))),(V.sl (List.map cS (oa))),(V.mp 0 v 0 2),(V.ms 1 (u+1) 0 ((List.length (l))+(m).length))]])) (@rfl Blk (bz (u+1) 5 1 (List.map bB (l++m)))) (by simp [locB,loc0]) (bB_loc _)
 simp [List.length_append]
def s72:SF:=⟨25,[],.seq (.reg [sO 4 (.box 24 3 (.t 1))]) (.seq (.seq (.reg [qF 6 0 4,ql 7 6,sO 8 (.call false 85 [.t 7]),qM 9 2,qP 10 .geq 8 9]) (.cond (.t 10) (.seq (.reg [qM 11 0,qL 12 3 4,sO 13 (.call true 44 [.t 11,.t 12])]) (.ret)) (.skip))) (.seq (.reg [qM 14 0,sO 15 (.nilck (.t 14)),qF 16 2 15,sO 17 (.call true 71 [.t 16,.c (.str [40])])]) (.seq (.reg [qM 18 0,qL 19 3 4,sO 20 (.call true 44 [.t 18,.t 19])]) (.reg [qM 21 0,sO 22 (.nilck (.t 21)),qF 23 2 22,sO 24 (.call true 71 [.t 23,.c (.str [41])])]))))⟩
theorem s72_ok:slimF Try.prog ⟨[31,36,37,38,40,41,42,44,45,59,60,61,65,66,67,71,72,73,81,82,84,92,93,98,99,102,104],[],[],[]⟩ Try.f72=some s72:=by kernel_rfl
def s85:SF:=⟨11,[.tmp 2],.seq (.reg [qI 2 0]) (.seq (.seq (.reg [qM 3 0]) (.block 0 (.seq (.reg [qC 5 .eql 3 6,qM 4 5]) (.cond (.t 4) (.seq (.reg [qI 2 1]) (.ret)) (.seq (.reg [qC 7 .eql 3 5,qM 6 7]) (.cond (.t 6) (.seq (.reg [qI 2 2]) (.ret)) (.seq (.seq (.reg [qC 9 .eql 3 8,qM 8 9]) (.cond (.t 8) (.skip) (.reg [qC 10 .eql 3 10,qM 8 10]))) (.cond (.t 8) (.seq (.reg [qI 2 3]) (.ret)) (.skip))))))))) (.seq (.reg [qI 2 4]) (.ret)))⟩
theorem s85_ok:slimF Try.prog ⟨[31,36,37,38,40,41,42,44,45,59,60,61,65,66,67,71,72,73,81,82,84,92,93,98,99,102,104],[],[],[]⟩ Try.f85=some s85:=by kernel_rfl
end Go.Proofs.Ytdmcmkccifmofaa
namespace Go.Proofs.Ytdmcmkccifmofaa
open Go
structure RS where
  pos:Nat
  dep:Int
  er:Int
  wh:Nat
instance:Inhabited RS:=⟨⟨0,0,0,0⟩⟩
def rSkp (e:PE) (s:RS):Nat:=skp (e.src.drop s.pos) s.pos
def rNext (e:PE) (s:RS):List UInt8×RS:=
  if s.er≠0∨rSkp e s=e.src.length then ([],{s with pos:=rSkp e s})
  else if tok (e.src.drop (rSkp e s))=[] then ([],{s with pos:=rSkp e s,er:=5,wh:=rSkp e s})
  else (tok (e.src.drop (rSkp e s)),{s with pos:=rSkp e s})
def rTake (e:PE) (w:List UInt8) (s:RS):Bool×RS:=
  if (rNext e s).1≠w∨(rNext e s).2.er≠0 then (false,(rNext e s).2) else (true,{(rNext e s).2 with pos:=(rNext e s).2.pos+w.length})
inductive RK where
  |form|disj|conj|bin|un|bel
structure OkR (e:PE) (s:RS):Prop where
  len:e.src.length≤1048576
  pos:s.pos≤e.src.length
  d0:0≤s.dep
  d1:s.dep≤129
  d2:s.er=0→s.dep≤128
end Go.Proofs.Ytdmcmkccifmofaa
namespace Go.Proofs.Ytdmcmkccifmofaa
open Go
structure Rel (e:PE) (s:PS) (r:RS):Prop where
  er:r.er=0
  dep:r.dep=(s.dep:Int)
  pos:rSkp e r=s.pos
  tk:tok (e.src.drop s.pos)=s.wd
  nb:e.src.drop s.pos=[]∨s.wd≠[]
def Hard (a:Nat) (x:Int) (r:RS):Prop:=r.er=x∧r.wh=a∧x≠0
def Pend (e:PE) (a:Nat) (x:Int) (r:RS):Prop:=r.er=0∧x=5∧rSkp e r=a∧e.src.drop a≠[]∧tok (e.src.drop a)=[]
def Bad (e:PE) (a:Nat) (x:Int) (r:RS):Prop:=Hard a x r∨Pend e a x r
section
variable {e:PE} {s s1:PS} {r:RS} {a:Nat} {x:Int}
theorem drop_nil_iff (hp:s.pos≤e.src.length):e.src.drop s.pos=[]↔s.pos=e.src.length:=by
  rw [List.drop_eq_nil_iff]; omega
theorem skp_fix: ∀ (l:List UInt8) (p q:Nat),skp l p=p+q→skp (l.drop q) (p+q)=p+q:=by
  intro l
  induction l with
  |nil=>intro p q h; simp [skp]
  | cons c l ih =>
    intro p q h
    rw [skp] at h
    split at h
    · rename_i hc
      have h1:=skp_ge l (p+1)
      obtain ⟨q',rfl⟩: ∃ q',q=q'+1:=⟨q - 1,by omega⟩
      have:=ih (p+1) q' (by rw [h]; omega)
      rw [List.drop_succ_cons,show p+(q'+1)=p+1+q' by omega]; exact this
    · rename_i hc
      have:q=0:=by omega
      subst this
      rw [List.drop_zero,Nat.add_zero,skp,if_neg hc]
theorem rSkp_fix {r':RS} (h:r'.pos=rSkp e r):rSkp e r'=rSkp e r:=by
  have h1:=(skp_ge (e.src.drop r.pos) r.pos).1
  obtain ⟨q,hq⟩: ∃ q,rSkp e r=r.pos+q:=⟨rSkp e r - r.pos,by unfold rSkp; omega⟩
  have:=skp_fix (e.src.drop r.pos) r.pos q hq
  rw [List.drop_drop,← hq] at this
  unfold rSkp at*
  rw [h]; exact this
theorem Rel.next (h:Rel e s r) (hs:OkS e s):rNext e r=(s.wd,{r with pos:=s.pos}):=by
  have hp:s.pos≤e.src.length:=by have:=hs.pos; omega
  unfold rNext
  rw [h.pos]
  by_cases hl:s.pos=e.src.length
  · rw [if_pos (.inr hl),← h.tk,(drop_nil_iff hp).2 hl]; rfl
  · have hn:s.wd≠[]:=by
      rcases h.nb with q|q
      · exact absurd ((drop_nil_iff hp).1 q) hl
      · exact q
    rw [if_neg (by rintro (q|q); exact q h.er; exact hl q),h.tk,if_neg hn]
theorem Rel.same (h:Rel e s r):Rel e s {r with pos:=s.pos}:=
  ⟨h.er,h.dep,by rw [rSkp_fix (r:=r) (by rw [h.pos]),h.pos],h.tk,h.nb⟩
theorem Rel.take (h:Rel e s r) (hs:OkS e s) (w:List UInt8):rTake e w r=if s.wd=w then (true,{r with pos:=s.pos+w.length}) else (false,{r with pos:=s.pos}):=by
  unfold rTake
  rw [h.next hs]
  by_cases q:s.wd=w
  · rw [if_pos q,if_neg (by rintro (q'|q'); exact q' q; exact q' h.er)]
  · rw [if_neg q,if_pos (.inl q)]
theorem Hard.next (h:Hard a x r): ∃ r',rNext e r=([],r')∧Hard a x r'∧r'.dep=r.dep:=by
  refine ⟨{r with pos:=rSkp e r},?_,h,rfl⟩
  unfold rNext
  rw [if_pos (.inl (by rw [h.1]; exact h.2.2))]
theorem Bad.next (h:Bad e a x r) (hp:r.pos≤e.src.length): ∃ r',rNext e r=([],r')∧Hard a x r'∧r'.dep=r.dep:=by
  rcases h with h|⟨h1,h2,h3,h4,h5⟩
  · exact h.next
  · refine ⟨{r with pos:=rSkp e r,er:=5,wh:=rSkp e r},?_,⟨h2.symm,h3,by rw [h2]; decide⟩,rfl⟩
    unfold rNext
    have:rSkp e r≠e.src.length:=fun q=>h4 (by rw [← h3,q]; simp)
    rw [if_neg (by rintro (q|q); exact q h1; exact this q),h3,if_pos h5,← h3]
theorem Bad.take (h:Bad e a x r) (hp:r.pos≤e.src.length) (w:List UInt8): ∃ r',rTake e w r=(false,r')∧Hard a x r'∧r'.dep=r.dep:=by
  obtain ⟨r',h1,h2,h3⟩:=h.next hp
  refine ⟨r',?_,h2,h3⟩
  unfold rTake
  rw [h1,if_pos (.inr (by rw [h2.1]; exact h2.2.2))]
end
end Go.Proofs.Ytdmcmkccifmofaa
namespace Go.Proofs.Ytdmcmkccifmofaa
open Go
def stg (o:Int):Int:=if o=6 then 1 else if o=5 then 2 else if o=8∨o=10 then 3 else 4
def argP (lv:Int) (q:Int×List (List UInt8)):List (List UInt8):=if lv≤stg q.1 then q.2 else [40]::(q.2++[[41]])
def sevP (sep:List UInt8) (lv:Int):List (Int×List (List UInt8))→Nat→List (List UInt8)
  |[],_=>[]
  |q::r,i=>(if i=0 then [] else [sep])++(argP lv q++sevP sep lv r (i+1))
def shO (ia oa:List (List UInt8)) (o a:Int) (q:List (Int×List (List UInt8))):List (List UInt8):=
  if o=1 then [wTr] else if o=2 then [wIn++nth ia a.toNat] else if o=3 then [wOut++nth oa a.toNat]
  else if o=4 then [33]::argP 4 (nth q 0) else if o=7 then [88,32]::argP 4 (nth q 0) else if o=9 then [78,32]::argP 4 (nth q 0)
  else if o=6 then sevP [32,124,32] 2 q 0 else if o=5 then sevP [32,38,32] 3 q 0
  else if o=8 then argP 4 (nth q 0)++([32,85,32]::argP 3 (nth q 1)) else if o=10 then argP 4 (nth q 0)++([32,82,32]::argP 3 (nth q 1)) else []
mutual
def shP (ia oa:List (List UInt8)):Fm→List (List UInt8)
  | .nd o a k=>shO ia oa o a (shL ia oa k)
def shL (ia oa:List (List UInt8)):List Fm→List (Int×List (List UInt8))
  |[]=>[]
  |f::l=>(f.op,shP ia oa f)::shL ia oa l
end
theorem shL_map (ia oa:List (List UInt8)): ∀ l:List Fm,shL ia oa l=l.map fun f=>(f.op,shP ia oa f)
  |[]=>rfl
  |f::l=>by rw [shL,shL_map ia oa l]; rfl
theorem shP_eq (ia oa:List (List UInt8)) (f:Fm):shP ia oa f=shO ia oa f.op f.arg (f.kids.map fun g=>(g.op,shP ia oa g)):=by
  cases f; rw [shP,shL_map]; rfl
abbrev shQ (ia oa:List (List UInt8)) (f:Fm):Int×List (List UInt8):=(f.op,shP ia oa f)
theorem shQ_nth {ia oa:List (List UInt8)} {l:List Fm} {k:Nat} (h:k < l.length):nth (l.map fun g=>(g.op,shP ia oa g)) k=shQ ia oa (nth l k):=by
  rw [← nth_getElem (l:=l.map fun g=>(g.op,shP ia oa g)) (by simpa using h),← nth_getElem h]; simp
theorem argP_yes {lv:Int} {q:Int×List (List UInt8)} (h:lv≤stg q.1):argP lv q=q.2:=if_pos h
theorem argP_no {lv:Int} {q:Int×List (List UInt8)} (h: ¬lv≤stg q.1):argP lv q=[40]::(q.2++[[41]]):=if_neg h
theorem argP_len {lv:Int} {q:Int×List (List UInt8)} (h: ¬lv≤stg q.1):(argP lv q).flatten.length=q.2.flatten.length+2∧(argP lv q).length=q.2.length+2:=by
  rw [argP_no h]; simp
theorem argP_cat {lv:Int} {q:Int×List (List UInt8)} (h: ¬lv≤stg q.1) (l:List UInt8):l++(argP lv q).flatten=((l++[40])++q.2.flatten)++[41]:=by
  rw [argP_no h]; simp
theorem stg1 {o:Int} (h:o=6):stg o=1:=if_pos h
theorem stg2 {o:Int} (h: ¬o=6) (h2:o=5):stg o=2:=by unfold stg; rw [if_neg h,if_pos h2]
theorem stg3 {o:Int} (h: ¬o=6) (h2: ¬o=5) (h3:o=8∨o=10):stg o=3:=by unfold stg; rw [if_neg h,if_neg h2,if_pos h3]
theorem stg4 {o:Int} (h: ¬o=6) (h2: ¬o=5) (h3: ¬(o=8∨o=10)):stg o=4:=by unfold stg; rw [if_neg h,if_neg h2,if_neg h3]
section
variable {ia oa:List (List UInt8)} {f:Fm} {lv:Int}
theorem argQ_yes (h:lv≤stg f.op):argP lv (shQ ia oa f)=shP ia oa f:=if_pos h
theorem argQ_len (h: ¬lv≤stg f.op):(argP lv (shQ ia oa f)).flatten.length=(shP ia oa f).flatten.length+2∧(argP lv (shQ ia oa f)).length=(shP ia oa f).length+2:=argP_len h
theorem argQ_cat (h: ¬lv≤stg f.op) (l:List UInt8):l++(argP lv (shQ ia oa f)).flatten=((l++[40])++(shP ia oa f).flatten)++[41]:=argP_cat h l
end
def sevR (ia oa:List (List UInt8)) (sep:List UInt8) (lv:Int) (ks:List Fm) (i:Nat):List (List UInt8):=sevP sep lv ((ks.drop i).map (shQ ia oa)) i
section
variable {ia oa:List (List UInt8)} {sep:List UInt8} {lv:Int} {ks:List Fm} {i:Nat}
theorem sevR_step (h:i < ks.length):sevR ia oa sep lv ks i=(if i=0 then [] else [sep])++(argP lv (shQ ia oa (nth ks i))++sevR ia oa sep lv ks (i+1)):=by
  unfold sevR
  rw [nth_drop h]; rfl
theorem sevR_0 (h:i < ks.length) (h0:i=0):sevR ia oa sep lv ks i=argP lv (shQ ia oa (nth ks i))++sevR ia oa sep lv ks (i+1):=by rw [sevR_step h,if_pos h0]; rfl
theorem sevR_1 (h:i < ks.length) (h0: ¬i=0):sevR ia oa sep lv ks i=sep::(argP lv (shQ ia oa (nth ks i))++sevR ia oa sep lv ks (i+1)):=by rw [sevR_step h,if_neg h0]; rfl
theorem sevR_0l (h:i < ks.length) (h0:i=0):(sevR ia oa sep lv ks i).length=(argP lv (shQ ia oa (nth ks i))).length+(sevR ia oa sep lv ks (i+1)).length∧(sevR ia oa sep lv ks i).flatten.length=(argP lv (shQ ia oa (nth ks i))).flatten.length+(sevR ia oa sep lv ks (i+1)).flatten.length:=by
  rw [sevR_0 h h0]; exact ⟨by simp,by rw [List.flatten_append,List.length_append]⟩
theorem sevR_1l (h:i < ks.length) (h0: ¬i=0):(sevR ia oa sep lv ks i).length=1+(argP lv (shQ ia oa (nth ks i))).length+(sevR ia oa sep lv ks (i+1)).length∧(sevR ia oa sep lv ks i).flatten.length=sep.length+(argP lv (shQ ia oa (nth ks i))).flatten.length+(sevR ia oa sep lv ks (i+1)).flatten.length:=by
  rw [sevR_1 h h0]; exact ⟨by simp; omega,by rw [List.flatten_cons,List.length_append,List.flatten_append,List.length_append]; omega⟩
theorem sevR_end (h:ks.length≤i):sevR ia oa sep lv ks i=[]:=by unfold sevR; rw [List.drop_eq_nil_of_le h]; rfl
theorem sevR_0c (h:i < ks.length) (h0:i=0) (c:List UInt8):c++(sevR ia oa sep lv ks i).flatten=(c++(argP lv (shQ ia oa (nth ks i))).flatten)++(sevR ia oa sep lv ks (i+1)).flatten:=by rw [sevR_0 h h0,List.flatten_append,List.append_assoc]
theorem sevR_1c (h:i < ks.length) (h0: ¬i=0) (c:List UInt8):c++(sevR ia oa sep lv ks i).flatten=((c++sep)++(argP lv (shQ ia oa (nth ks i))).flatten)++(sevR ia oa sep lv ks (i+1)).flatten:=by rw [sevR_1 h h0,List.flatten_cons,List.flatten_append]; simp only [List.append_assoc]
end
section
variable {ia oa:List (List UInt8)} {f:Fm}
theorem shP_1 (h:f.op=1):shP ia oa f=[wTr]:=by rw [shP_eq,h]; rfl
theorem shP_2 (h:f.op=2):shP ia oa f=[wIn++nth ia f.arg.toNat]:=by rw [shP_eq,h]; rfl
theorem shP_3 (h:f.op=3):shP ia oa f=[wOut++nth oa f.arg.toNat]:=by rw [shP_eq,h]; rfl
theorem shP_4 (h:f.op=4) (hk:0 < f.kids.length):shP ia oa f=[33]::argP 4 (shQ ia oa (nth f.kids 0)):=by
  rw [shP_eq,h]; show [33]::argP 4 (nth _ 0)=_; rw [shQ_nth hk]
theorem shP_7 (h:f.op=7) (hk:0 < f.kids.length):shP ia oa f=[88,32]::argP 4 (shQ ia oa (nth f.kids 0)):=by
  rw [shP_eq,h]; show [88,32]::argP 4 (nth _ 0)=_; rw [shQ_nth hk]
theorem shP_9 (h:f.op=9) (hk:0 < f.kids.length):shP ia oa f=[78,32]::argP 4 (shQ ia oa (nth f.kids 0)):=by
  rw [shP_eq,h]; show [78,32]::argP 4 (nth _ 0)=_; rw [shQ_nth hk]
theorem shP_6 (h:f.op=6):shP ia oa f=sevR ia oa [32,124,32] 2 f.kids 0:=by rw [shP_eq,h]; rfl
theorem shP_5 (h:f.op=5):shP ia oa f=sevR ia oa [32,38,32] 3 f.kids 0:=by rw [shP_eq,h]; rfl
theorem shP_8 (h:f.op=8) (hk:1 < f.kids.length):shP ia oa f=argP 4 (shQ ia oa (nth f.kids 0))++([32,85,32]::argP 3 (shQ ia oa (nth f.kids 1))):=by
  rw [shP_eq,h]; show argP 4 (nth _ 0)++([32,85,32]::argP 3 (nth _ 1))=_; rw [shQ_nth (by omega),shQ_nth hk]
theorem shP_10 (h:f.op=10) (hk:1 < f.kids.length):shP ia oa f=argP 4 (shQ ia oa (nth f.kids 0))++([32,82,32]::argP 3 (shQ ia oa (nth f.kids 1))):=by
  rw [shP_eq,h]; show argP 4 (nth _ 0)++([32,82,32]::argP 3 (nth _ 1))=_; rw [shQ_nth (by omega),shQ_nth hk]
end
theorem shW_leaf {p:List (List UInt8)} {x:List UInt8} (h:p=[x]) (u:Nat) (l:List UInt8):u+p.length=u+1∧l++p.flatten=l++x∧p.flatten.length=x.length:=by
  subst h; simp
theorem shW_un {p q:List (List UInt8)} {x:List UInt8} (h:p=x::q) (u:Nat) (l:List UInt8):u+p.length=u+1+q.length∧l++p.flatten=l++x++q.flatten∧p.flatten.length=x.length+q.flatten.length:=by
  subst h
  exact ⟨by simp; omega,by rw [List.flatten_cons,List.append_assoc],by rw [List.flatten_cons,List.length_append]⟩
theorem shW_bin {p q r:List (List UInt8)} {x:List UInt8} (h:p=q++(x::r)) (u:Nat) (l:List UInt8):u+p.length=u+q.length+1+r.length∧l++p.flatten=l++q.flatten++x++r.flatten∧p.flatten.length=q.flatten.length+x.length+r.flatten.length:=by
  subst h
  exact ⟨by simp; omega,by rw [List.flatten_append,List.flatten_cons]; simp only [List.append_assoc],by rw [List.flatten_append,List.flatten_cons,List.length_append,List.length_append]; omega⟩
theorem nmd_arg {m n:Int} {f:Fm} (h:nmd m n f=true):(f.op=2→f.arg < m)∧(f.op=3→f.arg < n):=by
  constructor <;> intro ho <;> refine Int.not_le.1 fun q=>?_
  · rw [nmd_no (.inl ⟨ho,q⟩)] at h; cases h
  · rw [nmd_no (.inr ⟨ho,q⟩)] at h; cases h
theorem nmd_kid {m n:Int} {f:Fm} (h:nmd m n f=true) {k:Nat} (hk:k < f.kids.length):nmd m n (nth f.kids k)=true:=by
  rw [nmd_eq,Bool.and_eq_true] at h
  exact List.all_eq_true.1 h.2 _ (by rw [← nth_getElem hk]; exact List.getElem_mem hk)
end Go.Proofs.Ytdmcmkccifmofaa
namespace Go.Proofs.Ytdmcmkccifmofaa
open Go Go.Proofs
theorem stg_pure (o:Int):PureC Try.prog 85 [(iV (o))] (iV ((stg o))):=by
 refine pW Try.func85 s85_ok fun hB=>?_
 unfold s85
 dsimp only
 refine W_r (R_mv rfl (R_e (W_seq_seq (W_r (R_mv rfl (R_e (W_seq_blockg fun Q1 n1 x1 y1 z1=>?_)))))))
 refine W_r (R_eql rfl rfl (R_mv rfl (R_e ?_)))
 refine W_if rfl (fun c2=>?_) fun c2=>?_
 ·
  have d1:o=6:=c2
  refine W_r (R_mv rfl (R_e (W_ret (y1 _ _ ?_))))
  refine Ret_1 (@rfl V (iV (1:Int))) (fz_int ?_)
  · exact (stg1 d1).symm
 have d1: ¬o=6:=c2
 refine W_r (R_eql rfl rfl (R_mv rfl (R_e ?_)))
 refine W_if rfl (fun c3=>?_) fun c3=>?_
 ·
  have d2:o=5:=c3
  refine W_r (R_mv rfl (R_e (W_ret (y1 _ _ ?_))))
  refine Ret_1 (@rfl V (iV (2:Int))) (fz_int ?_)
  · exact (stg2 d1 d2).symm
 have d2: ¬o=5:=c3
 refine W_seq_seq (W_r (R_eql rfl rfl (R_mv rfl (R_e ?_))))
 refine W_seq_if rfl (fun c4=>?_) fun c4=>?_
 ·
  refine W_seq_skip ?_
  refine W_if rfl (fun c5=>?_) fun c5=>?_
  ·
   refine W_r (R_mv rfl (R_e (W_ret (y1 _ _ ?_))))
   refine Ret_1 (@rfl V (iV (3:Int))) (fz_int ?_)
   · exact (stg3 d1 d2 (by (left; assumption))).symm
  · exact (c5 c4).elim
 refine W_r (R_eql rfl rfl (R_mv rfl (R_e ?_)))
 refine W_if rfl (fun c6=>?_) fun c6=>?_
 ·
  refine W_r (R_mv rfl (R_e (W_ret (y1 _ _ ?_))))
  refine Ret_1 (@rfl V (iV (3:Int))) (fz_int ?_)
  · exact (stg3 d1 d2 (by (right; assumption))).symm
 refine W_skip (n1 _ _ (.done (W_r (R_mv rfl (R_e (W_ret ?_))))))
 refine Ret_1 (@rfl V (iV (4:Int))) (fz_int ?_)
 · exact (stg4 d1 d2 (by omega)).symm
theorem arg_loc (v u:Nat) (ia oa:List (List UInt8)) (a:V) (l:List UInt8) (f:Fm) (lv:Int) (ha:a=.nilp∨a=.mp 0 v 0 2) (hl:l.length+(argP lv (shQ ia oa f)).flatten.length≤4294967296) (hS: ∀ (u:Nat) (a:V) (l:List UInt8),(a=.nilp∨a=.mp 0 v 0 2)→l.length+(shP ia oa f).flatten.length≤4294967296→LocC Try.prog 44 2 [.mp 0 v 0 0,fmV f] (hpB2 (bk v 94 4 [[.sl (ia.map cS),.sl (oa.map cS),a,.ms 1 u 0 (List.length (l))]]) ⟨u,true,true,5,1,(l).map bB⟩) (.ok (.tup []) (hpB2 (bk v 94 4 [[.sl (ia.map cS),.sl (oa.map cS),.mp 0 v 0 2,.ms 1 ((u+(shP ia oa f).length)) 0 (List.length (l++(shP ia oa f).flatten))]]) ⟨(u+(shP ia oa f).length),true,true,5,1,(l++(shP ia oa f).flatten).map bB⟩))):LocC Try.prog 72 2 [(V.mp 0 v 0 0),(V.agg [(iV (f.op)),(iV (f.arg)),(V.sl (List.map cF (f.kids)))]),(iV (lv))] (hpB2 (bk v 94 4 [[(V.sl (List.map cS (ia))),(V.sl (List.map cS (oa))),(a),(V.ms 1 u 0 (List.length (l)))]]) (bz u 5 1 (List.map bB (l)))) (.ok (.tup []) (hpB2 (bk v 94 4 [[.sl (ia.map cS),.sl (oa.map cS),.mp 0 v 0 2,.ms 1 ((u+(argP lv (shQ ia oa f)).length)) 0 (List.length (l++(argP lv (shQ ia oa f)).flatten))]]) ⟨(u+(argP lv (shQ ia oa f)).length),true,true,5,1,(l++(argP lv (shQ ia oa f)).flatten).map bB⟩)):=by
 refine lW2 (k0:=0) (hla:=by rcases ha with rfl|rfl <;> simp [locB,loc0]) (hlb:=bB_loc _) Try.func72 s72_ok fun hB=>?_
 unfold s72
 dsimp only
 refine W_r (R_box (i:=4) (n:=0) (m:=3) (cs:=[(iV (f.op)),(iV (f.arg)),(V.sl (List.map cF (f.kids)))]) rfl (congrArg Blk.ver rfl) rfl rfl rfl (R_e (W_seq_seq (W_r (R_fk rfl rfl (R_lk rfl rfl rfl rfl (R_callk (stg_pure ((f.op))) rfl ?_)))))))
 refine R_mv rfl (R_geq rfl rfl (R_e ?_))
 refine W_seq_if rfl (fun c1=>?_) fun c1=>?_
 ·
  have d1:lv≤stg f.op:=c1
  have hl2:l.length+(shP ia oa f).flatten.length≤4294967296:=by rw [argQ_yes d1] at hl; exact hl
  refine W_seq_seq (W_r (R_mv rfl (R_lk rfl rfl rfl rfl (R_callE (evcons rfl (evcons rfl evnil)) (LocC.use2 (i:=0) (j:=1) (hS u ((a)) l ha (by omega)) (by decide) rfl (@rfl Blk (bk v 94 4 [[(V.sl (List.map cS (ia))),(V.sl (List.map cS (oa))),(a),(V.ms 1 u 0 (List.length (l)))]])) (@rfl Blk (bz u 5 1 (List.map bB (l)))) (by rcases ha with rfl|rfl <;> rfl) (bB_ren _ _) rfl (bB_ren _ _)) (R_e (W_seq_ret ?_))))))
  refine RetL2_ok (v:=(V.tup [])) (a:=(bk v 94 4 [[(V.sl (List.map cS (ia))),(V.sl (List.map cS (oa))),(V.mp 0 v 0 2),(V.ms 1 (u+(shP ia oa f).length) 0 (List.length (l++(shP ia oa f).flatten)))]])) (b:=(bz (u+(shP ia oa f).length) 5 1 (List.map bB (l++(shP ia oa f).flatten)))) rfl ?_ (by simp) (.same (cut_fin 2 _) _) (@rfl Blk (bk v 94 4 [[(V.sl (List.map cS (ia))),(V.sl (List.map cS (oa))),(V.mp 0 v 0 2),(V.ms 1 (u+(shP ia oa f).length) 0 (List.length (l++(shP ia oa f).flatten)))]])) (@rfl Blk (bz (u+(shP ia oa f).length) 5 1 (List.map bB (l++(shP ia oa f).flatten)))) (by simp [locB,loc0]) (bB_loc _)
  rw [argQ_yes d1] <;> rfl
 have d1: ¬lv≤stg f.op:=c1
 have hl2:l.length+(shP ia oa f).flatten.length+2≤4294967296:=by rw [(argQ_len d1).1] at hl; omega
 refine W_seq_skip (W_r (R_mv rfl (R_nilck_mp rfl rfl oB (R_fk rfl rfl (R_callE (evcons rfl (evcons rfl evnil)) (LocC.use2 (i:=0) (j:=1) (wstr_loc v u ia oa (a) l ([40]) ha (by (simp only [List.length_append,List.length_cons,List.length_nil]; omega))) (by decide) rfl (@rfl Blk (bk v 94 4 [[(V.sl (List.map cS (ia))),(V.sl (List.map cS (oa))),(a),(V.ms 1 u 0 (List.length (l)))]])) (@rfl Blk (bz u 5 1 (List.map bB (l)))) (by rcases ha with rfl|rfl <;> rfl) (bB_ren _ _) rfl (bB_ren _ _)) (R_e (W_r ?_)))))))
 refine R_mv rfl (R_lk rfl rfl rfl rfl (R_callE (evcons rfl (evcons rfl evnil)) (LocC.use2 (i:=0) (j:=1) (hS (u+1) (.mp 0 v 0 2) (l++([40])) (.inr rfl) (by (simp only [List.length_append,List.length_cons,List.length_nil]; omega))) (by decide) rfl (@rfl Blk (bk v 94 4 [[(V.sl (List.map cS (ia))),(V.sl (List.map cS (oa))),(V.mp 0 v 0 2),(V.ms 1 (u+1) 0 (List.length (l++([40]))))]])) (@rfl Blk (bz (u+1) 5 1 (List.map bB (l++([40]))))) rfl (bB_ren _ _) rfl (bB_ren _ _)) (R_e (W_t (R_mv rfl (R_nilck_mp rfl rfl oB (R_fk rfl rfl ?_)))))))
 refine R_callE (evcons rfl (evcons rfl evnil)) (LocC.use2 (i:=0) (j:=1) (wstr_loc v ((u+1)+(shP ia oa f).length) ia oa (V.mp 0 v 0 2) ((l++([40]))++(shP ia oa f).flatten) ([41]) (.inr rfl) (by (simp only [List.length_append,List.length_cons,List.length_nil]; omega))) (by decide) rfl (@rfl Blk (bk v 94 4 [[(V.sl (List.map cS (ia))),(V.sl (List.map cS (oa))),(V.mp 0 v 0 2),(V.ms 1 ((u+1)+(shP ia oa f).length) 0 (List.length ((l++([40]))++(shP ia oa f).flatten)))]])) (@rfl Blk (bz ((u+1)+(shP ia oa f).length) 5 1 (List.map bB ((l++([40]))++(shP ia oa f).flatten)))) rfl (bB_ren _ _) rfl (bB_ren _ _)) (R_e ?_)
 refine RetL2_okn (v:=(V.tup [])) (a:=(bk v 94 4 [[(V.sl (List.map cS (ia))),(V.sl (List.map cS (oa))),(V.mp 0 v 0 2),(V.ms 1 (((u+1)+(shP ia oa f).length)+1) 0 (List.length ((l++([40]))++(shP ia oa f).flatten++([41]))))]])) (b:=(bz (((u+1)+(shP ia oa f).length)+1) 5 1 (List.map bB ((l++([40]))++(shP ia oa f).flatten++([41]))))) rfl ?_ (by simp) (.same (cut_fin 2 _) _) (@rfl Blk (bk v 94 4 [[(V.sl (List.map cS (ia))),(V.sl (List.map cS (oa))),(V.mp 0 v 0 2),(V.ms 1 (((u+1)+(shP ia oa f).length)+1) 0 (List.length ((l++([40]))++(shP ia oa f).flatten++([41]))))]])) (@rfl Blk (bz (((u+1)+(shP ia oa f).length)+1) 5 1 (List.map bB ((l++([40]))++(shP ia oa f).flatten++([41]))))) (by simp [locB,loc0]) (bB_loc _)
 rw [argQ_cat d1,show u+(argP lv (shQ ia oa f)).length=u+1+(shP ia oa f).length+1 from by rw [(argQ_len d1).2]; omega] <;> rfl
def b73_0:SC:=.seq (.reg [qP 13 .lss 12 11]) (.seq (.cond (.t 13) (.skip) (.exit 0)) (.seq (.block 1 (.seq (.reg [qM 14 12,qA 15 3 10 12,qL 16 3 15,sO 9 (.alloc 24 [.int .i64 0,.int .i64 0,.nilsl]),qM 8 14,sN (.store 3 (.t 9) (.t 16))]) (.seq (.seq (.reg [qM 17 8,qC 18 .gtr 17 0]) (.cond (.t 18) (.reg [qM 19 0,sO 20 (.nilck (.t 19)),qF 21 2 20,qM 22 2,sO 23 (.call true 71 [.t 21,.t 22])]) (.skip))) (.reg [qM 24 0,qL 25 3 9,qM 26 3,sO 27 (.call true 72 [.t 24,.t 25,.t 26])])))) (.reg [qC 28 .add 12 1,qM 12 28])))
def s73:SF:=⟨29,[],.seq (.reg [qM 10 1,qN 11 10,qI 12 0]) (.block 0 (.loop b73_0))⟩
theorem s73_ok:slimF Try.prog ⟨[31,36,37,38,40,41,42,44,45,59,60,61,65,66,67,71,72,73,81,82,84,92,93,98,99,102,104],[],[],[]⟩ Try.f73=some s73:=by kernel_rfl
theorem several_loc (v u:Nat) (ia oa:List (List UInt8)) (a:V) (l:List UInt8) (ks:List Fm) (sep:List UInt8) (lv:Int) (ha:a=.nilp∨a=.mp 0 v 0 2) (hl:l.length+(sevR ia oa sep lv ks 0).flatten.length≤4294967296) (hne:0 < ks.length) (hS: ∀ k,k < ks.length→ ∀ (u:Nat) (a:V) (l:List UInt8),(a=.nilp∨a=.mp 0 v 0 2)→l.length+(shP ia oa ((nth ks k))).flatten.length≤4294967296→LocC Try.prog 44 2 [.mp 0 v 0 0,fmV ((nth ks k))] (hpB2 (bk v 94 4 [[.sl (ia.map cS),.sl (oa.map cS),a,.ms 1 u 0 (List.length (l))]]) ⟨u,true,true,5,1,(l).map bB⟩) (.ok (.tup []) (hpB2 (bk v 94 4 [[.sl (ia.map cS),.sl (oa.map cS),.mp 0 v 0 2,.ms 1 ((u+(shP ia oa ((nth ks k))).length)) 0 (List.length (l++(shP ia oa ((nth ks k))).flatten))]]) ⟨(u+(shP ia oa ((nth ks k))).length),true,true,5,1,(l++(shP ia oa ((nth ks k))).flatten).map bB⟩))):LocC Try.prog 73 2 [(V.mp 0 v 0 0),(V.sl (List.map cF (ks))),(V.str sep),(iV (lv))] (hpB2 (bk v 94 4 [[(V.sl (List.map cS (ia))),(V.sl (List.map cS (oa))),(a),(V.ms 1 u 0 (List.length (l)))]]) (bz u 5 1 (List.map bB (l)))) (.ok (.tup []) (hpB2 (bk v 94 4 [[.sl (ia.map cS),.sl (oa.map cS),.mp 0 v 0 2,.ms 1 ((u+(sevR ia oa sep lv ks 0).length)) 0 (List.length (l++(sevR ia oa sep lv ks 0).flatten))]]) ⟨(u+(sevR ia oa sep lv ks 0).length),true,true,5,1,(l++(sevR ia oa sep lv ks 0).flatten).map bB⟩)):=by
 refine lW2 (k0:=0) (hla:=by rcases ha with rfl|rfl <;> simp [locB,loc0]) (hlb:=bB_loc _) Try.func73 s73_ok fun hB=>?_
 unfold s73
 dsimp only
 refine W_r (R_mv rfl (R_len rfl (R_mv rfl (R_e (W_block fun Q1 n1 x1 y1 z1=>?_)))))
 refine W_loop (fun mm T H=> ∃ (i:Nat) (w:Nat) (c:List UInt8) (ad:V) (v9:Nat),mm=ks.length - i∧T 0=(V.mp 0 v 0 0)∧T 2=(V.str sep)∧T 3=(iV (lv))∧T 10=(V.sl (List.map cF (ks)))∧T 11=(iV ((ks.length:Nat):Int))∧T 12=(iV ((i:Nat):Int))∧H 0=(bk v 94 4 [[(V.sl (List.map cS (ia))),(V.sl (List.map cS (oa))),(ad),(V.ms 1 w 0 (List.length (c)))]])∧H 1=(bz w 5 1 (List.map bB (c)))∧(H 9).ver=v9∧(i≤ks.length)∧(ad=.nilp∨ad=.mp 0 v 0 2)∧(0 < i→ad=.mp 0 v 0 2)∧(w+(sevR ia oa sep lv ks i).length=u+(sevR ia oa sep lv ks 0).length)∧(c++(sevR ia oa sep lv ks i).flatten=l++(sevR ia oa sep lv ks 0).flatten)∧(c.length+(sevR ia oa sep lv ks i).flatten.length≤4294967296)) ?_ ?_
 ·
  refine ⟨_,0,u,l,a,0,rfl,rfl,rfl,rfl,rfl,rfl,(Eq.trans (@rfl V (iV (0:Int))) rfl),rfl,rfl,(congrArg Blk.ver rfl),?_,?_,?_,?_,?_,?_⟩
  · omega
  · exact ha
  · omega
  · rfl
  · rfl
  · exact hl
 intro mm T H ⟨i,w,c,ad,v9,hmm,t0,t2,t3,t10,t11,t12,h0,h1,h9,hi,had,hmp,hu,hc,hcl⟩ Q2 p12 p22 p32
 unfold b73_0
 refine W_r (R_lss t12 t11 (R_e ?_))
 refine W_seq_if rfl (fun c3=>?_) fun c3=>?_
 ·
  have hi1:i < ks.length:=by have q:=c3; omega
  refine W_seq_skip (W_seq_blockg fun Q4 n4 x4 y4 z4=>(W_r (R_mv t12 (R_idxu (i:=i) t10 t12 (by omega) (cF_eq _) rfl (R_load_pp rfl rfl (R_alloc (i:=9) (n:=v9) (m:=3) rfl h9 rfl (R_mv rfl ?_)))))))
  refine R_sk rfl rfl rfl rfl rfl rfl rfl rfl rfl (R_e (W_seq_seq (W_r (R_mv rfl (R_gtr rfl rfl (R_e ?_))))))
  refine W_seq_if rfl (fun c5=>?_) fun c5=>?_
  ·
   have d2: ¬i=0:=by have q:=c5; omega
   have hq:=(sevR_1l (ia:=ia) (oa:=oa) (sep:=sep) (lv:=lv) hi1 d2).2
   refine W_r (R_mv t0 (R_nilck_mp rfl h0 oB (R_fk rfl h0 (R_mv t2 (R_callE (evcons rfl (evcons rfl evnil)) (LocC.use2 (i:=0) (j:=1) (wstr_loc v w ia oa (ad) c sep had (by omega)) (by decide) rfl h0 h1 (by rcases had with rfl|rfl <;> rfl) (bB_ren _ _) rfl (bB_ren _ _)) (R_e (W_t ?_)))))))
   refine R_mv t0 (R_lk rfl rfl rfl rfl (R_mv t3 (R_callE (evcons rfl (evcons rfl (evcons rfl evnil))) (LocC.use2 (i:=0) (j:=1) (arg_loc v (w+1) ia oa (.mp 0 v 0 2) (c++sep) (((nth (ks) (i)))) lv (.inr rfl) (by (simp only [List.length_append,List.length_cons,List.length_nil]; omega)) (hS i hi1)) (by decide) rfl (@rfl Blk (bk v 94 4 [[(V.sl (List.map cS (ia))),(V.sl (List.map cS (oa))),(V.mp 0 v 0 2),(V.ms 1 (w+1) 0 (List.length (c++sep)))]])) (@rfl Blk (bz (w+1) 5 1 (List.map bB (c++sep)))) rfl (bB_ren _ _) rfl (bB_ren _ _)) (R_e (n4 _ _ (.done (W_t ?_)))))))
   refine R_addN t12 (@rfl V (iV ((1:Nat):Int))) (by omega) (R_mv rfl (R_e ?_))
   refine p12 _ _ _ ?_ ⟨(i+1),((w+1)+(argP lv (shQ ia oa (((nth (ks) (i)))))).length),((c++sep)++(argP lv (shQ ia oa (((nth (ks) (i)))))).flatten),(.mp 0 v 0 2),(v9+1),rfl,t0,t2,t3,t10,t11,(Eq.trans (@rfl V (iV ((i+1:Nat):Int))) (by rfl)),(Eq.trans (@rfl Blk (bk v 94 4 [[(V.sl (List.map cS (ia))),(V.sl (List.map cS (oa))),(V.mp 0 v 0 2),(V.ms 1 ((w+1)+(argP lv (shQ ia oa (((nth (ks) (i)))))).length) 0 (List.length ((c++sep)++(argP lv (shQ ia oa (((nth (ks) (i)))))).flatten)))]])) (by rfl)),(Eq.trans (@rfl Blk (bz ((w+1)+(argP lv (shQ ia oa (((nth (ks) (i)))))).length) 5 1 (List.map bB ((c++sep)++(argP lv (shQ ia oa (((nth (ks) (i)))))).flatten)))) (by rfl)),(congrArg Blk.ver rfl),?_,?_,?_,?_,?_,?_⟩
   · omega
   · omega
   · exact .inr rfl
   · exact fun _=>rfl
   · first|(have q:=(sevR_1l (ia:=ia) (oa:=oa) (sep:=sep) (lv:=lv) hi1 d2).1; omega)|(have q:=(sevR_0l (ia:=ia) (oa:=oa) (sep:=sep) (lv:=lv) hi1 d2).1; omega)
   · first|(rw [← hc,sevR_1c hi1 d2]; done)|(rw [← hc,sevR_0c hi1 d2]; done)
   · simp only [List.length_append]; omega
  have d2:i=0:=by have q:=c5; omega
  have hq:=(sevR_0l (ia:=ia) (oa:=oa) (sep:=sep) (lv:=lv) hi1 d2).2
  refine W_seq_skip (W_t (R_mv t0 (R_lk rfl rfl rfl rfl (R_mv t3 (R_callE (evcons rfl (evcons rfl (evcons rfl evnil))) (LocC.use2 (i:=0) (j:=1) (arg_loc v w ia oa ((ad)) c (((nth (ks) (i)))) lv had (by omega) (hS i hi1)) (by decide) rfl h0 h1 (by rcases had with rfl|rfl <;> rfl) (bB_ren _ _) rfl (bB_ren _ _)) (R_e (n4 _ _ ?_)))))))
  refine .done (W_t (R_addN t12 (@rfl V (iV ((1:Nat):Int))) (by omega) (R_mv rfl (R_e ?_))))
  refine p12 _ _ _ ?_ ⟨(i+1),(w+(argP lv (shQ ia oa (((nth (ks) (i)))))).length),(c++(argP lv (shQ ia oa (((nth (ks) (i)))))).flatten),(.mp 0 v 0 2),(v9+1),rfl,t0,t2,t3,t10,t11,(Eq.trans (@rfl V (iV ((i+1:Nat):Int))) (by rfl)),(Eq.trans (@rfl Blk (bk v 94 4 [[(V.sl (List.map cS (ia))),(V.sl (List.map cS (oa))),(V.mp 0 v 0 2),(V.ms 1 (w+(argP lv (shQ ia oa (((nth (ks) (i)))))).length) 0 (List.length (c++(argP lv (shQ ia oa (((nth (ks) (i)))))).flatten)))]])) (by rfl)),(Eq.trans (@rfl Blk (bz (w+(argP lv (shQ ia oa (((nth (ks) (i)))))).length) 5 1 (List.map bB (c++(argP lv (shQ ia oa (((nth (ks) (i)))))).flatten)))) (by rfl)),(congrArg Blk.ver rfl),?_,?_,?_,?_,?_,?_⟩
  · omega
  · omega
  · exact .inr rfl
  · exact fun _=>rfl
  · first|(have q:=(sevR_1l (ia:=ia) (oa:=oa) (sep:=sep) (lv:=lv) hi1 d2).1; omega)|(have q:=(sevR_0l (ia:=ia) (oa:=oa) (sep:=sep) (lv:=lv) hi1 d2).1; omega)
  · first|(rw [← hc,sevR_1c hi1 d2]; done)|(rw [← hc,sevR_0c hi1 d2]; done)
  · simp only [List.length_append]; omega
 have hi2:i=ks.length:=by have q:=c3; omega
 have e1:w=u+(sevR ia oa sep lv ks 0).length:=by rw [← hu,sevR_end (by omega)]; rfl
 have e2:c=l++(sevR ia oa sep lv ks 0).flatten:=by rw [← hc,sevR_end (by omega)]; simp
 have e3:=hmp (by omega)
 refine W_seq_exit (p32 _ _ _ (x1 _ _ ?_))
 refine RetL2_okn (v:=(V.tup [])) (a:=(bk v 94 4 [[(V.sl (List.map cS (ia))),(V.sl (List.map cS (oa))),(ad),(V.ms 1 w 0 (List.length (c)))]])) (b:=(bz w 5 1 (List.map bB (c)))) rfl ?_ (by simp) (.same (cut_fin 2 _) _) h0 h1 (by simp [locB,loc0,e3]) (bB_loc _)
 rw [e1,e2,e3]
set_option maxHeartbeats 2000000 in
theorem show_step (v u:Nat) (ia oa:List (List UInt8)) (a:V) (l:List UInt8) (f:Fm) (ha:a=.nilp∨a=.mp 0 v 0 2) (hl:l.length+(shP ia oa f).flatten.length≤4294967296) (hok:okF f=true) (hnm:nmd ((ia.length:Nat):Int) ((oa.length:Nat):Int) f=true) (ih: ∀ k,k < f.kids.length→ ∀ (u:Nat) (a:V) (l:List UInt8),(a=.nilp∨a=.mp 0 v 0 2)→l.length+(shP ia oa ((nth f.kids k))).flatten.length≤4294967296→LocC Try.prog 44 2 [.mp 0 v 0 0,fmV ((nth f.kids k))] (hpB2 (bk v 94 4 [[.sl (ia.map cS),.sl (oa.map cS),a,.ms 1 u 0 (List.length (l))]]) ⟨u,true,true,5,1,(l).map bB⟩) (.ok (.tup []) (hpB2 (bk v 94 4 [[.sl (ia.map cS),.sl (oa.map cS),.mp 0 v 0 2,.ms 1 ((u+(shP ia oa ((nth f.kids k))).length)) 0 (List.length (l++(shP ia oa ((nth f.kids k))).flatten))]]) ⟨(u+(shP ia oa ((nth f.kids k))).length),true,true,5,1,(l++(shP ia oa ((nth f.kids k))).flatten).map bB⟩))):LocC Try.prog 44 2 [(V.mp 0 v 0 0),(V.agg [(iV (f.op)),(iV (f.arg)),(V.sl (List.map cF (f.kids)))])] (hpB2 (bk v 94 4 [[(V.sl (List.map cS (ia))),(V.sl (List.map cS (oa))),(a),(V.ms 1 u 0 (List.length (l)))]]) (bz u 5 1 (List.map bB (l)))) (.ok (.tup []) (hpB2 (bk v 94 4 [[.sl (ia.map cS),.sl (oa.map cS),.mp 0 v 0 2,.ms 1 ((u+(shP ia oa f).length)) 0 (List.length (l++(shP ia oa f).flatten))]]) ⟨(u+(shP ia oa f).length),true,true,5,1,(l++(shP ia oa f).flatten).map bB⟩)):=by
 refine lW2 (k0:=0) (hla:=by rcases ha with rfl|rfl <;> simp [locB,loc0]) (hlb:=bB_loc _) Try.func44 s44_ok fun hB=>?_
 unfold s44
 dsimp only
 have hr:=rgt_ok (okF_parts hok).1
 have hn:=nmd_arg hnm
 obtain ⟨r1,r2,r3,r4,r5,r6,r7,r8,r9⟩:=hr
 refine W_r (R_box (i:=3) (n:=0) (m:=3) (cs:=[(iV (f.op)),(iV (f.arg)),(V.sl (List.map cF (f.kids)))]) rfl (congrArg Blk.ver rfl) rfl rfl rfl (R_e (W_r (R_fk rfl rfl (R_lk rfl rfl rfl rfl (R_e (W_block fun Q1 n1 x1 y1 z1=>?_)))))))
 refine W_r (R_eql rfl rfl (R_mv rfl (R_e ?_)))
 refine W_if rfl (fun c2=>?_) fun c2=>?_
 ·
  have o:f.op=1:=c2
  have hP:shP ia oa f=_:=shP_1 o
  obtain ⟨e1,e2,hf⟩:=shW_leaf hP u l
  simp only [List.length_cons,List.length_nil,List.length_append] at hf
  refine W_t (R_mv rfl (R_nilck_mp rfl rfl oB (R_fk rfl rfl (R_callE (evcons rfl (evcons rfl evnil)) (LocC.use2 (i:=0) (j:=1) (wstr_loc v u ia oa (a) l ([116,114,117,101]) ha (by (simp only [List.length_append,List.length_cons,List.length_nil]; omega))) (by decide) rfl (@rfl Blk (bk v 94 4 [[(V.sl (List.map cS (ia))),(V.sl (List.map cS (oa))),(a),(V.ms 1 u 0 (List.length (l)))]])) (@rfl Blk (bz u 5 1 (List.map bB (l)))) (by rcases ha with rfl|rfl <;> rfl) (bB_ren _ _) rfl (bB_ren _ _)) (R_e (n1 _ _ ?_))))))
  refine RetL2_okn (v:=(V.tup [])) (a:=(bk v 94 4 [[(V.sl (List.map cS (ia))),(V.sl (List.map cS (oa))),(V.mp 0 v 0 2),(V.ms 1 (u+1) 0 (List.length (l++([116,114,117,101]))))]])) (b:=(bz (u+1) 5 1 (List.map bB (l++([116,114,117,101]))))) rfl ?_ (by simp) (.same (cut_fin 2 _) _) (@rfl Blk (bk v 94 4 [[(V.sl (List.map cS (ia))),(V.sl (List.map cS (oa))),(V.mp 0 v 0 2),(V.ms 1 (u+1) 0 (List.length (l++([116,114,117,101]))))]])) (@rfl Blk (bz (u+1) 5 1 (List.map bB (l++([116,114,117,101]))))) (by simp [locB,loc0]) (bB_loc _)
  rw [e1,e2] <;> rfl
 have o1: ¬f.op=1:=c2
 refine W_r (R_eql rfl rfl (R_mv rfl (R_e ?_)))
 refine W_if rfl (fun c3=>?_) fun c3=>?_
 ·
  have o:f.op=2:=c3
  have hP:shP ia oa f=_:=shP_2 o
  obtain ⟨e1,e2,hf⟩:=shW_leaf hP u l
  simp only [List.length_cons,List.length_nil,List.length_append] at hf
  refine W_t (R_mv rfl (R_nilck_mp rfl rfl oB (R_fk rfl rfl (R_mv rfl (R_nilck_mp rfl rfl oB (R_fk rfl rfl (R_fk rfl rfl ?_)))))))
  refine R_lk rfl rfl rfl rfl (R_fk rfl rfl (R_lk rfl rfl rfl rfl (R_idxI (i:=(f.arg)) (@rfl V (V.sl (List.map cS (ia)))) (@rfl V (iV (f.arg))) (by omega) (by omega) rfl (R_load_pp rfl rfl (R_sadd (s:=([105,110,58])) (t:=((nth (ia) (f.arg).toNat))) rfl rfl (by (simp only [List.length_append,List.length_cons,List.length_nil]; omega)) (R_callE (evcons rfl (evcons rfl evnil)) (LocC.use2 (i:=0) (j:=1) (wstr_loc v u ia oa (a) l ([105,110,58]++(nth (ia) (f.arg).toNat)) ha (by (simp only [List.length_append,List.length_cons,List.length_nil]; omega))) (by decide) rfl (@rfl Blk (bk v 94 4 [[(V.sl (List.map cS (ia))),(V.sl (List.map cS (oa))),(a),(V.ms 1 u 0 (List.length (l)))]])) (@rfl Blk (bz u 5 1 (List.map bB (l)))) (by rcases ha with rfl|rfl <;> rfl) (bB_ren _ _) rfl (bB_ren _ _)) (R_e ?_)))))))
  refine n1 _ _ ?_
  refine RetL2_okn (v:=(V.tup [])) (a:=(bk v 94 4 [[(V.sl (List.map cS (ia))),(V.sl (List.map cS (oa))),(V.mp 0 v 0 2),(V.ms 1 (u+1) 0 (List.length (l++([105,110,58]++(nth (ia) (f.arg).toNat)))))]])) (b:=(bz (u+1) 5 1 (List.map bB (l++([105,110,58]++(nth (ia) (f.arg).toNat)))))) rfl ?_ (by simp) (.same (cut_fin 2 _) _) (@rfl Blk (bk v 94 4 [[(V.sl (List.map cS (ia))),(V.sl (List.map cS (oa))),(V.mp 0 v 0 2),(V.ms 1 (u+1) 0 (List.length (l++([105,110,58]++(nth (ia) (f.arg).toNat)))))]])) (@rfl Blk (bz (u+1) 5 1 (List.map bB (l++([105,110,58]++(nth (ia) (f.arg).toNat)))))) (by simp [locB,loc0]) (bB_loc _)
  rw [e1,e2] <;> rfl
 have o2: ¬f.op=2:=c3
 refine W_r (R_eql rfl rfl (R_mv rfl (R_e ?_)))
 refine W_if rfl (fun c4=>?_) fun c4=>?_
 ·
  have o:f.op=3:=c4
  have hP:shP ia oa f=_:=shP_3 o
  obtain ⟨e1,e2,hf⟩:=shW_leaf hP u l
  simp only [List.length_cons,List.length_nil,List.length_append] at hf
  refine W_t (R_mv rfl (R_nilck_mp rfl rfl oB (R_fk rfl rfl (R_mv rfl (R_nilck_mp rfl rfl oB (R_fk rfl rfl (R_fk rfl rfl ?_)))))))
  refine R_lk rfl rfl rfl rfl (R_fk rfl rfl (R_lk rfl rfl rfl rfl (R_idxI (i:=(f.arg)) (@rfl V (V.sl (List.map cS (oa)))) (@rfl V (iV (f.arg))) (by omega) (by omega) rfl (R_load_pp rfl rfl (R_sadd (s:=([111,117,116,58])) (t:=((nth (oa) (f.arg).toNat))) rfl rfl (by (simp only [List.length_append,List.length_cons,List.length_nil]; omega)) (R_callE (evcons rfl (evcons rfl evnil)) (LocC.use2 (i:=0) (j:=1) (wstr_loc v u ia oa (a) l ([111,117,116,58]++(nth (oa) (f.arg).toNat)) ha (by (simp only [List.length_append,List.length_cons,List.length_nil]; omega))) (by decide) rfl (@rfl Blk (bk v 94 4 [[(V.sl (List.map cS (ia))),(V.sl (List.map cS (oa))),(a),(V.ms 1 u 0 (List.length (l)))]])) (@rfl Blk (bz u 5 1 (List.map bB (l)))) (by rcases ha with rfl|rfl <;> rfl) (bB_ren _ _) rfl (bB_ren _ _)) (R_e ?_)))))))
  refine n1 _ _ ?_
  refine RetL2_okn (v:=(V.tup [])) (a:=(bk v 94 4 [[(V.sl (List.map cS (ia))),(V.sl (List.map cS (oa))),(V.mp 0 v 0 2),(V.ms 1 (u+1) 0 (List.length (l++([111,117,116,58]++(nth (oa) (f.arg).toNat)))))]])) (b:=(bz (u+1) 5 1 (List.map bB (l++([111,117,116,58]++(nth (oa) (f.arg).toNat)))))) rfl ?_ (by simp) (.same (cut_fin 2 _) _) (@rfl Blk (bk v 94 4 [[(V.sl (List.map cS (ia))),(V.sl (List.map cS (oa))),(V.mp 0 v 0 2),(V.ms 1 (u+1) 0 (List.length (l++([111,117,116,58]++(nth (oa) (f.arg).toNat)))))]])) (@rfl Blk (bz (u+1) 5 1 (List.map bB (l++([111,117,116,58]++(nth (oa) (f.arg).toNat)))))) (by simp [locB,loc0]) (bB_loc _)
  rw [e1,e2] <;> rfl
 have o3: ¬f.op=3:=c4
 refine W_r (R_eql rfl rfl (R_mv rfl (R_e ?_)))
 refine W_if rfl (fun c5=>?_) fun c5=>?_
 ·
  have o:f.op=4:=c5
  have hk:0 < f.kids.length:=by omega
  have hP:shP ia oa f=_:=shP_4 o hk
  obtain ⟨e1,e2,hf⟩:=shW_un hP u l
  simp only [List.length_cons,List.length_nil,List.length_append] at hf
  refine W_r (R_mv rfl (R_nilck_mp rfl rfl oB (R_fk rfl rfl (R_callE (evcons rfl (evcons rfl evnil)) (LocC.use2 (i:=0) (j:=1) (wstr_loc v u ia oa (a) l ([33]) ha (by (simp only [List.length_append,List.length_cons,List.length_nil]; omega))) (by decide) rfl (@rfl Blk (bk v 94 4 [[(V.sl (List.map cS (ia))),(V.sl (List.map cS (oa))),(a),(V.ms 1 u 0 (List.length (l)))]])) (@rfl Blk (bz u 5 1 (List.map bB (l)))) (by rcases ha with rfl|rfl <;> rfl) (bB_ren _ _) rfl (bB_ren _ _)) (R_e (W_t (R_mv rfl ?_)))))))
  refine R_fk rfl rfl (R_lk rfl rfl rfl rfl (R_idxu (i:=0) (@rfl V (V.sl (List.map cF (f.kids)))) (@rfl V (iV ((0:Nat):Int))) (by omega) (cF_eq _) rfl (R_load_pp rfl rfl (R_callE (evcons rfl (evcons rfl (evcons rfl evnil))) (LocC.use2 (i:=0) (j:=1) (arg_loc v (u+1) ia oa (.mp 0 v 0 2) (l++([33])) (((nth (f.kids) (0)))) 4 (.inr rfl) (by (simp only [List.length_append,List.length_cons,List.length_nil]; omega)) (ih _ (by omega))) (by decide) rfl (@rfl Blk (bk v 94 4 [[(V.sl (List.map cS (ia))),(V.sl (List.map cS (oa))),(V.mp 0 v 0 2),(V.ms 1 (u+1) 0 (List.length (l++([33]))))]])) (@rfl Blk (bz (u+1) 5 1 (List.map bB (l++([33]))))) rfl (bB_ren _ _) rfl (bB_ren _ _)) (R_e (n1 _ _ ?_))))))
  refine RetL2_okn (v:=(V.tup [])) (a:=(bk v 94 4 [[(V.sl (List.map cS (ia))),(V.sl (List.map cS (oa))),(V.mp 0 v 0 2),(V.ms 1 ((u+1)+(argP 4 (shQ ia oa (((nth (f.kids) (0)))))).length) 0 (List.length ((l++([33]))++(argP 4 (shQ ia oa (((nth (f.kids) (0)))))).flatten)))]])) (b:=(bz ((u+1)+(argP 4 (shQ ia oa (((nth (f.kids) (0)))))).length) 5 1 (List.map bB ((l++([33]))++(argP 4 (shQ ia oa (((nth (f.kids) (0)))))).flatten)))) rfl ?_ (by simp) (.same (cut_fin 2 _) _) (@rfl Blk (bk v 94 4 [[(V.sl (List.map cS (ia))),(V.sl (List.map cS (oa))),(V.mp 0 v 0 2),(V.ms 1 ((u+1)+(argP 4 (shQ ia oa (((nth (f.kids) (0)))))).length) 0 (List.length ((l++([33]))++(argP 4 (shQ ia oa (((nth (f.kids) (0)))))).flatten)))]])) (@rfl Blk (bz ((u+1)+(argP 4 (shQ ia oa (((nth (f.kids) (0)))))).length) 5 1 (List.map bB ((l++([33]))++(argP 4 (shQ ia oa (((nth (f.kids) (0)))))).flatten)))) (by simp [locB,loc0]) (bB_loc _)
  rw [e1,e2] <;> rfl
 have o4: ¬f.op=4:=c5
 refine W_r (R_eql rfl rfl (R_mv rfl (R_e ?_)))
 refine W_if rfl (fun c6=>?_) fun c6=>?_
 ·
  have o:f.op=7:=c6
  have hk:0 < f.kids.length:=by omega
  have hP:shP ia oa f=_:=shP_7 o hk
  obtain ⟨e1,e2,hf⟩:=shW_un hP u l
  simp only [List.length_cons,List.length_nil,List.length_append] at hf
  refine W_r (R_mv rfl (R_nilck_mp rfl rfl oB (R_fk rfl rfl (R_callE (evcons rfl (evcons rfl evnil)) (LocC.use2 (i:=0) (j:=1) (wstr_loc v u ia oa (a) l ([88,32]) ha (by (simp only [List.length_append,List.length_cons,List.length_nil]; omega))) (by decide) rfl (@rfl Blk (bk v 94 4 [[(V.sl (List.map cS (ia))),(V.sl (List.map cS (oa))),(a),(V.ms 1 u 0 (List.length (l)))]])) (@rfl Blk (bz u 5 1 (List.map bB (l)))) (by rcases ha with rfl|rfl <;> rfl) (bB_ren _ _) rfl (bB_ren _ _)) (R_e (W_t (R_mv rfl ?_)))))))
  refine R_fk rfl rfl (R_lk rfl rfl rfl rfl (R_idxu (i:=0) (@rfl V (V.sl (List.map cF (f.kids)))) (@rfl V (iV ((0:Nat):Int))) (by omega) (cF_eq _) rfl (R_load_pp rfl rfl (R_callE (evcons rfl (evcons rfl (evcons rfl evnil))) (LocC.use2 (i:=0) (j:=1) (arg_loc v (u+1) ia oa (.mp 0 v 0 2) (l++([88,32])) (((nth (f.kids) (0)))) 4 (.inr rfl) (by (simp only [List.length_append,List.length_cons,List.length_nil]; omega)) (ih _ (by omega))) (by decide) rfl (@rfl Blk (bk v 94 4 [[(V.sl (List.map cS (ia))),(V.sl (List.map cS (oa))),(V.mp 0 v 0 2),(V.ms 1 (u+1) 0 (List.length (l++([88,32]))))]])) (@rfl Blk (bz (u+1) 5 1 (List.map bB (l++([88,32]))))) rfl (bB_ren _ _) rfl (bB_ren _ _)) (R_e (n1 _ _ ?_))))))
  refine RetL2_okn (v:=(V.tup [])) (a:=(bk v 94 4 [[(V.sl (List.map cS (ia))),(V.sl (List.map cS (oa))),(V.mp 0 v 0 2),(V.ms 1 ((u+1)+(argP 4 (shQ ia oa (((nth (f.kids) (0)))))).length) 0 (List.length ((l++([88,32]))++(argP 4 (shQ ia oa (((nth (f.kids) (0)))))).flatten)))]])) (b:=(bz ((u+1)+(argP 4 (shQ ia oa (((nth (f.kids) (0)))))).length) 5 1 (List.map bB ((l++([88,32]))++(argP 4 (shQ ia oa (((nth (f.kids) (0)))))).flatten)))) rfl ?_ (by simp) (.same (cut_fin 2 _) _) (@rfl Blk (bk v 94 4 [[(V.sl (List.map cS (ia))),(V.sl (List.map cS (oa))),(V.mp 0 v 0 2),(V.ms 1 ((u+1)+(argP 4 (shQ ia oa (((nth (f.kids) (0)))))).length) 0 (List.length ((l++([88,32]))++(argP 4 (shQ ia oa (((nth (f.kids) (0)))))).flatten)))]])) (@rfl Blk (bz ((u+1)+(argP 4 (shQ ia oa (((nth (f.kids) (0)))))).length) 5 1 (List.map bB ((l++([88,32]))++(argP 4 (shQ ia oa (((nth (f.kids) (0)))))).flatten)))) (by simp [locB,loc0]) (bB_loc _)
  rw [e1,e2] <;> rfl
 have o7: ¬f.op=7:=c6
 refine W_r (R_eql rfl rfl (R_mv rfl (R_e ?_)))
 refine W_if rfl (fun c7=>?_) fun c7=>?_
 ·
  have o:f.op=9:=c7
  have hk:0 < f.kids.length:=by omega
  have hP:shP ia oa f=_:=shP_9 o hk
  obtain ⟨e1,e2,hf⟩:=shW_un hP u l
  simp only [List.length_cons,List.length_nil,List.length_append] at hf
  refine W_r (R_mv rfl (R_nilck_mp rfl rfl oB (R_fk rfl rfl (R_callE (evcons rfl (evcons rfl evnil)) (LocC.use2 (i:=0) (j:=1) (wstr_loc v u ia oa (a) l ([78,32]) ha (by (simp only [List.length_append,List.length_cons,List.length_nil]; omega))) (by decide) rfl (@rfl Blk (bk v 94 4 [[(V.sl (List.map cS (ia))),(V.sl (List.map cS (oa))),(a),(V.ms 1 u 0 (List.length (l)))]])) (@rfl Blk (bz u 5 1 (List.map bB (l)))) (by rcases ha with rfl|rfl <;> rfl) (bB_ren _ _) rfl (bB_ren _ _)) (R_e (W_t (R_mv rfl ?_)))))))
  refine R_fk rfl rfl (R_lk rfl rfl rfl rfl (R_idxu (i:=0) (@rfl V (V.sl (List.map cF (f.kids)))) (@rfl V (iV ((0:Nat):Int))) (by omega) (cF_eq _) rfl (R_load_pp rfl rfl (R_callE (evcons rfl (evcons rfl (evcons rfl evnil))) (LocC.use2 (i:=0) (j:=1) (arg_loc v (u+1) ia oa (.mp 0 v 0 2) (l++([78,32])) (((nth (f.kids) (0)))) 4 (.inr rfl) (by (simp only [List.length_append,List.length_cons,List.length_nil]; omega)) (ih _ (by omega))) (by decide) rfl (@rfl Blk (bk v 94 4 [[(V.sl (List.map cS (ia))),(V.sl (List.map cS (oa))),(V.mp 0 v 0 2),(V.ms 1 (u+1) 0 (List.length (l++([78,32]))))]])) (@rfl Blk (bz (u+1) 5 1 (List.map bB (l++([78,32]))))) rfl (bB_ren _ _) rfl (bB_ren _ _)) (R_e (n1 _ _ ?_))))))
  refine RetL2_okn (v:=(V.tup [])) (a:=(bk v 94 4 [[(V.sl (List.map cS (ia))),(V.sl (List.map cS (oa))),(V.mp 0 v 0 2),(V.ms 1 ((u+1)+(argP 4 (shQ ia oa (((nth (f.kids) (0)))))).length) 0 (List.length ((l++([78,32]))++(argP 4 (shQ ia oa (((nth (f.kids) (0)))))).flatten)))]])) (b:=(bz ((u+1)+(argP 4 (shQ ia oa (((nth (f.kids) (0)))))).length) 5 1 (List.map bB ((l++([78,32]))++(argP 4 (shQ ia oa (((nth (f.kids) (0)))))).flatten)))) rfl ?_ (by simp) (.same (cut_fin 2 _) _) (@rfl Blk (bk v 94 4 [[(V.sl (List.map cS (ia))),(V.sl (List.map cS (oa))),(V.mp 0 v 0 2),(V.ms 1 ((u+1)+(argP 4 (shQ ia oa (((nth (f.kids) (0)))))).length) 0 (List.length ((l++([78,32]))++(argP 4 (shQ ia oa (((nth (f.kids) (0)))))).flatten)))]])) (@rfl Blk (bz ((u+1)+(argP 4 (shQ ia oa (((nth (f.kids) (0)))))).length) 5 1 (List.map bB ((l++([78,32]))++(argP 4 (shQ ia oa (((nth (f.kids) (0)))))).flatten)))) (by simp [locB,loc0]) (bB_loc _)
  rw [e1,e2] <;> rfl
 have o9: ¬f.op=9:=c7
 refine W_r (R_eql rfl rfl (R_mv rfl (R_e ?_)))
 refine W_if rfl (fun c8=>?_) fun c8=>?_
 ·
  have o:f.op=6:=c8
  have hP:shP ia oa f=_:=shP_6 o
  have hk:0 < f.kids.length:=by omega
  rw [hP] at hl
  refine W_t (R_mv rfl (R_fk rfl rfl (R_lk rfl rfl rfl rfl (R_callE (evcons rfl (evcons rfl (evcons rfl (evcons rfl evnil)))) (LocC.use2 (i:=0) (j:=1) (several_loc v u ia oa ((a)) l f.kids ([32,124,32]) 2 ha (by omega) (by omega) ih) (by decide) rfl (@rfl Blk (bk v 94 4 [[(V.sl (List.map cS (ia))),(V.sl (List.map cS (oa))),(a),(V.ms 1 u 0 (List.length (l)))]])) (@rfl Blk (bz u 5 1 (List.map bB (l)))) (by rcases ha with rfl|rfl <;> rfl) (bB_ren _ _) rfl (bB_ren _ _)) (R_e (n1 _ _ ?_))))))
  refine RetL2_okn (v:=(V.tup [])) (a:=(bk v 94 4 [[(V.sl (List.map cS (ia))),(V.sl (List.map cS (oa))),(V.mp 0 v 0 2),(V.ms 1 (u+(sevR ia oa ([32,124,32]) 2 f.kids 0).length) 0 (List.length (l++(sevR ia oa ([32,124,32]) 2 f.kids 0).flatten)))]])) (b:=(bz (u+(sevR ia oa ([32,124,32]) 2 f.kids 0).length) 5 1 (List.map bB (l++(sevR ia oa ([32,124,32]) 2 f.kids 0).flatten)))) rfl ?_ (by simp) (.same (cut_fin 2 _) _) (@rfl Blk (bk v 94 4 [[(V.sl (List.map cS (ia))),(V.sl (List.map cS (oa))),(V.mp 0 v 0 2),(V.ms 1 (u+(sevR ia oa ([32,124,32]) 2 f.kids 0).length) 0 (List.length (l++(sevR ia oa ([32,124,32]) 2 f.kids 0).flatten)))]])) (@rfl Blk (bz (u+(sevR ia oa ([32,124,32]) 2 f.kids 0).length) 5 1 (List.map bB (l++(sevR ia oa ([32,124,32]) 2 f.kids 0).flatten)))) (by simp [locB,loc0]) (bB_loc _)
  rw [hP] <;> rfl
 have o6: ¬f.op=6:=c8
 refine W_r (R_eql rfl rfl (R_mv rfl (R_e ?_)))
 refine W_if rfl (fun c9=>?_) fun c9=>?_
 ·
  have o:f.op=5:=c9
  have hP:shP ia oa f=_:=shP_5 o
  have hk:0 < f.kids.length:=by omega
  rw [hP] at hl
  refine W_t (R_mv rfl (R_fk rfl rfl (R_lk rfl rfl rfl rfl (R_callE (evcons rfl (evcons rfl (evcons rfl (evcons rfl evnil)))) (LocC.use2 (i:=0) (j:=1) (several_loc v u ia oa ((a)) l f.kids ([32,38,32]) 3 ha (by omega) (by omega) ih) (by decide) rfl (@rfl Blk (bk v 94 4 [[(V.sl (List.map cS (ia))),(V.sl (List.map cS (oa))),(a),(V.ms 1 u 0 (List.length (l)))]])) (@rfl Blk (bz u 5 1 (List.map bB (l)))) (by rcases ha with rfl|rfl <;> rfl) (bB_ren _ _) rfl (bB_ren _ _)) (R_e (n1 _ _ ?_))))))
  refine RetL2_okn (v:=(V.tup [])) (a:=(bk v 94 4 [[(V.sl (List.map cS (ia))),(V.sl (List.map cS (oa))),(V.mp 0 v 0 2),(V.ms 1 (u+(sevR ia oa ([32,38,32]) 3 f.kids 0).length) 0 (List.length (l++(sevR ia oa ([32,38,32]) 3 f.kids 0).flatten)))]])) (b:=(bz (u+(sevR ia oa ([32,38,32]) 3 f.kids 0).length) 5 1 (List.map bB (l++(sevR ia oa ([32,38,32]) 3 f.kids 0).flatten)))) rfl ?_ (by simp) (.same (cut_fin 2 _) _) (@rfl Blk (bk v 94 4 [[(V.sl (List.map cS (ia))),(V.sl (List.map cS (oa))),(V.mp 0 v 0 2),(V.ms 1 (u+(sevR ia oa ([32,38,32]) 3 f.kids 0).length) 0 (List.length (l++(sevR ia oa ([32,38,32]) 3 f.kids 0).flatten)))]])) (@rfl Blk (bz (u+(sevR ia oa ([32,38,32]) 3 f.kids 0).length) 5 1 (List.map bB (l++(sevR ia oa ([32,38,32]) 3 f.kids 0).flatten)))) (by simp [locB,loc0]) (bB_loc _)
  rw [hP] <;> rfl
 have o5: ¬f.op=5:=c9
 refine W_r (R_eql rfl rfl (R_mv rfl (R_e ?_)))
 refine W_if rfl (fun c10=>?_) fun c10=>?_
 ·
  have o:f.op=8:=c10
  have hk:1 < f.kids.length:=by omega
  have hP:shP ia oa f=_:=shP_8 o hk
  obtain ⟨e1,e2,hf⟩:=shW_bin hP u l
  simp only [List.length_cons,List.length_nil,List.length_append] at hf
  refine W_r (R_mv rfl (R_fk rfl rfl (R_lk rfl rfl rfl rfl (R_idxu (i:=0) (@rfl V (V.sl (List.map cF (f.kids)))) (@rfl V (iV ((0:Nat):Int))) (by omega) (cF_eq _) rfl (R_load_pp rfl rfl (R_callE (evcons rfl (evcons rfl (evcons rfl evnil))) (LocC.use2 (i:=0) (j:=1) (arg_loc v u ia oa ((a)) l (((nth (f.kids) (0)))) 4 ha (by omega) (ih _ (by omega))) (by decide) rfl (@rfl Blk (bk v 94 4 [[(V.sl (List.map cS (ia))),(V.sl (List.map cS (oa))),(a),(V.ms 1 u 0 (List.length (l)))]])) (@rfl Blk (bz u 5 1 (List.map bB (l)))) (by rcases ha with rfl|rfl <;> rfl) (bB_ren _ _) rfl (bB_ren _ _)) (R_e ?_)))))))
  refine W_r (R_mv rfl (R_nilck_mp rfl rfl oB (R_fk rfl rfl (R_callE (evcons rfl (evcons rfl evnil)) (LocC.use2 (i:=0) (j:=1) (wstr_loc v (u+(argP 4 (shQ ia oa (((nth (f.kids) (0)))))).length) ia oa (V.mp 0 v 0 2) (l++(argP 4 (shQ ia oa (((nth (f.kids) (0)))))).flatten) ([32,85,32]) (.inr rfl) (by (simp only [List.length_append,List.length_cons,List.length_nil]; omega))) (by decide) rfl (@rfl Blk (bk v 94 4 [[(V.sl (List.map cS (ia))),(V.sl (List.map cS (oa))),(V.mp 0 v 0 2),(V.ms 1 (u+(argP 4 (shQ ia oa (((nth (f.kids) (0)))))).length) 0 (List.length (l++(argP 4 (shQ ia oa (((nth (f.kids) (0)))))).flatten)))]])) (@rfl Blk (bz (u+(argP 4 (shQ ia oa (((nth (f.kids) (0)))))).length) 5 1 (List.map bB (l++(argP 4 (shQ ia oa (((nth (f.kids) (0)))))).flatten)))) rfl (bB_ren _ _) rfl (bB_ren _ _)) (R_e (W_t (R_mv rfl ?_)))))))
  refine R_fk rfl rfl (R_lk rfl rfl rfl rfl (R_idxu (i:=1) (@rfl V (V.sl (List.map cF (f.kids)))) (@rfl V (iV ((1:Nat):Int))) (by omega) (cF_eq _) rfl (R_load_pp rfl rfl (R_callE (evcons rfl (evcons rfl (evcons rfl evnil))) (LocC.use2 (i:=0) (j:=1) (arg_loc v ((u+(argP 4 (shQ ia oa (((nth (f.kids) (0)))))).length)+1) ia oa (.mp 0 v 0 2) (l++(argP 4 (shQ ia oa (((nth (f.kids) (0)))))).flatten++([32,85,32])) (((nth (f.kids) (1)))) 3 (.inr rfl) (by (simp only [List.length_append,List.length_cons,List.length_nil]; omega)) (ih _ (by omega))) (by decide) rfl (@rfl Blk (bk v 94 4 [[(V.sl (List.map cS (ia))),(V.sl (List.map cS (oa))),(V.mp 0 v 0 2),(V.ms 1 ((u+(argP 4 (shQ ia oa (((nth (f.kids) (0)))))).length)+1) 0 (List.length (l++(argP 4 (shQ ia oa (((nth (f.kids) (0)))))).flatten++([32,85,32]))))]])) (@rfl Blk (bz ((u+(argP 4 (shQ ia oa (((nth (f.kids) (0)))))).length)+1) 5 1 (List.map bB (l++(argP 4 (shQ ia oa (((nth (f.kids) (0)))))).flatten++([32,85,32]))))) rfl (bB_ren _ _) rfl (bB_ren _ _)) (R_e (n1 _ _ ?_))))))
  refine RetL2_okn (v:=(V.tup [])) (a:=(bk v 94 4 [[(V.sl (List.map cS (ia))),(V.sl (List.map cS (oa))),(V.mp 0 v 0 2),(V.ms 1 (((u+(argP 4 (shQ ia oa (((nth (f.kids) (0)))))).length)+1)+(argP 3 (shQ ia oa (((nth (f.kids) (1)))))).length) 0 (List.length ((l++(argP 4 (shQ ia oa (((nth (f.kids) (0)))))).flatten++([32,85,32]))++(argP 3 (shQ ia oa (((nth (f.kids) (1)))))).flatten)))]])) (b:=(bz (((u+(argP 4 (shQ ia oa (((nth (f.kids) (0)))))).length)+1)+(argP 3 (shQ ia oa (((nth (f.kids) (1)))))).length) 5 1 (List.map bB ((l++(argP 4 (shQ ia oa (((nth (f.kids) (0)))))).flatten++([32,85,32]))++(argP 3 (shQ ia oa (((nth (f.kids) (1)))))).flatten)))) rfl ?_ (by simp) (.same (cut_fin 2 _) _) (@rfl Blk (bk v 94 4 [[(V.sl (List.map cS (ia))),(V.sl (List.map cS (oa))),(V.mp 0 v 0 2),(V.ms 1 (((u+(argP 4 (shQ ia oa (((nth (f.kids) (0)))))).length)+1)+(argP 3 (shQ ia oa (((nth (f.kids) (1)))))).length) 0 (List.length ((l++(argP 4 (shQ ia oa (((nth (f.kids) (0)))))).flatten++([32,85,32]))++(argP 3 (shQ ia oa (((nth (f.kids) (1)))))).flatten)))]])) (@rfl Blk (bz (((u+(argP 4 (shQ ia oa (((nth (f.kids) (0)))))).length)+1)+(argP 3 (shQ ia oa (((nth (f.kids) (1)))))).length) 5 1 (List.map bB ((l++(argP 4 (shQ ia oa (((nth (f.kids) (0)))))).flatten++([32,85,32]))++(argP 3 (shQ ia oa (((nth (f.kids) (1)))))).flatten)))) (by simp [locB,loc0]) (bB_loc _)
  rw [e1,e2] <;> rfl
 have o8: ¬f.op=8:=c10
 refine W_r (R_eql rfl rfl (R_mv rfl (R_e ?_)))
 refine W_if rfl (fun c11=>?_) fun c11=>?_
 ·
  have o:f.op=10:=c11
  have hk:1 < f.kids.length:=by omega
  have hP:shP ia oa f=_:=shP_10 o hk
  obtain ⟨e1,e2,hf⟩:=shW_bin hP u l
  simp only [List.length_cons,List.length_nil,List.length_append] at hf
  refine W_r (R_mv rfl (R_fk rfl rfl (R_lk rfl rfl rfl rfl (R_idxu (i:=0) (@rfl V (V.sl (List.map cF (f.kids)))) (@rfl V (iV ((0:Nat):Int))) (by omega) (cF_eq _) rfl (R_load_pp rfl rfl (R_callE (evcons rfl (evcons rfl (evcons rfl evnil))) (LocC.use2 (i:=0) (j:=1) (arg_loc v u ia oa ((a)) l (((nth (f.kids) (0)))) 4 ha (by omega) (ih _ (by omega))) (by decide) rfl (@rfl Blk (bk v 94 4 [[(V.sl (List.map cS (ia))),(V.sl (List.map cS (oa))),(a),(V.ms 1 u 0 (List.length (l)))]])) (@rfl Blk (bz u 5 1 (List.map bB (l)))) (by rcases ha with rfl|rfl <;> rfl) (bB_ren _ _) rfl (bB_ren _ _)) (R_e ?_)))))))
  refine W_r (R_mv rfl (R_nilck_mp rfl rfl oB (R_fk rfl rfl (R_callE (evcons rfl (evcons rfl evnil)) (LocC.use2 (i:=0) (j:=1) (wstr_loc v (u+(argP 4 (shQ ia oa (((nth (f.kids) (0)))))).length) ia oa (V.mp 0 v 0 2) (l++(argP 4 (shQ ia oa (((nth (f.kids) (0)))))).flatten) ([32,82,32]) (.inr rfl) (by (simp only [List.length_append,List.length_cons,List.length_nil]; omega))) (by decide) rfl (@rfl Blk (bk v 94 4 [[(V.sl (List.map cS (ia))),(V.sl (List.map cS (oa))),(V.mp 0 v 0 2),(V.ms 1 (u+(argP 4 (shQ ia oa (((nth (f.kids) (0)))))).length) 0 (List.length (l++(argP 4 (shQ ia oa (((nth (f.kids) (0)))))).flatten)))]])) (@rfl Blk (bz (u+(argP 4 (shQ ia oa (((nth (f.kids) (0)))))).length) 5 1 (List.map bB (l++(argP 4 (shQ ia oa (((nth (f.kids) (0)))))).flatten)))) rfl (bB_ren _ _) rfl (bB_ren _ _)) (R_e (W_t (R_mv rfl ?_)))))))
  refine R_fk rfl rfl (R_lk rfl rfl rfl rfl (R_idxu (i:=1) (@rfl V (V.sl (List.map cF (f.kids)))) (@rfl V (iV ((1:Nat):Int))) (by omega) (cF_eq _) rfl (R_load_pp rfl rfl (R_callE (evcons rfl (evcons rfl (evcons rfl evnil))) (LocC.use2 (i:=0) (j:=1) (arg_loc v ((u+(argP 4 (shQ ia oa (((nth (f.kids) (0)))))).length)+1) ia oa (.mp 0 v 0 2) (l++(argP 4 (shQ ia oa (((nth (f.kids) (0)))))).flatten++([32,82,32])) (((nth (f.kids) (1)))) 3 (.inr rfl) (by (simp only [List.length_append,List.length_cons,List.length_nil]; omega)) (ih _ (by omega))) (by decide) rfl (@rfl Blk (bk v 94 4 [[(V.sl (List.map cS (ia))),(V.sl (List.map cS (oa))),(V.mp 0 v 0 2),(V.ms 1 ((u+(argP 4 (shQ ia oa (((nth (f.kids) (0)))))).length)+1) 0 (List.length (l++(argP 4 (shQ ia oa (((nth (f.kids) (0)))))).flatten++([32,82,32]))))]])) (@rfl Blk (bz ((u+(argP 4 (shQ ia oa (((nth (f.kids) (0)))))).length)+1) 5 1 (List.map bB (l++(argP 4 (shQ ia oa (((nth (f.kids) (0)))))).flatten++([32,82,32]))))) rfl (bB_ren _ _) rfl (bB_ren _ _)) (R_e (n1 _ _ ?_))))))
  refine RetL2_okn (v:=(V.tup [])) (a:=(bk v 94 4 [[(V.sl (List.map cS (ia))),(V.sl (List.map cS (oa))),(V.mp 0 v 0 2),(V.ms 1 (((u+(argP 4 (shQ ia oa (((nth (f.kids) (0)))))).length)+1)+(argP 3 (shQ ia oa (((nth (f.kids) (1)))))).length) 0 (List.length ((l++(argP 4 (shQ ia oa (((nth (f.kids) (0)))))).flatten++([32,82,32]))++(argP 3 (shQ ia oa (((nth (f.kids) (1)))))).flatten)))]])) (b:=(bz (((u+(argP 4 (shQ ia oa (((nth (f.kids) (0)))))).length)+1)+(argP 3 (shQ ia oa (((nth (f.kids) (1)))))).length) 5 1 (List.map bB ((l++(argP 4 (shQ ia oa (((nth (f.kids) (0)))))).flatten++([32,82,32]))++(argP 3 (shQ ia oa (((nth (f.kids) (1)))))).flatten)))) rfl ?_ (by simp) (.same (cut_fin 2 _) _) (@rfl Blk (bk v 94 4 [[(V.sl (List.map cS (ia))),(V.sl (List.map cS (oa))),(V.mp 0 v 0 2),(V.ms 1 (((u+(argP 4 (shQ ia oa (((nth (f.kids) (0)))))).length)+1)+(argP 3 (shQ ia oa (((nth (f.kids) (1)))))).length) 0 (List.length ((l++(argP 4 (shQ ia oa (((nth (f.kids) (0)))))).flatten++([32,82,32]))++(argP 3 (shQ ia oa (((nth (f.kids) (1)))))).flatten)))]])) (@rfl Blk (bz (((u+(argP 4 (shQ ia oa (((nth (f.kids) (0)))))).length)+1)+(argP 3 (shQ ia oa (((nth (f.kids) (1)))))).length) 5 1 (List.map bB ((l++(argP 4 (shQ ia oa (((nth (f.kids) (0)))))).flatten++([32,82,32]))++(argP 3 (shQ ia oa (((nth (f.kids) (1)))))).flatten)))) (by simp [locB,loc0]) (bB_loc _)
  rw [e1,e2] <;> rfl
 · exfalso; omega
theorem show_loc_n (v:Nat) (ia oa:List (List UInt8)): ∀ (n:Nat) (f:Fm),f.sz≤n→okF f=true→nmd ((ia.length:Nat):Int) ((oa.length:Nat):Int) f=true→ ∀ (u:Nat) (a:V) (l:List UInt8),(a=.nilp∨a=.mp 0 v 0 2)→l.length+(shP ia oa f).flatten.length≤4294967296→LocC Try.prog 44 2 [.mp 0 v 0 0,fmV f] (hpB2 (bk v 94 4 [[.sl (ia.map cS),.sl (oa.map cS),a,.ms 1 u 0 (List.length (l))]]) ⟨u,true,true,5,1,(l).map bB⟩) (.ok (.tup []) (hpB2 (bk v 94 4 [[.sl (ia.map cS),.sl (oa.map cS),.mp 0 v 0 2,.ms 1 ((u+(shP ia oa f).length)) 0 (List.length (l++(shP ia oa f).flatten))]]) ⟨(u+(shP ia oa f).length),true,true,5,1,(l++(shP ia oa f).flatten).map bB⟩))
  |0,f,h,_,_=>by cases f; rw [Fm.sz] at h; omega
  |n+1,f,h,hok,hnm=>fun u a l ha hl=>show_step v u ia oa a l f ha hl hok hnm fun k hk=>show_loc_n v ia oa n (nth f.kids k) (by have:=Fm.sz_kid hk; omega) ((okF_parts hok).2 k hk) (nmd_kid hnm hk)
theorem show_loc (v:Nat) (ia oa:List (List UInt8)) (f:Fm) (hok:okF f=true) (hnm:nmd ((ia.length:Nat):Int) ((oa.length:Nat):Int) f=true): ∀ (u:Nat) (a:V) (l:List UInt8),(a=.nilp∨a=.mp 0 v 0 2)→l.length+(shP ia oa f).flatten.length≤4294967296→LocC Try.prog 44 2 [.mp 0 v 0 0,fmV f] (hpB2 (bk v 94 4 [[.sl (ia.map cS),.sl (oa.map cS),a,.ms 1 u 0 (List.length (l))]]) ⟨u,true,true,5,1,(l).map bB⟩) (.ok (.tup []) (hpB2 (bk v 94 4 [[.sl (ia.map cS),.sl (oa.map cS),.mp 0 v 0 2,.ms 1 ((u+(shP ia oa f).length)) 0 (List.length (l++(shP ia oa f).flatten))]]) ⟨(u+(shP ia oa f).length),true,true,5,1,(l++(shP ia oa f).flatten).map bB⟩)):=show_loc_n v ia oa f.sz f (Nat.le_refl _) hok hnm
theorem bu119:Try.prog.underlying 119=some (.pointer 5):=by kernel_rfl
theorem bc5:Try.prog.cellsOf 5=1:=by kernel_rfl
set_option maxHeartbeats 1000000 in
set_option maxRecDepth 100000 in
theorem string_calls (b g cap:Nat) (cur:Array Value) (l:List UInt8) (w:World) (h0:l≠[]) (hcap:cap≠0) (h63:l.length≤9223372036854775807)
    (hc:w.cell? ⟨b,3,none⟩=some (.slice (some ⟨g,0,none⟩) l.length cap)) (hg:w.heap[g]?=some (.cells cur 5 (0,0))) (hcur:l.length≤cur.size)
    (hcells: ∀ j x,l[j]?=some x→w.cell? ((⟨g,0,none⟩:Addr).add j)=some (.int .u8 x.toNat)):
    Calls Try.prog 45 #[.pointer (some ⟨b,2,none⟩)] w fun e w'=>e=.returned (.string ⟨l.toArray⟩)∧w'=w.drew.freeze ⟨g,0,none⟩ l.length:=by
  have c1:w.drew.cell? ⟨b,3,none⟩=some (.slice (some ⟨g,0,none⟩) l.length cap):=hc
  have hSD:(Builtin.unsafeSliceData_ #[90] 119 #[.slice (some ⟨g,0,none⟩) l.length cap]).run Try.prog w.drew=.ok (.pointer (some ⟨g,0,none⟩)) w.drew:=
    Lib.run_unsafeSliceData_row _ _ _ _ _ _ hcap
  have hUS:(Builtin.unsafeString_ #[119,3] 9 #[.pointer (some ⟨g,0,none⟩),.int .i64 l.length]).run Try.prog w.drew=.ok (.string ⟨l.toArray⟩) (w.drew.freeze ⟨g,0,none⟩ l.length):=
    Lib.run_unsafeString_row w.drew 119 3 9 5 bu119 bc5 g cur.size (by have hg':w.drew.heap[g]?=some (.cells cur 5 (0,0)):=hg; simp [World.shape?,hg']) l h0 hcur h63 hcells
  have mixed:Try.prog.follows .mixedOrders=true:=by kernel_rfl
  go_enter Try.func45,Try.ntmps45
  go_wp2
  go_region_o
  all_goals (go_wp2; go_ret; exact ⟨rfl,rfl⟩)
theorem bB_rend {v ty:Nat} {lz lv:Bool} (ρ:Nat→Nat) (l:List UInt8):(⟨v,lv,lz,ty,1,l.map bB⟩:Blk)=renB ρ ⟨v,lv,lz,ty,1,l.map bB⟩:=by
  simp only [renB,List.map_map]
  congr 1
theorem step_forget {x : Cx} (hx : Inv x) (j : Nat) (hj : (x.H j).own = true) (w' : World) (h1 : w'.os = x.w.os) (h2 : w'.tape = x.w.tape) (h3 : w'.output = x.w.output) (h4 : w'.heap.size = x.w.heap.size) (h5 : x.w.drawn ≤ w'.drawn)
    (h6: ∀ b,b≠x.σ j→w'.heap[b]?=x.w.heap[b]?):
    let y:Cx:={x with w:=w',H:=upd x.H j {x.H j with live:=false}}
    Inv y∧Frame x y:=by
  intro y
  have dead:(y.H j).own=false:=by show (upd x.H j _ j).own=false; rw [upd_same]; simp [Blk.own]
  have oth: ∀ id,id≠j→y.H id=x.H id:=fun id h=>upd_ne _ _ h
  have ne: ∀ id,(x.H id).own=true→id≠j→x.σ id≠x.σ j:=fun id ho h e=>h (hx.inj id j ho hj e)
  have hF:Frame x y:=by
    refine ⟨h1,h2,h3,Nat.le_of_eq h4.symm,fun b _ hb=>h6 b (Ne.symm (hb j hj)),fun _ h=>h,fun _ h=>.inl h,fun id=>?_,fun id ho=>?_,h5⟩
    · by_cases e:id=j
      · subst e
        refine ⟨by show _≤(upd x.H id _ id).ver; rw [upd_same]; exact Nat.le_refl _,fun hl=>?_⟩
        have:(y.H id).live=false:=by show (upd x.H id _ id).live=false; rw [upd_same]
        rw [this] at hl; cases hl
      · rw [oth id e]
        refine ⟨Nat.le_refl _,fun hl _=>⟨hl,rfl,rfl,rfl,fun ho=>⟨rfl,?_⟩⟩⟩
        unfold rowSize
        rw [show y.w.heap[x.σ id]?=x.w.heap[x.σ id]? from h6 _ (ne id ho e)]
    · by_cases e:id=j
      · subst e; rw [dead] at ho; cases ho
      · rw [oth id e] at ho; exact .inl ⟨ho,rfl⟩
  refine ⟨⟨fun b hb=>by show b < w'.heap.size; rw [h4]; exact hx.zlt b hb,fun b id hb ho=>?_,fun id ho=>?_,fun a b ha hb e=>?_⟩,hF⟩
  · by_cases e:id=j
    · subst e; rw [dead] at ho; cases ho
    · rw [oth id e] at ho; exact hx.zown b id hb ho
  · by_cases e:id=j
    · subst e; rw [dead] at ho; cases ho
    · rw [oth id e] at ho ⊢
      obtain ⟨cc,g1,g2,g3,g4⟩:=hx.blk id ho
      exact ⟨cc,by rw [show y.w.heap[x.σ id]?=x.w.heap[x.σ id]? from h6 _ (ne id ho e)]; exact g1,g2,g3,fun r row j v hr hj=>(g4 r row j v hr hj).frame hx hF⟩
  · by_cases e1:a=j
    · subst e1; rw [dead] at ha; cases ha
    · by_cases e2:b=j
      · subst e2; rw [dead] at hb; cases hb
      · rw [oth a e1] at ha; rw [oth b e2] at hb
        exact hx.inj a b ha hb e
theorem string_loc (v u : Nat) (i o a : V) (l : List UInt8) (h0 : l ≠ []) : LocC Try.prog 45 2 [.mp 0 v 0 2] (hpB2 (bk v 94 4 [[i, o, a, .ms 1 u 0 l.length]]) ⟨u, true, true, 5, 1, l.map bB⟩)
    (.ok (.str l) (hpB2 (bk v 94 4 [[i,o,a,.ms 1 u 0 l.length]]) ⟨u,false,true,5,1,l.map bB⟩)):=by
  intro H ρ hρ hH
  refine ⟨⟨_,Try.func45,by kernel_rfl,by kernel_rfl⟩,fun x cs hxH hx hr=>?_⟩
  subst hxH
  have e0:x.H (ρ 0)=bk v 94 4 [[ren0 ρ i,ren0 ρ o,ren0 ρ a,.ms (ρ 1) u 0 l.length]]:=hH 0 (by omega)
  have e1:x.H (ρ 1)=⟨u,true,true,5,1,l.map bB⟩:=(hH 1 (by omega)).trans (bB_ren _ _).symm
  have hne:ρ 1≠ρ 0:=fun q=>absurd (hρ 1 0 (by omega) (by omega) q) (by omega)
  have hl0:l.length≠0:=by simpa using h0
  have ho0:(x.H (ρ 0)).own=true:=by rw [e0]; rfl
  have ho1:(x.H (ρ 1)).own=true:=by rw [e1]; cases l with
    |nil=>exact absurd rfl h0
    |cons c l=>rfl
  obtain ⟨cc,g1,g2,g3,g4⟩:=hx.blk (ρ 0) ho0
  obtain ⟨cd,k1,k2,k3,k4⟩:=hx.blk (ρ 1) ho1
  have hty:(x.H (ρ 0)).ty=94:=by rw [e0]
  have hsz:(x.H (ρ 0)).sz=4:=by rw [e0]
  have hty1:(x.H (ρ 1)).ty=5:=by rw [e1]
  have hsz1:(x.H (ρ 1)).sz=1:=by rw [e1]
  rw [hty] at g1
  rw [hty1] at k1
  have hcs:4≤cc.size:=by rw [e0] at g3; simpa using g3
  have hcd:l.length≤cd.size:=by rw [e1] at k3; simpa using k3
  have hrows:(x.H (ρ 0)).rows[0]?=some [ren0 ρ i,ren0 ρ o,ren0 ρ a,.ms (ρ 1) u 0 l.length]:=by rw [e0]; rfl
  have c3:=g4 0 _ 3 _ hrows rfl
  rw [hsz] at c3
  have hcell:x.w.cell? ⟨x.σ (ρ 0),3,none⟩=some (cc.getD 3 undef):=own_cell g1 (by omega)
  obtain ⟨cap,hq,hcap,hm⟩: ∃ cap,cc.getD 3 undef=.slice (some ⟨x.σ (ρ 1),0,none⟩) l.length cap∧l.length≤cap∧cap≤maxLen:=by
    have c3:R x (.ms (ρ 1) u 0 l.length) (cc.getD 3 undef):=c3
    generalize cc.getD 3 undef=q at c3
    cases c3 with
    | ms _ _ _ _ b m cap hv hh =>
      obtain ⟨q1,q2,q3,_,q5,_⟩:=hh (by rw [e1]) (by rw [e1])
      have:=(q5 ho1).1
      rw [Nat.zero_mul] at this
      exact ⟨cap,by rw [this,q1],q2,q3⟩
  rw [hq] at hcell
  have hcells: ∀ j b,l[j]?=some b→x.w.cell? ((⟨x.σ (ρ 1),0,none⟩:Addr).add j)=some (.int .u8 b.toNat):=fun j b hj=>by
    have hjl:j < l.length:=(List.getElem?_eq_some_iff.1 hj).1
    have r1:=k4 j [u8V b] 0 (u8V b) (by rw [e1]; show (l.map bB)[j]?=_; rw [List.getElem?_map,hj]; rfl) rfl
    rw [hsz1,Nat.mul_one,Nat.add_zero] at r1
    rw [Addr.add_lit,Nat.zero_add,own_cell k1 (by omega)]
    generalize cd.getD j undef=q at r1
    cases r1; rfl
  obtain ⟨hlen,hr⟩:=hr
  match cs,hlen with
  | [c1], _ =>
    have r0:R x (.mp (ρ 0) v 0 2) c1:=hr 0 _ rfl
    cases r0 with
    | mp _ _ _ _ p hv' hh =>
      have hp:=hh (by rw [e0]) ho0
      rw [hsz] at hp
      simp only [Nat.zero_mul,Nat.zero_add] at hp
      subst hp
      have hmax:maxLen=9223372036854775807:=rfl
      refine (string_calls (x.σ (ρ 0)) (x.σ (ρ 1)) cap cd l x.w h0 (by omega) (by omega) hcell k1 hcd hcells).mono fun e w' h=>?_
      obtain ⟨rfl,rfl⟩:=h
      obtain ⟨hI,hF⟩:=step_forget hx (ρ 1) ho1 (x.w.drew.freeze ⟨x.σ (ρ 1),0,none⟩ l.length) (by simp [World.freeze,hl0] <;> rfl) (by simp [World.freeze,hl0] <;> rfl) (by simp [World.freeze,hl0] <;> rfl) (by simp [World.freeze,hl0] <;> rfl) (by simp [World.freeze,hl0])
        (fun b hb=>by simp [World.freeze,hl0,Array.getElem?_modify,Ne.symm hb]; rfl)
      refine ⟨_,_,rfl,rfl,?_,hI,.str l,hF⟩
      funext j
      simp only [putL]
      by_cases q1:j=ρ 1
      · subst q1
        rw [upd_same,upd_same,e1]
        exact bB_rend ρ l
      · rw [upd_ne _ _ q1,upd_ne _ _ q1]
        by_cases q0:j=ρ 0
        · subst q0; rw [upd_same,e0]; rfl
        · rw [upd_ne _ _ q0]
end Go.Proofs.Ytdmcmkccifmofaa
namespace Go.Proofs.Ytdmcmkccifmofaa
open Go
def shwT (ia oa:List (List UInt8)) (f:Fm):List UInt8×Int:=
  if avs ia oa≠0 then ([],avs ia oa) else if fval f≠0 then ([],fval f) else if nmd ((ia.length:Nat):Int) ((oa.length:Nat):Int) f=true then ((shP ia oa f).flatten,0) else ([],2)
section
variable {ia oa:List (List UInt8)}
theorem argP_le (lv:Int) (q:Int×List (List UInt8)):(argP lv q).flatten.length≤q.2.flatten.length+2:=by
  by_cases h:lv≤stg q.1
  · rw [argP_yes h]; omega
  · rw [(argP_len h).1]; exact Nat.le_refl _
theorem sevP_le {sep:List UInt8} {lv:Int} (hs:sep.length≤3): ∀ (l:List Fm) (i:Nat),(∀ k,k < l.length→(shP ia oa (nth l k)).flatten.length+10≤200*(nth l k).sz)→(sevP sep lv (l.map (shQ ia oa)) i).flatten.length≤200*Fm.szs l
  |[],_,_=>by simp [sevP]
  | f :: l, i, h => by
    have h0:=h 0 (by simp)
    have h1:=sevP_le (sep:=sep) (lv:=lv) hs l (i+1) fun k hk=>h (k+1) (by simpa using hk)
    have h2:=argP_le lv (shQ ia oa f)
    rw [List.map_cons,sevP,Fm.szs,List.flatten_append,List.flatten_append,List.length_append,List.length_append]
    have h3:(if i=0 then [] else [sep]).flatten.length≤3:=by split <;> simp; exact hs
    have h0':(shP ia oa f).flatten.length+10≤200*f.sz:=h0
    have h2':(argP lv (shQ ia oa f)).flatten.length≤(shP ia oa f).flatten.length+2:=h2
    omega
theorem shP_sz (hn : ∀ k, k < ia.length → (nth ia k).length ≤ 100) (hm : ∀ k, k < oa.length → (nth oa k).length ≤ 100) : ∀ (n : Nat) (f : Fm), f.sz ≤ n → okF f = true → nmd ((ia.length : Nat) : Int) ((oa.length : Nat) : Int) f = true → (shP ia oa f).flatten.length + 10 ≤ 200 * f.sz
  |0,f,h,_,_=>by cases f; rw [Fm.sz] at h; omega
  | n + 1, f, h, hok, hnm => by
    obtain ⟨r1,r2,r3,r4,r5,r6,r7,r8,r9⟩:=rgt_ok (okF_parts hok).1
    have hkid: ∀ k,k < f.kids.length→(shP ia oa (nth f.kids k)).flatten.length+10≤200*(nth f.kids k).sz:=fun k hk=>
      shP_sz hn hm n (nth f.kids k) (by have:=Fm.sz_kid hk; omega) ((okF_parts hok).2 k hk) (nmd_kid hnm hk)
    have hsz:f.sz=Fm.szs f.kids+1:=by cases f; rw [Fm.sz]; rfl
    have ha:=nmd_arg hnm
    have un: ∀ x:List UInt8,x.length≤3→0 < f.kids.length→shP ia oa f=x::argP 4 (shQ ia oa (nth f.kids 0))→(shP ia oa f).flatten.length+10≤200*f.sz:=fun x hx hk hP=>by
      have h1:=(shW_un hP 0 []).2.2
      have h2:(argP 4 (shQ ia oa (nth f.kids 0))).flatten.length≤(shP ia oa (nth f.kids 0)).flatten.length+2:=argP_le 4 (shQ ia oa (nth f.kids 0))
      have h3:=hkid 0 hk
      have h4:=Fm.sz_kid hk
      omega
    have bin: ∀ x:List UInt8,x.length≤3→f.kids.length=2→shP ia oa f=argP 4 (shQ ia oa (nth f.kids 0))++(x::argP 3 (shQ ia oa (nth f.kids 1)))→(shP ia oa f).flatten.length+10≤200*f.sz:=fun x hx hk hP=>by
      have h1:=(shW_bin hP 0 []).2.2
      have h2:(argP 4 (shQ ia oa (nth f.kids 0))).flatten.length≤(shP ia oa (nth f.kids 0)).flatten.length+2:=argP_le 4 (shQ ia oa (nth f.kids 0))
      have h3:(argP 3 (shQ ia oa (nth f.kids 1))).flatten.length≤(shP ia oa (nth f.kids 1)).flatten.length+2:=argP_le 3 (shQ ia oa (nth f.kids 1))
      have h4:=hkid 0 (by omega)
      have h5:=hkid 1 (by omega)
      have h6:Fm.szs f.kids=(nth f.kids 0).sz+(nth f.kids 1).sz:=by
        match hq:f.kids,hk with
        |[a,b],_=>simp [Fm.szs]; rfl
      omega
    have sev: ∀ (sep:List UInt8) (lv:Int),sep.length≤3→shP ia oa f=sevR ia oa sep lv f.kids 0→(shP ia oa f).flatten.length+10≤200*f.sz:=fun sep lv hs hP=>by
      have h1:=sevP_le (ia:=ia) (oa:=oa) (sep:=sep) (lv:=lv) hs f.kids 0 hkid
      rw [hP]
      unfold sevR
      rw [List.drop_zero]
      omega
    by_cases o1:f.op=1
    · have:=(shW_leaf (shP_1 (ia:=ia) (oa:=oa) o1) 0 []).2.2
      have e:wTr.length=4:=rfl
      omega
    by_cases o2:f.op=2
    · have h1:=(shW_leaf (shP_2 (ia:=ia) (oa:=oa) o2) 0 []).2.2
      have h2:=hn f.arg.toNat (by have:=ha.1 o2; have:=r8 o2; omega)
      rw [List.length_append] at h1
      have e:wIn.length=3:=rfl
      omega
    by_cases o3:f.op=3
    · have h1:=(shW_leaf (shP_3 (ia:=ia) (oa:=oa) o3) 0 []).2.2
      have h2:=hm f.arg.toNat (by have:=ha.2 o3; have:=r9 o3; omega)
      rw [List.length_append] at h1
      have e:wOut.length=4:=rfl
      omega
    by_cases o4:f.op=4
    · have hk:0 < f.kids.length:=by have:=r4 (.inl o4); omega
      exact un _ (by simp) hk (shP_4 o4 hk)
    by_cases o7:f.op=7
    · have hk:0 < f.kids.length:=by have:=r4 (.inr (.inl o7)); omega
      exact un _ (by simp) hk (shP_7 o7 hk)
    by_cases o9:f.op=9
    · have hk:0 < f.kids.length:=by have:=r4 (.inr (.inr o9)); omega
      exact un _ (by simp) hk (shP_9 o9 hk)
    by_cases o6:f.op=6
    · exact sev _ _ (by simp) (shP_6 o6)
    by_cases o5:f.op=5
    · exact sev _ _ (by simp) (shP_5 o5)
    by_cases o8:f.op=8
    · have hk:=r6 (.inl o8)
      exact bin _ (by simp) hk (shP_8 o8 (by omega))
    · have o10:f.op=10:=by omega
      have hk:=r6 (.inr o10)
      exact bin _ (by simp) hk (shP_10 o10 (by omega))
theorem shP_len {f:Fm} (hok:fval f=0) (hnm:nmd ((ia.length:Nat):Int) ((oa.length:Nat):Int) f=true) (hn: ∀ k,k < ia.length→(nth ia k).length≤100) (hm: ∀ k,k < oa.length→(nth oa k).length≤100):(shP ia oa f).flatten.length≤1048576:=by
  have h1:=shP_sz hn hm f.sz f (Nat.le_refl _) (fval_ok hok) hnm
  have h2:=fval_sz hok
  omega
theorem argP_ge (lv:Int) (q:Int×List (List UInt8)):q.2.flatten.length≤(argP lv q).flatten.length:=by
  by_cases h:lv≤stg q.1
  · rw [argP_yes h]; exact Nat.le_refl _
  · rw [(argP_len h).1]; omega
theorem shP_pos: ∀ (n:Nat) (f:Fm),f.sz≤n→okF f=true→0 < (shP ia oa f).flatten.length
  |0,f,h,_=>by cases f; rw [Fm.sz] at h; omega
  | n + 1, f, h, hok => by
    obtain ⟨r1,r2,r3,r4,r5,r6,r7,r8,r9⟩:=rgt_ok (okF_parts hok).1
    have sev: ∀ (sep:List UInt8) (lv:Int),2≤f.kids.length→shP ia oa f=sevR ia oa sep lv f.kids 0→0 < (shP ia oa f).flatten.length:=fun sep lv hk hP=>by
      rw [hP,(sevR_0l (i:=0) (by omega) rfl).2]
      have h1:(shP ia oa (nth f.kids 0)).flatten.length≤(argP lv (shQ ia oa (nth f.kids 0))).flatten.length:=argP_ge lv (shQ ia oa (nth f.kids 0))
      have h2:=shP_pos n (nth f.kids 0) (by have:=Fm.sz_kid (f:=f) (k:=0) (by omega); omega) ((okF_parts hok).2 0 (by omega))
      omega
    by_cases o1:f.op=1
    · rw [(shW_leaf (shP_1 (ia:=ia) (oa:=oa) o1) 0 []).2.2]; simp
    by_cases o2:f.op=2
    · rw [(shW_leaf (shP_2 (ia:=ia) (oa:=oa) o2) 0 []).2.2]; simp
    by_cases o3:f.op=3
    · rw [(shW_leaf (shP_3 (ia:=ia) (oa:=oa) o3) 0 []).2.2]; simp
    by_cases o4:f.op=4
    · rw [(shW_un (shP_4 (ia:=ia) (oa:=oa) o4 (by have:=r4 (.inl o4); omega)) 0 []).2.2]; simp; omega
    by_cases o7:f.op=7
    · rw [(shW_un (shP_7 (ia:=ia) (oa:=oa) o7 (by have:=r4 (.inr (.inl o7)); omega)) 0 []).2.2]; simp; omega
    by_cases o9:f.op=9
    · rw [(shW_un (shP_9 (ia:=ia) (oa:=oa) o9 (by have:=r4 (.inr (.inr o9)); omega)) 0 []).2.2]; simp; omega
    by_cases o6:f.op=6
    · exact sev _ _ (r5 (.inr o6)) (shP_6 o6)
    by_cases o5:f.op=5
    · exact sev _ _ (r5 (.inl o5)) (shP_5 o5)
    by_cases o8:f.op=8
    · rw [(shW_bin (shP_8 (ia:=ia) (oa:=oa) o8 (by have:=r6 (.inl o8); omega)) 0 []).2.2]; simp; omega
    · have o10:f.op=10:=by omega
      rw [(shW_bin (shP_10 (ia:=ia) (oa:=oa) o10 (by have:=r6 (.inr o10); omega)) 0 []).2.2]; simp; omega
theorem shP_ne {f:Fm} (hok:okF f=true):(shP ia oa f).flatten≠[]:=fun h=>by
  have:=shP_pos (ia:=ia) (oa:=oa) f.sz f (Nat.le_refl _) hok
  rw [h] at this; exact absurd this (by simp)
end
end Go.Proofs.Ytdmcmkccifmofaa
namespace Go.Proofs.Ytdmcmkccifmofaa
open Go Go.Proofs
theorem show_pure (ia oa:List (List UInt8)) (f:Fm) (hn: ∀ k,k < ia.length→(nth ia k).length≤100) (hm: ∀ k,k < oa.length→(nth oa k).length≤100):PureC Try.prog 21 [(V.agg [(V.sl (List.map cS (ia)))]),(V.agg [(V.sl (List.map cS (oa)))]),(V.agg [(iV (f.op)),(iV (f.arg)),(V.sl (List.map cF (f.kids)))])] (V.tup [(V.str ((shwT ia oa f).1)),(iV ((shwT ia oa f).2))]):=by
 refine pW Try.func21 s21_ok fun hB=>?_
 unfold s21
 dsimp only
 refine W_r (R_box (i:=3) (n:=0) (m:=1) (cs:=[(V.sl (List.map cS (ia)))]) rfl (congrArg Blk.ver rfl) rfl rfl rfl (R_box (i:=4) (n:=0) (m:=1) (cs:=[(V.sl (List.map cS (oa)))]) rfl (congrArg Blk.ver rfl) rfl rfl rfl (R_box (i:=5) (n:=0) (m:=3) (cs:=[(iV (f.op)),(iV (f.arg)),(V.sl (List.map cF (f.kids)))]) rfl (congrArg Blk.ver rfl) rfl rfl rfl (R_mv rfl (R_mv rfl (R_e (W_seq_seq ?_)))))))
 refine W_r (R_lk rfl rfl rfl rfl (R_lk rfl rfl rfl rfl (R_callk (names_pure ia oa (by omega) (by omega)) rfl (R_mv rfl (R_e (W_seq_seq (W_r ?_)))))))
 refine R_mv rfl (R_neq rfl rfl (R_e ?_))
 refine W_seq_if rfl (fun c1=>?_) fun c1=>?_
 ·
  have d1:avs ia oa≠0:=c1
  refine W_seq_seq (W_r (R_mv rfl (R_mv rfl (R_mv rfl (R_e (W_seq_ret ?_))))))
  refine Ret_2 (@rfl V (V.str ([]))) (@rfl V (iV (avs ia oa))) (fz_canon (by simp) ?_) (fz_int ?_)
  · rw [shwT,if_pos d1] <;> rfl
  · rw [shwT,if_pos d1] <;> rfl
 have d1: ¬avs ia oa≠0:=c1
 refine W_seq_skip (W_seq_seq (W_r (R_lk rfl rfl rfl rfl (R_callk (fvalid_pure f) rfl (R_mv rfl (R_e (W_seq_seq ?_)))))))
 refine W_r (R_mv rfl (R_neq rfl rfl (R_e ?_)))
 refine W_seq_if rfl (fun c2=>?_) fun c2=>?_
 ·
  have d2:fval f≠0:=c2
  refine W_seq_seq (W_r (R_mv rfl (R_mv rfl (R_mv rfl (R_e (W_seq_ret ?_))))))
  refine Ret_2 (@rfl V (V.str ([]))) (@rfl V (iV (fval f))) (fz_canon (by simp) ?_) (fz_int ?_)
  · rw [shwT,if_neg d1,if_pos d2] <;> rfl
  · rw [shwT,if_neg d1,if_pos d2] <;> rfl
 have d2: ¬fval f≠0:=c2
 refine W_seq_skip (W_seq_seq (W_r (R_lk rfl rfl rfl rfl (R_lk rfl rfl rfl rfl (R_lk rfl rfl rfl rfl (R_callk (named_pure ia oa f) rfl (R_notb rfl ?_)))))))
 refine R_e ?_
 refine W_seq_ifb rfl (fun c3=>?_) (fun c3=>?_)
 ·
  have d3: ¬nmd ((ia.length:Nat):Int) ((oa.length:Nat):Int) f=true:=by have q:=c3; rw [Bool.not_eq_true'] at q; rw [q]; exact Bool.false_ne_true
  refine W_seq_seq (W_r (R_mv rfl (R_mv rfl (R_e (W_seq_ret ?_)))))
  refine Ret_2 (@rfl V (V.str ([]))) (@rfl V (iV (2:Int))) (fz_canon (by simp) ?_) (fz_int ?_)
  · rw [shwT,if_neg d1,if_neg d2,if_neg d3] <;> rfl
  · rw [shwT,if_neg d1,if_neg d2,if_neg d3] <;> rfl
 have d3:nmd ((ia.length:Nat):Int) ((oa.length:Nat):Int) f=true:=by have q:=c3; rwa [Bool.not_eq_false'] at q
 have hok:=fval_ok (Decidable.not_not.1 d2)
 have hnm:=d3
 have hlen:=shP_len (Decidable.not_not.1 d2) d3 hn hm
 have hne:=shP_ne (ia:=ia) (oa:=oa) hok
 refine W_seq_skip ?_
 refine W_seq_g (fun T H=>T 5=(V.mp 5 1 0 0)∧T 10=(V.mp 30 1 0 0)∧H 3=(bk 1 37 1 [[(V.sl (List.map cS (ia)))]])∧H 4=(bk 1 37 1 [[(V.sl (List.map cS (oa)))]])∧H 5=(bk 1 24 3 [[(iV (f.op)),(iV (f.arg)),(V.sl (List.map cF (f.kids)))]])∧H 30=(bk 1 94 4 [[(V.sl (List.map cS (ia))),(V.sl (List.map cS (oa))),V.nilp,V.nilsl]])∧H 200=(⟨0,false,false,0,0,[]⟩:Blk)∧True) ?_ ?_
 ·
  refine R_lk rfl rfl rfl rfl (R_lk rfl rfl rfl rfl (R_build rfl rfl (R_box (i:=30) (n:=0) (m:=4) (cs:=[(V.sl (List.map cS (ia))),(V.sl (List.map cS (oa))),V.nilp,V.nilsl]) rfl (congrArg Blk.ver rfl) rfl rfl rfl (R_mv rfl ?_))))
  exact R_nil ⟨rfl,rfl,rfl,rfl,rfl,rfl,rfl,trivial⟩
 intro T H ⟨t5,t10,h3,h4,h5,h30,h200,_⟩
 refine .lazyCell 200 5 1 30 0 3 [(V.sl (List.map cS (ia))),(V.sl (List.map cS (oa))),V.nilp,V.nilsl] (by decide) (by rw [h30]; rfl) (by rw [h30]; rfl) rfl (.done ?_)
 refine fork_ (R:=fun T H=>T 5=(V.mp 5 1 0 0)∧T 10=(V.mp 30 1 0 0)∧H 3=(bk 1 37 1 [[(V.sl (List.map cS (ia)))]])∧H 4=(bk 1 37 1 [[(V.sl (List.map cS (oa)))]])∧H 5=(bk 1 24 3 [[(iV (f.op)),(iV (f.arg)),(V.sl (List.map cF (f.kids)))]])∧H 30=(bk 1 94 4 [[(V.sl (List.map cS (ia))),(V.sl (List.map cS (oa))),V.nilp,(V.ms 200 1 0 (0))]])∧H 200=(bz 1 5 1 [])∧True) ⟨t5,t10,((upd_ne _ _ (by decide)).trans ((upd_ne _ _ (by decide)).trans h3)),((upd_ne _ _ (by decide)).trans ((upd_ne _ _ (by decide)).trans h4)),((upd_ne _ _ (by decide)).trans ((upd_ne _ _ (by decide)).trans h5)),(by rw [upd_same,h30,(congrArg Blk.ver h200)]; rfl),(by rw [upd_ne _ _ (by decide),upd_same,(congrArg Blk.ver h200)]),trivial⟩ ?_
 intro T H ⟨t5,t10,h3,h4,h5,h30,h200,_⟩
 refine W_r (R_mv t10 (R_lk t5 h5 rfl rfl (R_callE (evcons rfl (evcons rfl evnil)) (LocC.use2 (i:=30) (j:=200) (show_loc 1 ia oa f hok hnm 1 V.nilp ([]) (.inl rfl) (by (simp only [List.length_nil]; omega))) (by decide) rfl h30 (show _=(bz 1 5 1 (List.map bB ([]))) from h200) rfl (bB_ren _ _) rfl (bB_ren _ _)) (R_e (W_r (R_mv t10 (R_nilck_mp rfl rfl oB ?_)))))))
 refine R_fk rfl rfl (R_callE (evcons rfl evnil) (LocC.use2 (i:=30) (j:=200) (string_loc 1 (1+(shP ia oa f).length) (V.sl (List.map cS (ia))) (V.sl (List.map cS (oa))) (.mp 0 1 0 2) ((shP ia oa f).flatten) (by exact hne)) (by decide) rfl (@rfl Blk (bk 1 94 4 [[(V.sl (List.map cS (ia))),(V.sl (List.map cS (oa))),(V.mp 30 1 0 2),(V.ms 200 (1+(shP ia oa f).length) 0 (List.length ((shP ia oa f).flatten)))]])) (@rfl Blk (bz (1+(shP ia oa f).length) 5 1 (List.map bB ((shP ia oa f).flatten)))) rfl (bB_ren _ _) rfl (bB_rend _ _)) (R_mv rfl (R_mv rfl (R_e (W_ret ?_)))))
 refine Ret_2 (@rfl V (V.str ((shP ia oa f).flatten))) (@rfl V (iV (0:Int))) (fz_canon (by simp) ?_) (fz_int ?_)
 · rw [shwT,if_neg d1,if_neg d2,if_pos d3] <;> rfl
 · rw [shwT,if_neg d1,if_neg d2,if_pos d3] <;> rfl
def r23_6:List SO:=[
 qF 18 1 3,
 ql 19 18,
 qN 20 19,
 qF 21 0 3,
 ql 22 21,
 qN 23 22,
 qP 24 .neq 20 23,
 qM 17 24]
def r23_8:List SO:=[
 qL 25 3 2,
 qL 26 2 3,
 sO 27 (.call false 48 [.t 25,.t 26]),
 sO 28 (.idx 1 (.t 27) (.c (.int .i64 0))),
 ql 29 28,
 qM 4 29,
 qI 5 0]
def s23:SF:=⟨30,[.tmp 4,.tmp 5],.seq (.reg [sO 2 (.box 24 3 (.t 0)),sO 3 (.box 51 2 (.t 1)),sO 4 (.mv (.c (.bool false))),qI 5 0]) (.seq (.seq (.reg [qL 7 3 2,sO 8 (.call false 14 [.t 7]),qM 6 8]) (.seq (.reg [qM 9 6,qC 10 .neq 9 0]) (.cond (.t 10) (.seq (.reg [qM 11 6,sO 4 (.mv (.c (.bool false))),qM 5 11]) (.ret)) (.skip)))) (.seq (.block 0 (.seq (.reg [qF 13 0 3,ql 14 13,qN 15 14,qC 16 .gtr 15 1024,qM 12 16]) (.cond (.t 12) (.seq (.reg [sO 4 (.mv (.c (.bool false))),qI 5 3]) (.ret)) (.seq (.reg r23_6) (.cond (.t 17) (.seq (.reg [sO 4 (.mv (.c (.bool false))),qI 5 1]) (.ret)) (.skip)))))) (.seq (.reg r23_8) (.ret))))⟩
theorem s23_ok:slimF Try.prog ⟨[31,36,37,38,40,41,42,44,45,59,60,61,65,66,67,71,72,73,81,82,84,92,93,98,99,102,104],[],[],[]⟩ Try.f23=some s23:=by kernel_rfl
def r48_6:List SO:=[
 qM 21 6,
 qL 22 3 8,
 qL 23 2 3,
 sO 24 (.call false 48 [.t 22,.t 23]),
 sO 25 (.bslice 98 1 false [.nilsl] 1 [(0,.t 24)]),
 sO 26 (.append 98 1 24 (.t 21) (.t 25)),
 qM 6 26]
def b48_0:SC:=.seq (.reg [qP 18 .lss 17 16]) (.seq (.cond (.t 18) (.skip) (.exit 0)) (.seq (.block 1 (.seq (.reg [qA 19 3 15 17,qL 20 3 19,sO 8 (.alloc 24 [.int .i64 0,.int .i64 0,.nilsl]),sN (.store 3 (.t 8) (.t 20))]) (.reg r48_6))) (.reg [qC 27 .add 17 1,qM 17 27])))
def r48_12:List SO:=[
 qM 36 9,
 qM 37 10,
 qL 38 3 2,
 qL 39 2 3,
 qM 40 6,
 qM 41 9,
 qM 42 10,
 sO 43 (.call false 75 [.t 38,.t 39,.t 40,.t 41,.t 42]),
 qA 44 1 36 37,
 sN (.store 1 (.t 44) (.t 43))]
def b48_1:SC:=.seq (.seq (.reg [qM 32 10,qC 33 .geq 32 0]) (.cond (.t 33) (.skip) (.exit 2))) (.seq (.block 3 (.reg r48_12)) (.reg [qM 34 10,qC 35 .sub 34 1,qM 10 35]))
def s48:SF:=⟨46,[.tmp 4],.seq (.reg [sO 2 (.box 24 3 (.t 0)),sO 3 (.box 51 2 (.t 1)),sO 4 (.mv (.c (.nilsl)))]) (.seq (.reg [qF 11 0 3,ql 12 11,qN 13 12,qM 5 13]) (.seq (.reg [sO 6 (.lazy 98 1)]) (.seq (.seq (.reg [qF 14 2 2,ql 15 14,qN 16 15,qI 17 0]) (.block 0 (.loop b48_0))) (.seq (.reg [qM 28 5,qC 29 .add 28 1,sO 30 (.mks 4 1 1 [.bool false] (.t 29) (.t 29)),qM 9 30]) (.seq (.seq (.reg [qM 31 5,qM 10 31]) (.block 2 (.loop b48_1))) (.seq (.reg [qM 45 9,qM 4 45]) (.ret)))))))⟩
theorem s48_ok:slimF Try.prog ⟨[31,36,37,38,40,41,42,44,45,59,60,61,65,66,67,71,72,73,81,82,84,92,93,98,99,102,104],[6],[],[]⟩ Try.f48=some s48:=by kernel_rfl
def r75_7:List SO:=[
 qM 25 11,
 sO 26 (.un .not (.t 25)),
 qM 27 26,
 ⟨some (27,true),some 28,.fld 0 (.t 6)⟩,
 ⟨some (27,true),some 29,.load false 1 (.t 28)⟩,
 ⟨some (27,true),some 30,.load false 1 (.t 9)⟩,
 ⟨some (27,true),some 31,.idx 1 (.t 29) (.t 30)⟩,
 ⟨some (27,true),some 32,.load false 1 (.t 31)⟩,
 ⟨some (27,true),some 33,.fld 1 (.t 5)⟩,
 ⟨some (27,true),some 34,.load false 1 (.t 33)⟩,
 ⟨some (27,true),some 35,.bin .eql (.t 32) (.t 34)⟩,
 sO 36 (.pick (.t 27) (.t 35) (.c (.bool false))),
 qM 10 36]
def r75_9:List SO:=[
 qM 39 11,
 sO 40 (.un .not (.t 39)),
 qM 41 40,
 ⟨some (41,true),some 42,.fld 1 (.t 6)⟩,
 ⟨some (41,true),some 43,.load false 1 (.t 42)⟩,
 ⟨some (41,true),some 44,.load false 1 (.t 9)⟩,
 ⟨some (41,true),some 45,.idx 1 (.t 43) (.t 44)⟩,
 ⟨some (41,true),some 46,.load false 1 (.t 45)⟩,
 ⟨some (41,true),some 47,.fld 1 (.t 5)⟩,
 ⟨some (41,true),some 48,.load false 1 (.t 47)⟩,
 ⟨some (41,true),some 49,.bin .eql (.t 46) (.t 48)⟩,
 sO 50 (.pick (.t 41) (.t 49) (.c (.bool false))),
 qM 10 50]
def r75_11:List SO:=[
 qM 53 2,
 sO 54 (.idx 1 (.t 53) (.c (.int .i64 0))),
 ql 55 54,
 ql 56 9,
 qA 57 1 55 56,
 ql 58 57,
 sO 59 (.un .not (.t 58)),
 qM 10 59]
def r75_17:List SO:=[
 qM 73 11,
 sO 74 (.un .not (.t 73)),
 qM 75 74,
 ⟨some (75,true),some 76,.mv (.t 2)⟩,
 ⟨some (75,true),some 77,.idx 1 (.t 76) (.c (.int .i64 0))⟩,
 ⟨some (75,true),some 78,.load false 1 (.t 77)⟩,
 ⟨some (75,true),some 79,.load false 1 (.t 9)⟩,
 ⟨some (75,true),some 80,.bin .add (.t 79) (.c (.int .i64 1))⟩,
 ⟨some (75,true),some 81,.idx 1 (.t 78) (.t 80)⟩,
 ⟨some (75,true),some 82,.load false 1 (.t 81)⟩,
 sO 83 (.pick (.t 75) (.t 82) (.c (.bool false))),
 qM 10 83]
def r75_19:List SO:=[
 qM 86 11,
 qM 87 86,
 ⟨some (87,false),some 88,.mv (.t 2)⟩,
 ⟨some (87,false),some 89,.idx 1 (.t 88) (.c (.int .i64 0))⟩,
 ⟨some (87,false),some 90,.load false 1 (.t 89)⟩,
 ⟨some (87,false),some 91,.load false 1 (.t 9)⟩,
 ⟨some (87,false),some 92,.bin .add (.t 91) (.c (.int .i64 1))⟩,
 ⟨some (87,false),some 93,.idx 1 (.t 90) (.t 92)⟩,
 ⟨some (87,false),some 94,.load false 1 (.t 93)⟩,
 sO 95 (.pick (.t 87) (.c (.bool true)) (.t 94)),
 qM 10 95]
def r75_21:List SO:=[
 qM 98 2,
 sO 99 (.idx 1 (.t 98) (.c (.int .i64 1))),
 ql 100 99,
 ql 101 9,
 qA 102 1 100 101,
 ql 103 102,
 qM 104 103,
 ⟨some (104,false),some 105,.mv (.t 11)⟩,
 ⟨some (104,false),some 106,.un .not (.t 105)⟩,
 ⟨some (104,false),some 107,.mv (.t 106)⟩,
 ⟨some (107,true),some 108,.mv (.t 2)⟩,
 ⟨some (107,true),some 109,.idx 1 (.t 108) (.c (.int .i64 0))⟩,
 ⟨some (107,true),some 110,.load false 1 (.t 109)⟩,
 ⟨some (107,true),some 111,.load false 1 (.t 9)⟩,
 ⟨some (107,true),some 112,.idx 1 (.t 110) (.t 111)⟩,
 ⟨some (107,true),some 113,.load false 1 (.t 112)⟩,
 ⟨some (104,false),some 114,.pick (.t 107) (.t 113) (.c (.bool false))⟩,
 ⟨some (104,false),some 115,.mv (.t 114)⟩,
 ⟨some (115,true),some 116,.mv (.t 3)⟩,
 ⟨some (115,true),some 117,.load false 1 (.t 9)⟩,
 ⟨some (115,true),some 118,.bin .add (.t 117) (.c (.int .i64 1))⟩,
 ⟨some (115,true),some 119,.idx 1 (.t 116) (.t 118)⟩,
 ⟨some (115,true),some 120,.load false 1 (.t 119)⟩,
 ⟨some (104,false),some 121,.pick (.t 115) (.t 120) (.c (.bool false))⟩,
 sO 122 (.pick (.t 104) (.c (.bool true)) (.t 121)),
 qM 10 122]
def r75_22:List SO:=[
 qM 123 2,
 sO 124 (.idx 1 (.t 123) (.c (.int .i64 1))),
 ql 125 124,
 ql 126 9,
 qA 127 1 125 126,
 ql 128 127,
 qM 129 128,
 ⟨some (129,true),some 130,.mv (.t 11)⟩,
 ⟨some (129,true),some 131,.mv (.t 130)⟩,
 ⟨some (131,false),some 132,.mv (.t 2)⟩,
 ⟨some (131,false),some 133,.idx 1 (.t 132) (.c (.int .i64 0))⟩,
 ⟨some (131,false),some 134,.load false 1 (.t 133)⟩,
 ⟨some (131,false),some 135,.load false 1 (.t 9)⟩,
 ⟨some (131,false),some 136,.idx 1 (.t 134) (.t 135)⟩,
 ⟨some (131,false),some 137,.load false 1 (.t 136)⟩,
 ⟨some (129,true),some 138,.pick (.t 131) (.c (.bool true)) (.t 137)⟩,
 ⟨some (129,true),some 139,.mv (.t 138)⟩,
 ⟨some (139,false),some 140,.mv (.t 3)⟩,
 ⟨some (139,false),some 141,.load false 1 (.t 9)⟩,
 ⟨some (139,false),some 142,.bin .add (.t 141) (.c (.int .i64 1))⟩,
 ⟨some (139,false),some 143,.idx 1 (.t 140) (.t 142)⟩,
 ⟨some (139,false),some 144,.load false 1 (.t 143)⟩,
 ⟨some (129,true),some 145,.pick (.t 139) (.c (.bool true)) (.t 144)⟩,
 sO 146 (.pick (.t 129) (.t 145) (.c (.bool false))),
 qM 10 146]
def s75:SF:=⟨147,[.tmp 10],.seq (.reg [sO 5 (.box 24 3 (.t 0)),sO 6 (.box 51 2 (.t 1)),sO 9 (.box 3 1 (.t 4)),sO 10 (.mv (.c (.bool false)))]) (.seq (.reg [ql 13 9,qF 14 0 6,ql 15 14,qN 16 15,qP 17 .eql 13 16,qM 11 17]) (.seq (.reg [sO 18 (.mkf 87 [.t 9]),qM 12 18]) (.seq (.seq (.reg [qF 19 0 5,ql 20 19]) (.block 0 (.seq (.reg [qC 22 .eql 20 1,qM 21 22]) (.cond (.t 21) (.seq (.reg [sO 10 (.mv (.c (.bool true)))]) (.ret)) (.seq (.reg [qC 24 .eql 20 2,qM 23 24]) (.cond (.t 23) (.seq (.reg r75_7) (.ret)) (.seq (.reg [qC 38 .eql 20 3,qM 37 38]) (.cond (.t 37) (.seq (.reg r75_9) (.ret)) (.seq (.reg [qC 52 .eql 20 4,qM 51 52]) (.cond (.t 51) (.seq (.reg r75_11) (.ret)) (.seq (.reg [qC 61 .eql 20 5,qM 60 61]) (.cond (.t 60) (.seq (.reg [qM 62 2,sO 63 (.mkf 89 [.t 9]),sO 64 (.call false 88 [.t 62,.t 63]),sO 65 (.un .not (.t 64)),qM 10 65]) (.ret)) (.seq (.reg [qC 67 .eql 20 6,qM 66 67]) (.cond (.t 66) (.seq (.reg [qM 68 2,qM 69 12,sO 70 (.call false 88 [.t 68,.t 69]),qM 10 70]) (.ret)) (.seq (.reg [qC 72 .eql 20 7,qM 71 72]) (.cond (.t 71) (.seq (.reg r75_17) (.ret)) (.seq (.reg [qC 85 .eql 20 9,qM 84 85]) (.cond (.t 84) (.seq (.reg r75_19) (.ret)) (.seq (.reg [qC 97 .eql 20 8,qM 96 97]) (.cond (.t 96) (.seq (.reg r75_21) (.ret)) (.skip))))))))))))))))))))) (.seq (.reg r75_22) (.ret)))))⟩
theorem s75_ok:slimF Try.prog ⟨[31,36,37,38,40,41,42,44,45,59,60,61,65,66,67,71,72,73,81,82,84,92,93,98,99,102,104],[],[],[]⟩ Try.f75=some s75:=by kernel_rfl
def s87:SF:=⟨8,[.tmp 3],.seq (.reg [sO 3 (.mv (.c (.bool false)))]) (.seq (.reg [qM 4 0,ql 5 1,qA 6 1 4 5,ql 7 6,qM 3 7]) (.ret))⟩
theorem s87_ok:slimF Try.prog ⟨[31,36,37,38,40,41,42,44,45,59,60,61,65,66,67,71,72,73,81,82,84,92,93,98,99,102,104],[],[],[]⟩ Try.f87=some s87:=by kernel_rfl
theorem sat1_pure (w:List Bool) (i:Int) (h0:0≤i) (hi:i < w.length):PureC Try.prog 87 [(V.sl (List.map cB (w))),(V.pp [(iV (i))])] (V.bool (nth w i.toNat)):=by
 refine pW Try.func87 s87_ok fun hB=>?_
 unfold s87
 dsimp only
 refine W_r (R_mv rfl (R_e (W_r (R_mv rfl (R_load_pp rfl rfl (R_idxI (i:=(i)) (@rfl V (V.sl (List.map cB (w)))) (@rfl V (iV (i))) (by omega) (by omega) rfl (R_load_pp rfl rfl ?_)))))))
 refine R_mv rfl (R_e (W_ret ?_))
 refine Ret_1 (@rfl V (V.bool ((nth (w) (i).toNat)))) (fz_bool ?_)
 · rfl
def s88:SF:=⟨9,[.tmp 4],.seq (.reg [sO 4 (.mv (.c (.bool false)))]) (.seq (.reg [qM 5 0,qM 6 1,sO 7 (.call false 95 [.t 5,.t 6]),qC 8 .geq 7 0,qM 4 8]) (.ret))⟩
theorem s88_ok:slimF Try.prog ⟨[31,36,37,38,40,41,42,44,45,59,60,61,65,66,67,71,72,73,81,82,84,92,93,98,99,102,104],[],[],[]⟩ Try.f88=some s88:=by kernel_rfl
def b95_0:SC:=.seq (.reg [qP 9 .lss 8 7]) (.seq (.cond (.t 9) (.skip) (.exit 0)) (.seq (.block 1 (.seq (.reg [qM 10 8,qM 5 10]) (.seq (.reg [qM 11 1,qM 12 0,qM 13 5,qA 14 1 12 13,ql 15 14,sO 16 (.callv false (.t 11) [.t 15])]) (.cond (.t 16) (.seq (.reg [qM 17 5,qM 4 17]) (.ret)) (.skip))))) (.reg [qC 18 .add 8 1,qM 8 18])))
def s95:SF:=⟨19,[.tmp 4],.seq (.reg [qI 4 0]) (.seq (.seq (.reg [qM 6 0,qN 7 6,qI 8 0]) (.block 0 (.loop b95_0))) (.seq (.reg [sO 4 (.mv (.c (.int .i64 (-1))))]) (.ret)))⟩
theorem s95_ok:slimF Try.prog ⟨[31,36,37,38,40,41,42,44,45,59,60,61,65,66,67,71,72,73,81,82,84,92,93,98,99,102,104],[],[],[]⟩ Try.f95=some s95:=by kernel_rfl
theorem idxb_pure (p:(List Bool)→Bool) (w:List (List Bool)) (g:Nat) (caps:List V) (hca:canonL caps=true) (hpu:pureL caps=true) (hq: ∀ k,k < w.length→PureC Try.prog g (V.sl ((nth w k).map cB)::caps) (.bool (p (nth w k)))):PureC Try.prog 95 [(V.sl (List.map cBL (w))),(V.fn g [] caps)] (iV (fi (fun jx=>p (nth w jx)) 0 w.length)):=by
 refine pure_of_Wb true 6 Try.func95 s95_ok (by kernel_rfl) (by simp [s95]) (by simp [hpu]) (by simp) fun hB=>?_
 simp only [bnd_map,bnd_int,bnd_bool,bnd_str,bnd_agg,bnd_pp,bnd_nil,bnd_cons,implies_true,and_true,true_and] at hB
 unfold s95
 dsimp only
 refine W_r (R_mv rfl (R_e (W_seq_seq (W_r (R_mv rfl (R_len rfl (R_mv rfl ?_)))))))
 refine R_e (W_seq_blockg fun Q1 n1 x1 y1 z1=>?_)
 refine W_loop (fun mm T H=> ∃ (k:Nat),mm=w.length - k∧T 0=(V.sl (List.map cBL (w)))∧T 1=(V.fn g [] caps)∧T 7=(iV ((w.length:Nat):Int))∧T 8=(iV ((k:Nat):Int))∧(k≤w.length)∧(fi (fun j=>p (nth w j)) 0 w.length=fi (fun j=>p (nth w j)) k (w.length - k))) ?_ ?_
 ·
  refine ⟨_,0,rfl,rfl,rfl,rfl,(Eq.trans (@rfl V (iV (0:Int))) rfl),?_,?_⟩
  · omega
  · rfl
 intro mm T H ⟨k,hmm,t0,t1,t7,t8,hk,hc⟩ Q2 p12 p22 p32
 unfold b95_0
 refine W_r (R_lss t8 t7 (R_e ?_))
 refine W_seq_if rfl (fun c3=>?_) fun c3=>?_
 ·
  refine W_seq_skip (W_seq_blockg fun Q4 n4 x4 y4 z4=>(W_r (R_mv t8 (R_mv rfl (R_e (W_r (R_mv t1 ?_)))))))
  refine R_mv t0 (R_mv rfl (R_idx (i:=k) (@rfl V (V.sl (List.map cBL (w)))) (@rfl V (iV ((k:Nat):Int))) (by omega) rfl (R_load_pp rfl rfl (R_callv (@rfl V (V.fn g [] caps)) (evcons (@rfl V (V.sl (List.map cB ((nth (w) (k)))))) evnil) (hq k (by omega)) (fzv_mapcanon _ _ (by simp [hca])) (by simp [hpu]) (Or.inl (by simp [hpu])) (R_e ?_)))))
  refine W_ifb rfl (fun c5=>?_) (fun c5=>?_)
  ·
   have d1:=c5
   refine W_r (R_mv rfl (R_mv rfl (R_e (W_ret (y4 _ _ (p22 _ _ (y1 _ _ ?_)))))))
   refine Ret_1 (@rfl V (iV ((k:Nat):Int))) (fz_int ?_)
   · rw [hc,fi_hit (by exact d1) (by omega)]
  have d1:=c5
  refine W_skip (n4 _ _ (.done (W_t (R_addN t8 (@rfl V (iV ((1:Nat):Int))) (by omega) (R_mv rfl (R_e ?_))))))
  refine p12 _ _ _ ?_ ⟨(k+1),rfl,t0,t1,t7,(Eq.trans (@rfl V (iV ((k+1:Nat):Int))) (by rfl)),?_,?_⟩
  · omega
  · omega
  · rw [hc,fi_skip (by exact d1) (by omega)]
 refine W_seq_exit (p32 _ _ _ (x1 _ _ (.done (W_r (R_mv rfl (R_e (W_ret ?_)))))))
 refine Ret_1 (@rfl V (iV (-1:Int))) (fz_int ?_)
 · rw [hc,fi_end (by omega)]
theorem conb_pure (p:(List Bool)→Bool) (w:List (List Bool)) (g:Nat) (caps:List V) (hca:canonL caps=true) (hpu:pureL caps=true) (hq: ∀ k,k < w.length→PureC Try.prog g (V.sl ((nth w k).map cB)::caps) (.bool (p (nth w k)))):PureC Try.prog 88 [(V.sl (List.map cBL (w))),(V.fn g [] caps)] (V.bool (decide (0≤fi (fun jx=>p (nth w jx)) 0 w.length))):=by
 refine pure_of_Wb true 6 Try.func88 s88_ok (by kernel_rfl) (by simp [s88]) (by simp [hpu]) (by simp) fun hB=>?_
 simp only [bnd_map,bnd_int,bnd_bool,bnd_str,bnd_agg,bnd_pp,bnd_nil,bnd_cons,implies_true,and_true,true_and] at hB
 unfold s88
 dsimp only
 refine W_r (R_mv rfl (R_e (W_r (R_mv rfl (R_mv rfl (R_call (evcons (@rfl V (V.sl (List.map cBL (w)))) (evcons (@rfl V (V.fn g [] caps)) evnil)) (idxb_pure p w g caps hca hpu hq) (fzv_mapcanon _ _ (by simp [hca,hpu,-List.map_take,-List.map_drop,-List.map_append,-List.map_reverse])) (by simp [hca,hpu,-List.map_take,-List.map_drop,-List.map_append,-List.map_reverse]) (Or.inl (by simp [hca,hpu,-List.map_take,-List.map_drop,-List.map_append,-List.map_reverse])) (R_geq rfl rfl ?_)))))))
 refine R_mv rfl (R_e (W_ret ?_))
 refine Ret_1 (@rfl V (V.bool (decide ((0:Int)≤(fi (fun jx=>p (nth w jx)) 0 w.length))))) (fz_bool ?_)
 · first|rfl|omega|simp_all
def s89:SF:=⟨9,[.tmp 3],.seq (.reg [sO 3 (.mv (.c (.bool false)))]) (.seq (.reg [qM 4 0,ql 5 1,qA 6 1 4 5,ql 7 6,sO 8 (.un .not (.t 7)),qM 3 8]) (.ret))⟩
theorem s89_ok:slimF Try.prog ⟨[31,36,37,38,40,41,42,44,45,59,60,61,65,66,67,71,72,73,81,82,84,92,93,98,99,102,104],[],[],[]⟩ Try.f89=some s89:=by kernel_rfl
theorem sat2_pure (w:List Bool) (i:Int) (h0:0≤i) (hi:i < w.length):PureC Try.prog 89 [(V.sl (List.map cB (w))),(V.pp [(iV (i))])] (V.bool (!nth w i.toNat)):=by
 refine pW Try.func89 s89_ok fun hB=>?_
 unfold s89
 dsimp only
 refine W_r (R_mv rfl (R_e (W_r (R_mv rfl (R_load_pp rfl rfl (R_idxI (i:=(i)) (@rfl V (V.sl (List.map cB (w)))) (@rfl V (iV (i))) (by omega) (by omega) rfl (R_load_pp rfl rfl ?_)))))))
 refine R_notb rfl (R_mv rfl (R_e (W_ret ?_)))
 refine Ret_1 (@rfl V (V.bool ((!(nth (w) (i).toNat))))) (fz_bool ?_)
 · rfl
theorem satisfied_pure (f:Fm) (t:Tr) (K:List (List Bool)) (B:List Bool) (i:Int) (hf:rgt f=0) (ht:t.no.length=t.ni.length) (h0:0≤i) (hi:i≤t.ni.length) (hn:t.ni.length≤1024) (hK:K.length=f.kids.length) (hr: ∀ k,k < K.length→(nth K k).length=t.ni.length+1) (hb:B.length=t.ni.length+1):PureC Try.prog 75 [(V.agg [(iV (f.op)),(iV (f.arg)),(V.sl (List.map cF (f.kids)))]),(V.agg [(ints t.ni),(ints t.no)]),(V.sl (List.map cBL (K))),(V.sl (List.map cB (B))),(iV (i))] (V.bool (satP t f K B i.toNat)):=by
 refine pW Try.func75 s75_ok fun hB=>?_
 unfold s75
 dsimp only
 have hrg:=rgt_ok hf
 have hr0:0 < K.length→(nth K 0).length=t.ni.length+1:=hr 0
 have hr1:1 < K.length→(nth K 1).length=t.ni.length+1:=hr 1
 refine W_r (R_box (i:=5) (n:=0) (m:=3) (cs:=[(iV (f.op)),(iV (f.arg)),(V.sl (List.map cF (f.kids)))]) rfl (congrArg Blk.ver rfl) rfl rfl rfl (R_box (i:=6) (n:=0) (m:=2) (cs:=[(ints t.ni),(ints t.no)]) rfl (congrArg Blk.ver rfl) rfl rfl rfl (R_box (i:=9) (n:=0) (m:=1) (cs:=[(iV (i))]) rfl (congrArg Blk.ver rfl) rfl rfl rfl (R_mv rfl (R_e (W_r (R_lk rfl rfl rfl rfl ?_)))))))
 refine R_fk rfl rfl (R_lk rfl rfl rfl rfl (R_len rfl (R_eql rfl rfl (R_mv rfl (R_e (W_r (R_mkf (evcons rfl evnil) ?_)))))))
 refine R_mv rfl (R_e (W_seq_seq (W_r (R_fk rfl rfl (R_lk rfl rfl rfl rfl (R_e (W_seq_blockg fun Q1 n1 x1 y1 z1=>?_)))))))
 refine W_r (R_eql rfl rfl (R_mv rfl (R_e ?_)))
 refine W_if rfl (fun c2=>?_) fun c2=>?_
 ·
  refine W_r (R_mv rfl (R_e (W_ret (y1 _ _ ?_))))
  refine Ret_1 (@rfl V (V.bool true)) (fz_bool ?_)
  · unfold satP; rw [if_pos (by omega)]
 refine W_r (R_eql rfl rfl (R_mv rfl (R_e ?_)))
 refine W_if rfl (fun c3=>?_) fun c3=>?_
 ·
  refine W_r (R_mv rfl (R_not rfl (R_mv rfl ?_)))
  refine Ops_seg 9 (fun T H=>T 36=(V.bool (decide ((¬((i)=((t.ni.length:Nat):Int)))∧(((nth (t.ni) (i).toNat))=(f.arg)))))∧H 5=(bk 1 24 3 [[(iV (f.op)),(iV (f.arg)),(V.sl (List.map cF (f.kids)))]])∧H 6=(bk 1 51 2 [[(ints t.ni),(ints t.no)]])∧H 9=(bk 1 3 1 [[(iV (i))]])∧True) ?_ ?_
  ·
   by_cases g4: ¬((i)=((t.ni.length:Nat):Int))
   ·
    refine G_yes (edT g4 rfl) (R_fk rfl rfl (G_yes (edT g4 rfl) (R_lk rfl rfl rfl rfl (G_yes (edT g4 rfl) (R_lk rfl rfl rfl rfl (G_yes (edT g4 rfl) (R_idxI (i:=(i)) (@rfl V (ints t.ni)) (@rfl V (iV (i))) (by omega) (by omega) rfl ?_)))))))
    refine G_yes (edT g4 rfl) (R_load_pp rfl rfl (G_yes (edT g4 rfl) (R_fk rfl rfl (G_yes (edT g4 rfl) (R_lk rfl rfl rfl rfl (G_yes (edT g4 rfl) (R_eql rfl rfl ?_)))))))
    refine R_pickT (edT g4 rfl) rfl ?_
    exact ⟨(dec_andT g4),rfl,rfl,rfl,trivial⟩
   ·
    refine G_n (edF g4 rfl) (G_n (edF g4 rfl) (G_n (edF g4 rfl) (G_n (edF g4 rfl) (G_n (edF g4 rfl) (G_n (edF g4 rfl) (G_n (edF g4 rfl) (G_n (edF g4 rfl) ?_)))))))
    refine R_pickF (edF g4 rfl) rfl ?_
    exact ⟨(dec_andF g4),rfl,rfl,rfl,trivial⟩
  intro T H ⟨t36,h5,h6,h9,_⟩
  refine R_mv t36 (R_e (W_ret (y1 _ _ ?_)))
  refine Ret_1 (@rfl V (V.bool (decide ((¬((i)=((t.ni.length:Nat):Int)))∧(((nth (t.ni) (i).toNat))=(f.arg)))))) (fz_bool ?_)
  · unfold satP; rw [if_neg (by omega),if_pos (by omega)]; rw [← Bool.decide_and]; exact decide_eq_decide.2 (by omega)
 refine W_r (R_eql rfl rfl (R_mv rfl (R_e ?_)))
 refine W_if rfl (fun c5=>?_) fun c5=>?_
 ·
  refine W_r (R_mv rfl (R_not rfl (R_mv rfl ?_)))
  refine Ops_seg 9 (fun T H=>T 50=(V.bool (decide ((¬((i)=((t.ni.length:Nat):Int)))∧(((nth (t.no) (i).toNat))=(f.arg)))))∧H 5=(bk 1 24 3 [[(iV (f.op)),(iV (f.arg)),(V.sl (List.map cF (f.kids)))]])∧H 6=(bk 1 51 2 [[(ints t.ni),(ints t.no)]])∧H 9=(bk 1 3 1 [[(iV (i))]])∧True) ?_ ?_
  ·
   by_cases g6: ¬((i)=((t.ni.length:Nat):Int))
   ·
    refine G_yes (edT g6 rfl) (R_fk rfl rfl (G_yes (edT g6 rfl) (R_lk rfl rfl rfl rfl (G_yes (edT g6 rfl) (R_lk rfl rfl rfl rfl (G_yes (edT g6 rfl) (R_idxI (i:=(i)) (@rfl V (ints t.no)) (@rfl V (iV (i))) (by omega) (by omega) rfl ?_)))))))
    refine G_yes (edT g6 rfl) (R_load_pp rfl rfl (G_yes (edT g6 rfl) (R_fk rfl rfl (G_yes (edT g6 rfl) (R_lk rfl rfl rfl rfl (G_yes (edT g6 rfl) (R_eql rfl rfl ?_)))))))
    refine R_pickT (edT g6 rfl) rfl ?_
    exact ⟨(dec_andT g6),rfl,rfl,rfl,trivial⟩
   ·
    refine G_n (edF g6 rfl) (G_n (edF g6 rfl) (G_n (edF g6 rfl) (G_n (edF g6 rfl) (G_n (edF g6 rfl) (G_n (edF g6 rfl) (G_n (edF g6 rfl) (G_n (edF g6 rfl) ?_)))))))
    refine R_pickF (edF g6 rfl) rfl ?_
    exact ⟨(dec_andF g6),rfl,rfl,rfl,trivial⟩
  intro T H ⟨t50,h5,h6,h9,_⟩
  refine R_mv t50 (R_e (W_ret (y1 _ _ ?_)))
  refine Ret_1 (@rfl V (V.bool (decide ((¬((i)=((t.ni.length:Nat):Int)))∧(((nth (t.no) (i).toNat))=(f.arg)))))) (fz_bool ?_)
  · unfold satP; rw [if_neg (by omega),if_neg (by omega),if_pos (by omega)]; rw [← Bool.decide_and]; exact decide_eq_decide.2 (by omega)
 refine W_r (R_eql rfl rfl (R_mv rfl (R_e ?_)))
 refine W_if rfl (fun c7=>?_) fun c7=>?_
 ·
  refine W_r (R_mv rfl (R_idx (i:=0) (@rfl V (V.sl (List.map cBL (K)))) (@rfl V (iV ((0:Nat):Int))) (by omega) rfl (R_load_pp rfl rfl (R_lk rfl rfl rfl rfl (R_idxI (i:=(i)) (@rfl V (V.sl (List.map cB ((nth (K) (0)))))) (@rfl V (iV (i))) (by omega) (by omega) rfl (R_load_pp rfl rfl (R_notb rfl ?_)))))))
  refine R_mv rfl (R_e (W_ret (y1 _ _ ?_)))
  refine Ret_1 (@rfl V (V.bool ((!(nth ((nth (K) (0))) (i).toNat))))) (fz_bool ?_)
  · unfold satP; rw [if_neg (by omega),if_neg (by omega),if_neg (by omega),if_pos (by omega)]
 refine W_r (R_eql rfl rfl (R_mv rfl (R_e ?_)))
 refine W_if rfl (fun c8=>?_) fun c8=>?_
 ·
  refine W_r (R_mv rfl (R_mkf (evcons rfl evnil) (R_call (evcons (@rfl V (V.sl (List.map cBL (K)))) (evcons (@rfl V (V.fn 89 [] [(V.mp 9 1 0 0)])) evnil)) (conb_pure (fun r=> !nth r i.toNat) K 89 ([(V.pp [(iV (i))])]) (by simp) (by simp) (fun k hk=>sat2_pure (nth K k) i h0 (by rw [hr k hk]; omega))) (mcons (fzv_canon 6 _ (by simp [-List.map_take,-List.map_drop,-List.map_append,-List.map_reverse])) (mcons (by rfl) rfl)) (by simp [-List.map_take,-List.map_drop,-List.map_append,-List.map_reverse]) (Or.inr rfl) (R_not rfl (R_mv rfl (R_e (W_ret ?_)))))))
  refine y1 _ _ ?_
  refine Ret_1 (@rfl V (V.bool (decide (¬(0≤fi (fun jx=>(fun r=> !nth r i.toNat) (nth K jx)) 0 K.length))))) (fz_bool ?_)
  · unfold satP; rw [if_neg (by omega),if_neg (by omega),if_neg (by omega),if_neg (by omega),if_pos (by omega)]; rw [decide_not]; exact fi_all (p:=fun r=>nth r i.toNat)
 refine W_r (R_eql rfl rfl (R_mv rfl (R_e ?_)))
 refine W_if rfl (fun c9=>?_) fun c9=>?_
 ·
  refine W_r (R_mv rfl (R_mv rfl (R_call (evcons (@rfl V (V.sl (List.map cBL (K)))) (evcons (@rfl V (V.fn 87 [] [(V.mp 9 1 0 0)])) evnil)) (conb_pure (fun r=>nth r i.toNat) K 87 ([(V.pp [(iV (i))])]) (by simp) (by simp) (fun k hk=>sat1_pure (nth K k) i h0 (by rw [hr k hk]; omega))) (mcons (fzv_canon 6 _ (by simp [-List.map_take,-List.map_drop,-List.map_append,-List.map_reverse])) (mcons (by rfl) rfl)) (by simp [-List.map_take,-List.map_drop,-List.map_append,-List.map_reverse]) (Or.inr rfl) (R_mv rfl (R_e (W_ret (y1 _ _ ?_)))))))
  refine Ret_1 (@rfl V (V.bool (decide (0≤fi (fun jx=>(fun r=>nth r i.toNat) (nth K jx)) 0 K.length)))) (fz_bool ?_)
  · unfold satP; rw [if_neg (by omega),if_neg (by omega),if_neg (by omega),if_neg (by omega),if_neg (by omega),if_pos (by omega)]; exact fi_any (p:=fun r=>nth r i.toNat)
 refine W_r (R_eql rfl rfl (R_mv rfl (R_e ?_)))
 refine W_if rfl (fun c10=>?_) fun c10=>?_
 ·
  refine W_r (R_mv rfl (R_not rfl (R_mv rfl ?_)))
  refine Ops_seg 8 (fun T H=>T 83=(V.bool ((decide (¬((i)=((t.ni.length:Nat):Int)))&&((nth ((nth (K) (0))) ((i)+(1:Int)).toNat)))))∧H 5=(bk 1 24 3 [[(iV (f.op)),(iV (f.arg)),(V.sl (List.map cF (f.kids)))]])∧H 6=(bk 1 51 2 [[(ints t.ni),(ints t.no)]])∧H 9=(bk 1 3 1 [[(iV (i))]])∧True) ?_ ?_
  ·
   by_cases g11: ¬((i)=((t.ni.length:Nat):Int))
   ·
    refine G_yes (edT g11 rfl) (R_mv rfl (G_yes (edT g11 rfl) (R_idx (i:=0) (@rfl V (V.sl (List.map cBL (K)))) (@rfl V (iV ((0:Nat):Int))) (by omega) rfl (G_yes (edT g11 rfl) (R_load_pp rfl rfl (G_yes (edT g11 rfl) (R_lk rfl rfl rfl rfl ?_)))))))
    refine G_yes (edT g11 rfl) (R_add rfl rfl (by omega) (by omega) (G_yes (edT g11 rfl) (R_idxI (i:=((i)+(1:Int))) (@rfl V (V.sl (List.map cB ((nth (K) (0)))))) (@rfl V (iV ((i)+(1:Int)))) (by omega) (by omega) rfl (G_yes (edT g11 rfl) (R_load_pp rfl rfl (R_pickT (edT g11 rfl) rfl ?_))))))
    exact ⟨(dbandT g11),rfl,rfl,rfl,trivial⟩
   ·
    refine G_n (edF g11 rfl) (G_n (edF g11 rfl) (G_n (edF g11 rfl) (G_n (edF g11 rfl) (G_n (edF g11 rfl) (G_n (edF g11 rfl) (G_n (edF g11 rfl) (R_pickF (edF g11 rfl) rfl ?_)))))))
    exact ⟨(dbandF g11),rfl,rfl,rfl,trivial⟩
  intro T H ⟨t83,h5,h6,h9,_⟩
  refine R_mv t83 (R_e (W_ret (y1 _ _ ?_)))
  refine Ret_1 (@rfl V (V.bool ((decide (¬((i)=((t.ni.length:Nat):Int)))&&((nth ((nth (K) (0))) ((i)+(1:Int)).toNat)))))) (fz_bool ?_)
  · unfold satP; rw [if_neg (by omega),if_neg (by omega),if_neg (by omega),if_neg (by omega),if_neg (by omega),if_neg (by omega),if_pos (by omega)]; rw [show (i+1).toNat=i.toNat+1 by omega]; congr 1; exact decide_eq_decide.2 (by omega)
 refine W_r (R_eql rfl rfl (R_mv rfl (R_e ?_)))
 refine W_if rfl (fun c12=>?_) fun c12=>?_
 ·
  refine W_seq_regc (fun T H=>T 10=(V.bool ((decide ((i)=((t.ni.length:Nat):Int))||((nth ((nth (K) (0))) ((i)+(1:Int)).toNat)))))∧H 5=(bk 1 24 3 [[(iV (f.op)),(iV (f.arg)),(V.sl (List.map cF (f.kids)))]])∧H 6=(bk 1 51 2 [[(ints t.ni),(ints t.no)]])∧H 9=(bk 1 3 1 [[(iV (i))]])∧True) ?_ ?_
  ·
   refine R_mv rfl (R_mv rfl ?_)
   refine Ops_seg 8 (fun T H=>T 95=(V.bool ((decide ((i)=((t.ni.length:Nat):Int))||((nth ((nth (K) (0))) ((i)+(1:Int)).toNat)))))∧H 5=(bk 1 24 3 [[(iV (f.op)),(iV (f.arg)),(V.sl (List.map cF (f.kids)))]])∧H 6=(bk 1 51 2 [[(ints t.ni),(ints t.no)]])∧H 9=(bk 1 3 1 [[(iV (i))]])∧True) ?_ ?_
   ·
    by_cases g13:(i)=((t.ni.length:Nat):Int)
    ·
     refine G_n (edT g13 rfl) (G_n (edT g13 rfl) (G_n (edT g13 rfl) (G_n (edT g13 rfl) (G_n (edT g13 rfl) (G_n (edT g13 rfl) (G_n (edT g13 rfl) (R_pickT (edT g13 rfl) rfl ?_)))))))
     exact ⟨(dborT g13),rfl,rfl,rfl,trivial⟩
    ·
     refine G_yes (edF g13 rfl) (R_mv rfl (G_yes (edF g13 rfl) (R_idx (i:=0) (@rfl V (V.sl (List.map cBL (K)))) (@rfl V (iV ((0:Nat):Int))) (by omega) rfl (G_yes (edF g13 rfl) (R_load_pp rfl rfl (G_yes (edF g13 rfl) (R_lk rfl rfl rfl rfl ?_)))))))
     refine G_yes (edF g13 rfl) (R_add rfl rfl (by omega) (by omega) (G_yes (edF g13 rfl) (R_idxI (i:=((i)+(1:Int))) (@rfl V (V.sl (List.map cB ((nth (K) (0)))))) (@rfl V (iV ((i)+(1:Int)))) (by omega) (by omega) rfl (G_yes (edF g13 rfl) (R_load_pp rfl rfl (R_pickF (edF g13 rfl) rfl ?_))))))
     exact ⟨(dborF g13),rfl,rfl,rfl,trivial⟩
   intro T H ⟨t95,h5,h6,h9,_⟩
   refine R_mv t95 ?_
   exact R_nil ⟨rfl,h5,h6,h9,trivial⟩
  intro T H ⟨t10,h5,h6,h9,_⟩
  refine W_ret (y1 _ _ ?_)
  refine Ret_1 t10 (fz_bool ?_)
  · unfold satP; rw [if_neg (by omega),if_neg (by omega),if_neg (by omega),if_neg (by omega),if_neg (by omega),if_neg (by omega),if_neg (by omega),if_pos (by omega)]; rw [show (i+1).toNat=i.toNat+1 by omega]; congr 1; exact decide_eq_decide.2 (by omega)
 refine W_r (R_eql rfl rfl (R_mv rfl (R_e ?_)))
 refine W_if rfl (fun c14=>?_) fun c14=>?_
 ·
  refine W_seq_regc (fun T H=>T 10=(V.bool ((((nth ((nth (K) (1))) (i).toNat))||((((decide (¬((i)=((t.ni.length:Nat):Int)))&&((nth ((nth (K) (0))) (i).toNat))))&&((nth (B) ((i)+(1:Int)).toNat)))))))∧H 5=(bk 1 24 3 [[(iV (f.op)),(iV (f.arg)),(V.sl (List.map cF (f.kids)))]])∧H 6=(bk 1 51 2 [[(ints t.ni),(ints t.no)]])∧H 9=(bk 1 3 1 [[(iV (i))]])∧True) ?_ ?_
  ·
   refine R_mv rfl (R_idx (i:=1) (@rfl V (V.sl (List.map cBL (K)))) (@rfl V (iV ((1:Nat):Int))) (by omega) rfl (R_load_pp rfl rfl (R_lk rfl rfl rfl rfl (R_idxI (i:=(i)) (@rfl V (V.sl (List.map cB ((nth (K) (1)))))) (@rfl V (iV (i))) (by omega) (by omega) rfl (R_load_pp rfl rfl (R_mv rfl ?_))))))
   refine Ops_seg 18 (fun T H=>T 122=(V.bool ((((nth ((nth (K) (1))) (i).toNat))||((((decide (¬((i)=((t.ni.length:Nat):Int)))&&((nth ((nth (K) (0))) (i).toNat))))&&((nth (B) ((i)+(1:Int)).toNat)))))))∧H 5=(bk 1 24 3 [[(iV (f.op)),(iV (f.arg)),(V.sl (List.map cF (f.kids)))]])∧H 6=(bk 1 51 2 [[(ints t.ni),(ints t.no)]])∧H 9=(bk 1 3 1 [[(iV (i))]])∧True) ?_ ?_
   ·
    by_cases g15:((nth ((nth (K) (1))) (i).toNat))=true
    ·
     refine G_n (ebT g15 rfl) (G_n (ebT g15 rfl) (G_n (ebT g15 rfl) (G_raw (@rfl V (V.raw undef)) (G_raw (@rfl V (V.raw undef)) (G_raw (@rfl V (V.raw undef)) (G_raw (@rfl V (V.raw undef)) (G_raw (@rfl V (V.raw undef)) ?_)))))))
     refine G_raw (@rfl V (V.raw undef)) (G_n (ebT g15 rfl) (G_n (ebT g15 rfl) (G_raw (@rfl V (V.raw undef)) (G_raw (@rfl V (V.raw undef)) (G_raw (@rfl V (V.raw undef)) (G_raw (@rfl V (V.raw undef)) (G_raw (@rfl V (V.raw undef)) ?_)))))))
     refine G_n (ebT g15 rfl) (R_pickT (ebT g15 rfl) rfl ?_)
     exact ⟨(borT g15),rfl,rfl,rfl,trivial⟩
    ·
     refine G_yes (ebF g15 rfl) (R_mv rfl (G_yes (ebF g15 rfl) (R_not rfl (G_yes (ebF g15 rfl) (R_mv rfl ?_)))))
     refine Ops_seg 7 (fun T H=>T 3=(V.sl (List.map cB (B)))∧T 9=(V.mp 9 1 0 0)∧T 104=(V.bool false)∧T 114=(V.bool ((decide (¬((i)=((t.ni.length:Nat):Int)))&&((nth ((nth (K) (0))) (i).toNat)))))∧H 5=(bk 1 24 3 [[(iV (f.op)),(iV (f.arg)),(V.sl (List.map cF (f.kids)))]])∧H 6=(bk 1 51 2 [[(ints t.ni),(ints t.no)]])∧H 9=(bk 1 3 1 [[(iV (i))]])∧True) ?_ ?_
     ·
      by_cases g16: ¬((i)=((t.ni.length:Nat):Int))
      ·
       refine G_yes (edT g16 rfl) (R_mv rfl (G_yes (edT g16 rfl) (R_idx (i:=0) (@rfl V (V.sl (List.map cBL (K)))) (@rfl V (iV ((0:Nat):Int))) (by omega) rfl (G_yes (edT g16 rfl) (R_load_pp rfl rfl (G_yes (edT g16 rfl) (R_lk rfl rfl rfl rfl ?_)))))))
       refine G_yes (edT g16 rfl) (R_idxI (i:=(i)) (@rfl V (V.sl (List.map cB ((nth (K) (0)))))) (@rfl V (iV (i))) (by omega) (by omega) rfl (G_yes (edT g16 rfl) (R_load_pp rfl rfl (G_yes (ebF g15 rfl) (R_pickT (edT g16 rfl) rfl ?_)))))
       exact ⟨rfl,rfl,(ebF g15 rfl),(dbandT g16),rfl,rfl,rfl,trivial⟩
      ·
       refine G_n (edF g16 rfl) (G_n (edF g16 rfl) (G_n (edF g16 rfl) (G_n (edF g16 rfl) (G_n (edF g16 rfl) (G_n (edF g16 rfl) (G_yes (ebF g15 rfl) (R_pickF (edF g16 rfl) rfl ?_)))))))
       exact ⟨rfl,rfl,(ebF g15 rfl),(dbandF g16),rfl,rfl,rfl,trivial⟩
     intro T H ⟨t3,t9,t104,t114,h5,h6,h9,_⟩
     refine G_yes t104 (R_mv t114 ?_)
     refine Ops_seg 6 (fun T H=>T 104=(V.bool false)∧T 121=(V.bool ((((decide (¬((i)=((t.ni.length:Nat):Int)))&&((nth ((nth (K) (0))) (i).toNat))))&&((nth (B) ((i)+(1:Int)).toNat)))))∧H 5=(bk 1 24 3 [[(iV (f.op)),(iV (f.arg)),(V.sl (List.map cF (f.kids)))]])∧H 6=(bk 1 51 2 [[(ints t.ni),(ints t.no)]])∧H 9=(bk 1 3 1 [[(iV (i))]])∧True) ?_ ?_
     ·
      by_cases g17:((decide (¬((i)=((t.ni.length:Nat):Int)))&&((nth ((nth (K) (0))) (i).toNat))))=true
      ·
       have g17x:=g17
       simp only [Bool.and_eq_true,Bool.or_eq_true,Bool.not_eq_true',decide_eq_true_eq] at g17x
       refine G_yes (ebT g17 rfl) (R_mv t3 (G_yes (ebT g17 rfl) (R_lk t9 h9 rfl rfl (G_yes (ebT g17 rfl) (R_add rfl rfl (by omega) (by omega) (G_yes (ebT g17 rfl) (R_idxI (i:=((i)+(1:Int))) (@rfl V (V.sl (List.map cB (B)))) (@rfl V (iV ((i)+(1:Int)))) (by omega) (by omega) rfl ?_)))))))
       refine G_yes (ebT g17 rfl) (R_load_pp rfl rfl (G_yes t104 (R_pickT (ebT g17 rfl) rfl ?_)))
       exact ⟨t104,(bandT g17),h5,h6,h9,trivial⟩
      ·
       have g17x:=g17
       simp only [Bool.and_eq_true,Bool.or_eq_true,Bool.not_eq_true',decide_eq_true_eq] at g17x
       refine G_n (ebF g17 rfl) (G_n (ebF g17 rfl) (G_n (ebF g17 rfl) (G_n (ebF g17 rfl) (G_n (ebF g17 rfl) (G_yes t104 (R_pickF (ebF g17 rfl) rfl ?_))))))
       exact ⟨t104,(bandF g17),h5,h6,h9,trivial⟩
     intro T H ⟨t104,t121,h5,h6,h9,_⟩
     refine R_pickF t104 t121 ?_
     exact ⟨(borF g15),h5,h6,h9,trivial⟩
   intro T H ⟨t122,h5,h6,h9,_⟩
   refine R_mv t122 ?_
   exact R_nil ⟨rfl,h5,h6,h9,trivial⟩
  intro T H ⟨t10,h5,h6,h9,_⟩
  refine W_ret (y1 _ _ ?_)
  refine Ret_1 t10 (fz_bool ?_)
  · unfold satP; rw [if_neg (by omega),if_neg (by omega),if_neg (by omega),if_neg (by omega),if_neg (by omega),if_neg (by omega),if_neg (by omega),if_neg (by omega),if_pos (by omega)]; rw [show (i+1).toNat=i.toNat+1 by omega]; congr 1; congr 1; congr 1; exact decide_eq_decide.2 (by omega)
 refine W_skip (n1 _ _ (.done ?_))
 refine W_seq_regc (fun T H=>T 10=(V.bool ((((nth ((nth (K) (1))) (i).toNat))&&((((decide ((i)=((t.ni.length:Nat):Int))||((nth ((nth (K) (0))) (i).toNat))))||((nth (B) ((i)+(1:Int)).toNat)))))))∧H 5=(bk 1 24 3 [[(iV (f.op)),(iV (f.arg)),(V.sl (List.map cF (f.kids)))]])∧H 6=(bk 1 51 2 [[(ints t.ni),(ints t.no)]])∧H 9=(bk 1 3 1 [[(iV (i))]])∧True) ?_ ?_
 ·
  refine R_mv rfl (R_idx (i:=1) (@rfl V (V.sl (List.map cBL (K)))) (@rfl V (iV ((1:Nat):Int))) (by omega) rfl (R_load_pp rfl rfl (R_lk rfl rfl rfl rfl (R_idxI (i:=(i)) (@rfl V (V.sl (List.map cB ((nth (K) (1)))))) (@rfl V (iV (i))) (by omega) (by omega) rfl (R_load_pp rfl rfl (R_mv rfl ?_))))))
  refine Ops_seg 17 (fun T H=>T 146=(V.bool ((((nth ((nth (K) (1))) (i).toNat))&&((((decide ((i)=((t.ni.length:Nat):Int))||((nth ((nth (K) (0))) (i).toNat))))||((nth (B) ((i)+(1:Int)).toNat)))))))∧H 5=(bk 1 24 3 [[(iV (f.op)),(iV (f.arg)),(V.sl (List.map cF (f.kids)))]])∧H 6=(bk 1 51 2 [[(ints t.ni),(ints t.no)]])∧H 9=(bk 1 3 1 [[(iV (i))]])∧True) ?_ ?_
  ·
   by_cases g18:((nth ((nth (K) (1))) (i).toNat))=true
   ·
    refine G_yes (ebT g18 rfl) (R_mv rfl (G_yes (ebT g18 rfl) (R_mv rfl ?_)))
    refine Ops_seg 7 (fun T H=>T 3=(V.sl (List.map cB (B)))∧T 9=(V.mp 9 1 0 0)∧T 129=(V.bool true)∧T 138=(V.bool ((decide ((i)=((t.ni.length:Nat):Int))||((nth ((nth (K) (0))) (i).toNat)))))∧H 5=(bk 1 24 3 [[(iV (f.op)),(iV (f.arg)),(V.sl (List.map cF (f.kids)))]])∧H 6=(bk 1 51 2 [[(ints t.ni),(ints t.no)]])∧H 9=(bk 1 3 1 [[(iV (i))]])∧True) ?_ ?_
    ·
     by_cases g19:(i)=((t.ni.length:Nat):Int)
     ·
      refine G_n (edT g19 rfl) (G_n (edT g19 rfl) (G_n (edT g19 rfl) (G_n (edT g19 rfl) (G_n (edT g19 rfl) (G_n (edT g19 rfl) (G_yes (ebT g18 rfl) (R_pickT (edT g19 rfl) rfl ?_)))))))
      exact ⟨rfl,rfl,(ebT g18 rfl),(dborT g19),rfl,rfl,rfl,trivial⟩
     ·
      refine G_yes (edF g19 rfl) (R_mv rfl (G_yes (edF g19 rfl) (R_idx (i:=0) (@rfl V (V.sl (List.map cBL (K)))) (@rfl V (iV ((0:Nat):Int))) (by omega) rfl (G_yes (edF g19 rfl) (R_load_pp rfl rfl (G_yes (edF g19 rfl) (R_lk rfl rfl rfl rfl ?_)))))))
      refine G_yes (edF g19 rfl) (R_idxI (i:=(i)) (@rfl V (V.sl (List.map cB ((nth (K) (0)))))) (@rfl V (iV (i))) (by omega) (by omega) rfl (G_yes (edF g19 rfl) (R_load_pp rfl rfl (G_yes (ebT g18 rfl) (R_pickF (edF g19 rfl) rfl ?_)))))
      exact ⟨rfl,rfl,(ebT g18 rfl),(dborF g19),rfl,rfl,rfl,trivial⟩
    intro T H ⟨t3,t9,t129,t138,h5,h6,h9,_⟩
    refine G_yes t129 (R_mv t138 ?_)
    refine Ops_seg 6 (fun T H=>T 129=(V.bool true)∧T 145=(V.bool ((((decide ((i)=((t.ni.length:Nat):Int))||((nth ((nth (K) (0))) (i).toNat))))||((nth (B) ((i)+(1:Int)).toNat)))))∧H 5=(bk 1 24 3 [[(iV (f.op)),(iV (f.arg)),(V.sl (List.map cF (f.kids)))]])∧H 6=(bk 1 51 2 [[(ints t.ni),(ints t.no)]])∧H 9=(bk 1 3 1 [[(iV (i))]])∧True) ?_ ?_
    ·
     by_cases g20:((decide ((i)=((t.ni.length:Nat):Int))||((nth ((nth (K) (0))) (i).toNat))))=true
     ·
      have g20x:=g20
      simp only [Bool.and_eq_true,Bool.or_eq_true,Bool.not_eq_true',decide_eq_true_eq] at g20x
      refine G_n (ebT g20 rfl) (G_n (ebT g20 rfl) (G_n (ebT g20 rfl) (G_n (ebT g20 rfl) (G_n (ebT g20 rfl) (G_yes t129 (R_pickT (ebT g20 rfl) rfl ?_))))))
      exact ⟨t129,(borT g20),h5,h6,h9,trivial⟩
     ·
      have g20x:=g20
      simp only [Bool.and_eq_true,Bool.or_eq_true,Bool.not_eq_true',decide_eq_true_eq] at g20x
      refine G_yes (ebF g20 rfl) (R_mv t3 (G_yes (ebF g20 rfl) (R_lk t9 h9 rfl rfl (G_yes (ebF g20 rfl) (R_add rfl rfl (by omega) (by omega) (G_yes (ebF g20 rfl) (R_idxI (i:=((i)+(1:Int))) (@rfl V (V.sl (List.map cB (B)))) (@rfl V (iV ((i)+(1:Int)))) (by omega) (by omega) rfl ?_)))))))
      refine G_yes (ebF g20 rfl) (R_load_pp rfl rfl (G_yes t129 (R_pickF (ebF g20 rfl) rfl ?_)))
      exact ⟨t129,(borF g20),h5,h6,h9,trivial⟩
    intro T H ⟨t129,t145,h5,h6,h9,_⟩
    refine R_pickT t129 t145 ?_
    exact ⟨(bandT g18),h5,h6,h9,trivial⟩
   ·
    refine G_n (ebF g18 rfl) (G_n (ebF g18 rfl) (G_raw (@rfl V (V.raw undef)) (G_raw (@rfl V (V.raw undef)) (G_raw (@rfl V (V.raw undef)) (G_raw (@rfl V (V.raw undef)) (G_raw (@rfl V (V.raw undef)) (G_raw (@rfl V (V.raw undef)) ?_)))))))
    refine G_n (ebF g18 rfl) (G_n (ebF g18 rfl) (G_raw (@rfl V (V.raw undef)) (G_raw (@rfl V (V.raw undef)) (G_raw (@rfl V (V.raw undef)) (G_raw (@rfl V (V.raw undef)) (G_raw (@rfl V (V.raw undef)) (G_n (ebF g18 rfl) ?_)))))))
    refine R_pickF (ebF g18 rfl) rfl ?_
    exact ⟨(bandF g18),rfl,rfl,rfl,trivial⟩
  intro T H ⟨t146,h5,h6,h9,_⟩
  refine R_mv t146 ?_
  exact R_nil ⟨rfl,h5,h6,h9,trivial⟩
 intro T H ⟨t10,h5,h6,h9,_⟩
 refine W_ret ?_
 refine Ret_1 t10 (fz_bool ?_)
 · unfold satP; rw [if_neg (by omega),if_neg (by omega),if_neg (by omega),if_neg (by omega),if_neg (by omega),if_neg (by omega),if_neg (by omega),if_neg (by omega),if_neg (by omega)]; rw [show (i+1).toNat=i.toNat+1 by omega]; congr 1; congr 1; congr 1; exact decide_eq_decide.2 (by omega)
end Go.Proofs.Ytdmcmkccifmofaa
