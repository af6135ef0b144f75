/- Contracts of the functions that the law MT reaches, and the law itself, for every input; no condition. -/
import Derived.KernelRfl
import Derived.Test.YteehaobohaecmaaDoorProg
import Derived.Shelf.Strconv.Itoa3
import Derived.Test.YteehaobohaecmaaDoorMT2
set_option linter.unusedSimpArgs false
set_option linter.unusedVariables false
namespace Go.Proofs.YteehaobohaecmaaDoor
open Go Go.Proofs
theorem catf_E (l:List Cl) (v2:Nat) (Hi:Heap) (h900:(Hi 900).ver=v2) (hs:(catF l).length≤2147483648):CallOK Tryd.prog 93 [(V.sl (List.map cCl (l)))] Hi (V.ms 900 (v2+1+l.length) 0 ((catF l).length)) (upd Hi 900 (⟨v2+1+l.length,true,decide ((catF l).length=0),24,3,(List.map cF (catF l))⟩:Blk)):=by
 refine eW (k0:=600) Tryd.func93 s93_ok fun hB=>?_
 unfold s93
 dsimp only
 refine W_r (R_mv rfl (R_e (W_r (R_mv rfl (R_e (W_seq_seq (W_r ?_)))))))
 refine R_mv rfl (R_len rfl (R_mv rfl (R_e (W_seq_blockgP fun Q1 n1 x1 y1 z1 w1=>?_))))
 refine W_loopP (fun mm T H=> ∃ (k:Nat),mm=l.length - k∧T 0=(V.sl (List.map cCl (l)))∧T 3=(iV (((catF (l.take k)).length:Nat):Int))∧T 9=(V.sl (List.map cCl (l)))∧T 10=(iV ((l.length:Nat):Int))∧T 11=(iV ((k:Nat):Int))∧(∀ j,j∉[900]→H j=Hi j)∧(H 900).ver=v2∧(k≤l.length)) ?_ ?_
 ·
  refine ⟨_,0,rfl,rfl,(Eq.trans (@rfl V (iV (0:Int))) (by rfl)),rfl,rfl,(Eq.trans (@rfl V (iV (0:Int))) rfl),(fun _ _=>rfl),h900,?_⟩
  · omega
 intro mm T H ⟨k,hmm,t0,t3,t9,t10,t11,hF,h900,hk⟩ Q2 p12 p22 p32 p42
 unfold b93_0
 refine W_r (R_lss t11 t10 (R_e ?_))
 refine W_seq_if rfl (fun c3=>?_) fun c3=>?_
 ·
  have hq:=catF_le (l:=l) (k:=k) (by omega)
  refine W_seq_skip (W_seq_blockgP fun Q4 n4 x4 y4 z4 w4=>(W_r (R_idx (i:=k) t9 t11 (by omega) rfl (R_load_pp rfl rfl (R_mv rfl (R_e (W_r ?_)))))))
  refine R_mv t3 (R_mv rfl (R_len rfl (R_addN rfl rfl (by omega) (R_mv rfl (R_e (W_r (R_mv rfl ?_)))))))
  refine R_lss rfl rfl (R_e ?_)
  refine W_if rfl (fun c5=>?_) fun c5=>?_
  · exfalso; omega
  refine W_skip (n4 _ _ (.done (W_t (R_addN t11 (@rfl V (iV ((1:Nat):Int))) (by omega) (R_mv rfl (R_e ?_))))))
  refine p12 _ _ _ ?_ ⟨(k+1),rfl,t0,(Eq.trans (@rfl V (iV ((((catF (l.take k)).length)+((nth (l) (k))).length:Nat):Int))) (by (rw [catF_take (by omega),List.length_append]; done))),t9,t10,(Eq.trans (@rfl V (iV ((k+1:Nat):Int))) (by rfl)),hF,h900,?_⟩
  · omega
  · omega
 have hk2:catF (l.take k)=catF l:=by rw [show k=l.length by omega,List.take_length]
 have hk3:(catF (l.take k)).length=(catF l).length:=by rw [hk2]
 refine W_seq_exit (p32 _ _ _ (x1 _ _ (.done (W_r (R_mv t3 (R_callE (evcons rfl (evcons rfl evnil)) (CallOK_growv growLay100 growCall100 growInfo100 (by decide) rfl (n:=((catF (l.take k)).length)) (by omega) (by omega) 900 h900) (R_mv rfl ?_)))))))
 refine R_e (W_seq_seq (W_r (R_mv t0 (R_len rfl (R_mv rfl (R_e (W_seq_blockgP fun Q6 n6 x6 y6 z6 w6=>?_)))))))
 refine W_loopP (fun mm T H=> ∃ (j:Nat),mm=l.length - j∧T 6=(V.ms 900 (v2+1+j) 0 ((catF (l.take j)).length))∧T 25=(V.sl (List.map cCl (l)))∧T 26=(iV ((l.length:Nat):Int))∧T 27=(iV ((j:Nat):Int))∧(∀ j,j∉[900]→H j=Hi j)∧H 900=(⟨v2+1+j,true,decide ((catF (l.take k)).length=0),24,3,(List.map cF (catF (l.take j)))⟩:Blk)∧(j≤l.length)) ?_ ?_
 ·
  refine ⟨_,0,rfl,(Eq.trans (@rfl V (V.ms 900 (v2+1) 0 (0))) (by rfl)),rfl,rfl,(Eq.trans (@rfl V (iV (0:Int))) rfl),(upd_out hF (by decide)),(Eq.trans (@rfl Blk (⟨v2+1,true,decide ((catF (l.take k)).length=0),24,3,[]⟩:Blk)) (by rfl)),?_⟩
  · omega
 intro mm T H ⟨j,hmm,t6,t25,t26,t27,hF,h900,hj⟩ Q7 p17 p27 p37 p47
 unfold b93_1
 refine W_r (R_lss t27 t26 (R_e ?_))
 refine W_seq_if rfl (fun c8=>?_) fun c8=>?_
 ·
  have hq:=catF_le (l:=l) (k:=j) (by omega)
  refine W_seq_skip (W_seq_blockgP fun Q9 n9 x9 y9 z9 w9=>(W_r (R_idx (i:=j) t25 t27 (by omega) rfl (R_load_pp rfl rfl (R_mv rfl (R_e (W_t ?_)))))))
  refine R_mv t6 (R_mv rfl (R_appendS (l:=(catF (l.take j))) (m:=((nth (l) (j)))) (f:=cF) (@rfl V (V.ms 900 (v2+1+j) 0 ((catF (l.take j)).length))) h900 (by rfl) (@rfl V (V.sl (List.map cF ((nth (l) (j)))))) cF_len cF_one (by omega) (by omega) (R_mv rfl (R_e (n9 _ _ (.done (W_t ?_)))))))
  refine R_addN t27 (@rfl V (iV ((1:Nat):Int))) (by omega) (R_mv rfl (R_e ?_))
  refine p17 _ _ _ ?_ ⟨(j+1),rfl,(Eq.trans (@rfl V (V.ms 900 (v2+1+j+1) 0 (((catF (l.take j)).length)+((nth (l) (j))).length))) (by (rw [catF_take (by omega),List.length_append]; rfl))),t25,t26,(Eq.trans (@rfl V (iV ((j+1:Nat):Int))) (by rfl)),(upd_out hF (by decide)),(Eq.trans (@rfl Blk (⟨v2+1+j+1,true,decide ((catF (l.take k)).length=0),24,3,(List.map cF (catF (l.take j)++((nth (l) (j)))))⟩:Blk)) (by (rw [catF_take (by omega)]; rfl))),?_⟩
  · omega
  · omega
 refine W_seq_exit (p37 _ _ _ (x6 _ _ (.done (W_r (R_mv t6 (R_mv rfl (R_e ?_)))))))
 refine W_ret (fork_ (R:=fun T H=>T 2=(V.ms 900 (v2+1+j) 0 ((catF (l.take j)).length))∧(∀ j,j∉[900]→H j=Hi j)∧H 900=(⟨v2+1+j,true,decide ((catF (l.take k)).length=0),24,3,(List.map cF (catF (l.take j)))⟩:Blk)∧True) ⟨(@rfl V (V.ms 900 (v2+1+j) 0 ((catF (l.take j)).length))),hF,h900,trivial⟩ ?_)
 intro T H ⟨t2,hF,h900,_⟩
 skip
 have fh:=FinX.fin (FinX.put (B:=(⟨v2+1+l.length,true,decide ((catF l).length=0),24,3,(List.map cF (catF l))⟩:Blk)) (FinX.start hF) h900 (FinB.eq (by rw [show j=l.length by omega,List.take_length,hk2])))
 exact RetF_1 t2 fh (FinV.trans_eq (FinV.ms (n:=(v2+1+l.length)) fh (by simp [h900]) (by simp [h900]) rfl rfl) (by (rw [show j=l.length by omega,List.take_length]; done)))
def r94_1:List SO:=[
 qM 7 0,
 qM 8 4,
 qM 9 4,
 sO 10 (.conv .u64 (.t 9)),
 sO 11 (.call false 56 [.t 10]),
 qM 12 1,
 sO 13 (.call true 55 [.t 7,.c (.int .i64 0),.t 8,.t 11,.t 12])]
def s94:SF:=⟨14,[],.seq (.reg [qM 5 0,qN 6 5,qM 4 6]) (.reg r94_1)⟩
theorem s94_ok:slimF Tryd.prog ⟨[32,48,55,93,94,95,100],[],[],[]⟩ Tryd.f94=some s94:=by kernel_rfl
end Go.Proofs.YteehaobohaecmaaDoor
namespace Go.Proofs.YteehaobohaecmaaDoor
open Go Go.Sort Go.Proofs Go.Shelf
def PdqSpec (P : Program) (f k : Nat) : Prop := ∀ {α : Type} [Inhabited α] (enc : α → List Value) (_ : ∀ x, (enc x).length = k) (_ : ∀ x, ∀ v ∈ enc x, v.oneCell' = true) (cf : α → α → Int) (_ : SWO (ltOf cf)) (g : Nat) (cb : Array Value) (blk off cap : Nat) (d : Array α) (w : World)
    (_: ∀ args w,(callFunc g args).run P w=.ok (.enter g args) w) (_:CmpLays P g cb enc k cf blk off d.size w) (_:HoldsK enc k w blk off d) (_:blk < w.heap.size) (_:d.size < 4611686018427387904),
    Calls P f #[.slice (some ⟨blk,off,none⟩) d.size cap,.int .i64 0,.int .i64 (d.size:Nat),.int .i64 (Lib.bitLen d.size:Nat),.func (.func g) #[] cb] w fun e w'=>
      e=.returned (.tuple #[])∧ ∃ d' n os,PermIn 0 d.size d d'∧SortedIn (ltOf cf) 0 d.size d'∧w'=sortWorldK enc k w blk off n d' os
def PdqNone (P:Program) (f:Nat):Prop:= ∀ (p:Option Addr) (cap:Nat) (lim:Int) (fv:Value) (w:World),Calls P f #[.slice p 0 cap,.int .i64 0,.int .i64 0,.int .i64 lim,fv] w fun e w'=>e=.returned (.tuple #[])∧w'=w
section
variable {P:Program}
theorem CallOK_pdq {f g k:Nat} (hS:PdqSpec P f k) (hN:PdqNone P f) (hcf:callable P f) (hcg:callable P g) {T:Type} [Inhabited T] {f0:T→List V} {l:List T} {cmp:T→T→Int}
    (hO:SWO fun a b=>decide (cmp a b < 0)) (hT: ∀ a∈l,∀ b∈l,¬cmp a b < 0→ ¬cmp b a < 0→a=b)
    (hc: ∀ a∈l,∀ b∈l,PureC P g [.agg (f0 a),.agg (f0 b)] (iV (cmp a b))) (hp: ∀ a∈l,pureL (f0 a)=true) (h1: ∀ a∈l,(f0 a).all V.one=true) (hk: ∀ a,(f0 a).length=k)
    (hl:l.length < 4611686018427387904) {id ver ty:Nat} {lz:Bool} {H:Heap} (hH:H id=⟨ver,true,lz,ty,k,l.map f0⟩):
    CallOK P f [.ms id ver 0 l.length,iV 0,iV (l.length:Nat),iV (Lib.bitLen l.length:Nat),.fn g [] []] H (.tup []) (upd H id ⟨ver,true,lz,ty,k,(srt cmp l).map f0⟩):=by
  refine ⟨hcf,fun x cs hxH hx hr=>?_⟩
  subst hxH
  obtain ⟨c0,k1,k2,k3,c1,rfl⟩: ∃ c0 k1 k2 k3 c1,cs=[c0,k1,k2,k3,c1]:=by
    have:=hr.1
    match cs with
    |[a,b,c,d,e]=>exact ⟨a,b,c,d,e,rfl⟩
    |[]=>simp at this
    |[_]=>simp at this
    |[_,_]=>simp at this
    |[_,_,_]=>simp at this
    |[_,_,_,_]=>simp at this
    |_::_::_::_::_::_::_=>simp at this
  have q1:R x (iV 0) k1:=hr.2 1 _ rfl
  have q2:R x (iV (l.length:Nat)) k2:=hr.2 2 _ rfl
  have q3:R x (iV (Lib.bitLen l.length:Nat)) k3:=hr.2 3 _ rfl
  have q1':k1=.int .i64 0:=by unfold iV at q1; cases q1; rfl
  have q2':k2=.int .i64 (l.length:Nat):=by unfold iV at q2; cases q2; rfl
  have q3':k3=.int .i64 (Lib.bitLen l.length:Nat):=by unfold iV at q3; cases q3; rfl
  subst q1'; subst q2'; subst q3'
  have r0:R x (.ms id ver 0 l.length) c0:=hr.2 0 _ rfl
  have r1:R x (.fn g [] []) c1:=hr.2 4 _ rfl
  cases r1 with
  |fn _ _ _ fs cb hfs hcs _ _=>
  have hfs':fs=#[]:=Array.eq_empty_of_size_eq_zero (by simpa using hfs)
  have hcs':cb=#[]:=Array.eq_empty_of_size_eq_zero (by simpa using hcs)
  subst hfs'; subst hcs'
  cases r0 with
  |ms _ _ _ _ b n cap hv hh hm=>
  obtain ⟨e1,e2,e3,e4,e5,e6⟩:=hh (by rw [hH]) (by rw [hH])
  subst e1
  by_cases hne:l=[]
  · subst hne
    refine (hN b cap (Lib.bitLen 0:Nat) (.func (.func g) #[] #[]) x.w).mono fun e w' h=>?_
    obtain ⟨rfl,rfl⟩:=h
    refine ⟨_,x,rfl,rfl,?_,hx,.tup [] #[] rfl (fun j v hj=>by simp at hj),Frame.refl x⟩
    funext j
    by_cases e:j=id
    · subst e; rw [upd_same,hH]; rfl
    · rw [upd_ne _ _ e]
  have hpos:0 < l.length:=List.length_pos_iff.2 hne
  have ho:(x.H id).own=true:=by
    rw [hH]
    cases l with
    |nil=>exact (hne rfl).elim
    |cons a l=>simp [Blk.own]
  obtain ⟨e7,_⟩:=e5 ho
  rw [hH] at e7
  simp only [Nat.zero_mul] at e7
  subst e7
  obtain ⟨cc,b1,b2,b3,b4⟩:=hx.cel id ho (hm (by rw [hH]) (by rw [hH]))
  simp only [hH] at b1 b2 b3 b4
  rw [List.length_map] at b3
  let A:Type:={i:Nat // i < l.length}
  haveI:Inhabited A:=⟨⟨0,hpos⟩⟩
  let enc:A→List Value:=fun i=>(List.range k).map fun j=>cc.getD (i.1*k+j) undef
  let cf:A→A→Int:=fun a b=>cmp (nth l a.1) (nth l b.1)
  let d:Array A:=Array.ofFn fun i:Fin l.length=>(⟨i.1,i.2⟩:A)
  have hdn:d.size=l.length:=by simp [d]
  have hdi: ∀ i (h:i < l.length),d[i]! =⟨i,h⟩:=fun i h=>by
    rw [getElem!_pos d i (by rw [hdn]; exact h)]; simp [d]
  have hek: ∀ a,(enc a).length=k:=fun a=>by simp [enc]
  have hej: ∀ (a:A) (j:Nat),j < k→(enc a)[j]?=some (cc.getD (a.1*k+j) undef):=fun a j hj=>by simp [enc,hj]
  have hrow: ∀ i,i < l.length→(l.map f0)[i]?=some (f0 (nth l i)):=fun i hi=>by rw [List.getElem?_map,nth_eq hi]; rfl
  have hRx: ∀ (a:A) (j:Nat) (v:V),(f0 (nth l a.1))[j]?=some v→R x v (cc.getD (a.1*k+j) undef):=fun a j v hj=>b4 a.1 _ j v (hrow a.1 a.2) hj
  have hcell: ∀ (a:A) (j:Nat),j < k→a.1*k+j < cc.size:=fun a j hj=>by
    have:(a.1+1)*k≤l.length*k:=Nat.mul_le_mul_right k a.2
    rw [Nat.add_mul,Nat.one_mul] at this
    omega
  have hO':SWO (ltOf cf):=⟨fun a=>hO.irrefl _,fun a b c=>hO.trans _ _ _,fun a b c=>hO.ntrans _ _ _⟩
  have hcmp:CmpLays P g #[] enc k cf (x.σ id) 0 d.size x.w:=by
    intro m os dk hdk a b
    let W:=sortWorldK enc k x.w (x.σ id) 0 m dk os
    let z:Cx:=start {x with w:=W} x.Z
    have hz:Inv z:=start_ok (fun b hb=>Nat.lt_of_lt_of_le (hx.zlt b hb) sortWorld_size) fun p hp=>⟨(hx.tab p hp).1,by
      obtain ⟨q1,q2⟩:=hx.tab p hp
      show ∃ ty m,W.heap[p.1]?=_
      rw [show W.heap[p.1]?=x.w.heap[p.1]? from sortWorld_other (hx.zlt _ q1) fun e=>hx.zown _ id q1 ho e.symm]; exact q2⟩
    have hag: ∀ a:A,R z (.agg (f0 (nth l a.1))) (.agg (enc a).toArray):=fun a=>by
      refine .agg _ _ (by simp [hek,hk]) fun j v hj=>?_
      have hjk:j < k:=by rw [← hk (nth l a.1)]; exact (List.getElem?_eq_some_iff.1 hj).1
      have h:=hRx a j v hj
      have hg:(enc a).toArray.getD j undef=cc.getD (a.1*k+j) undef:=by
        rw [Array.getD_eq_getD_getElem?,List.getElem?_toArray,hej a j hjk]; rfl
      rw [hg]
      refine h.pure_same (y:=z) (pureL_iff.1 (hp _ (nth_mem a.2)) v (List.mem_of_getElem? hj)) (fun b hb=>?_) fun _ h=>h
      exact sortWorld_other (hx.zlt b hb) fun e=>hx.zown b id hb ho e.symm
    have hrl:RL z [.agg (f0 (nth l a.1)),.agg (f0 (nth l b.1))] [.agg (enc a).toArray,.agg (enc b).toArray]:=by
      refine ⟨rfl,fun j v hj=>?_⟩
      match j,hj with
      |0,hj=>simp at hj; subst hj; exact hag a
      |1,hj=>simp at hj; subst hj; exact hag b
    refine ((hc _ (nth_mem a.2) _ (nth_mem b.2) H0).2 z _ rfl hz hrl).mono fun e w' h=>?_
    obtain ⟨c,y,rfl,rfl,_,_,h5,h6⟩:=h
    cases h5
    obtain ⟨q,os',hq⟩:=grown_of_frame h6 fun id=>rfl
    exact ⟨rfl,q,os',hq⟩
  have hsz:d.size < 4611686018427387904:=by rw [hdn]; exact hl
  have hH':HoldsK enc k x.w (x.σ id) 0 d:=by
    intro j hj
    rw [size_flatK,hdn] at hj
    have hk0:0 < k:=Nat.pos_of_ne_zero fun e=>by subst e; simp at hj
    have hdv:j / k < l.length:=(Nat.div_lt_iff_lt_mul hk0).2 hj
    have hmd:j % k < k:=Nat.mod_lt _ hk0
    have e:(flatK enc k d)[j]! =cc.getD j undef:=by
      rw [get_flatK _ _ _ _ (by rw [hdn]; exact hj),hdi _ hdv]
      have h:=hej ⟨j / k,hdv⟩ (j % k) hmd
      rw [List.getElem!_eq_getElem?_getD,h]
      simp only [Option.getD_some]
      rw [Nat.div_add_mod' j k]
    have hjc:j < cc.size:=by omega
    refine ⟨?_,?_⟩
    · rw [e,Nat.zero_add]; exact own_cell b1 hjc
    · simp [World.frozen?,b1]
  have hcall:=hS enc hek (fun a v hv=>by
      obtain ⟨j,hj⟩:=List.getElem?_of_mem hv
      have hjk:j < k:=by rw [← hek a]; exact (List.getElem?_eq_some_iff.1 hj).1
      rw [hej a j hjk] at hj
      cases hj
      have hu: ∃ u,(f0 (nth l a.1))[j]?=some u:=⟨_,List.getElem?_eq_getElem (by rw [hk]; exact hjk)⟩
      obtain ⟨u,hu⟩:=hu
      exact (hRx a j u hu).one (List.all_eq_true.1 (h1 _ (nth_mem a.2)) u (List.mem_of_getElem? hu))) cf hO' g #[] (x.σ id) 0 cap d x.w (enters_callable hcg) hcmp hH' (hx.lt ho) hsz
  rw [hdn] at hcall
  refine hcall.mono fun e w' h=>?_
  obtain ⟨rfl,d',n',os',hP,hSo,rfl⟩:=h
  obtain ⟨p1,_,p3⟩:=hP
  rw [hdn] at p1
  have x1:d'.extract 0 l.length=d':=by rw [← p1]; simp
  have x2:d.extract 0 l.length=d:=by rw [← hdn]; simp
  rw [x1,x2] at p3
  have hmap:d.toList.map (fun a:A=>nth l a.1)=l:=by
    refine nth_ext (by simp [hdn]) fun j hj=>?_
    have hj':j < l.length:=by simpa [hdn] using hj
    rw [nth_map (by simpa using hj),← nth_set_eq d j (by rw [hdn]; exact hj'),hdi j hj']
  have hl':d'.toList.map (fun a:A=>nth l a.1)=srt cmp l:=by
    have hperm:(d'.toList.map (fun a:A=>nth l a.1)).Perm l:=by
      have:=p3.map (fun a:A=>nth l a.1)
      rwa [hmap] at this
    refine sorted_uniq (le:=fun a b=> ¬cmp b a < 0) (fun a ha b hb h1 h2=>hT a (hperm.mem_iff.1 ha) b (hperm.mem_iff.1 hb) h2 h1) (hperm.trans (srt_perm cmp l).symm) ?_ (srt_sorted hO l)
    rw [List.pairwise_map,List.pairwise_iff_getElem]
    intro i j hi hj hij
    have h:=hSo i j (Nat.zero_le _) hij (by rw [← p1]; simpa using hj)
    rw [nth_set_eq d' i (by simpa using hi),nth_set_eq d' j (by simpa using hj),← nth_getElem hi,← nth_getElem hj] at h
    simpa [ltOf,cf] using h
  let cc':=putCells _root_.id 0 (flatK enc k d') cc
  have hcs:cc'.size=cc.size:=by simp [cc',putCells]
  have hg: ∀ r j,r < l.length→j < k→ ∀ (hr:r < d'.size),cc'.getD (r*k+j) undef=cc.getD ((d'[r]'hr).1*k+j) undef:=by
    intro r j hr hj hr'
    have hb:r*k+j < l.length*k:=by
      have:(r+1)*k≤l.length*k:=Nat.mul_le_mul_right k hr
      rw [Nat.add_mul,Nat.one_mul] at this; omega
    have hsz':(flatK enc k d').size=l.length*k:=by rw [size_flatK,p1]
    have e:cc'[r*k+j]?=some ((flatK enc k d')[r*k+j]!):=by
      simp only [cc',putCells,Array.getElem?_mapIdx]
      rw [Array.getElem?_eq_getElem (by omega)]
      simp [hsz',hb]
    rw [Array.getD_eq_getD_getElem?,e,get_flatK _ _ _ _ (by rw [p1]; exact hb)]
    have q1:(r*k+j) / k=r:=by rw [Nat.mul_comm,Nat.mul_add_div (by omega),Nat.div_eq_of_lt hj]; rfl
    have q2:(r*k+j) % k=j:=by rw [Nat.mul_comm,Nat.mul_add_mod]; exact Nat.mod_eq_of_lt hj
    rw [q1,q2,getElem!_pos d' r hr',List.getElem!_eq_getElem?_getD,hej _ j hj]
    rfl
  have hrows: ∀ (r:Nat) (row:List V) (j:Nat) (v:V),((srt cmp l).map f0)[r]?=some row→row[j]?=some v→R x v (cc'.getD (r*k+j) undef):=by
    intro r row j v hr hj
    rw [← hl',List.map_map,List.getElem?_map] at hr
    obtain ⟨a,ha,rfl⟩:=map_some hr
    have har:=List.getElem?_eq_some_iff.1 ha
    obtain ⟨hlt,hae⟩:=har
    have hlt':r < d'.size:=by simpa using hlt
    have hjk:j < k:=by rw [← hk (nth l a.1)]; exact (List.getElem?_eq_some_iff.1 hj).1
    rw [hg r j (by omega) hjk hlt']
    have hae':d'[r]'hlt'=a:=by simpa using hae
    rw [hae']
    exact hRx a j v hj
  have st:=step_set hx id ho cc cc' (by rw [hH]; exact b1) hcs (x.H id).ver ((srt cmp l).map f0) (Nat.le_refl _) (fun _=>by rw [hH]; simp [srt_len]) (by
      rw [hH]
      have:(srt cmp l).length=l.length:=by simp [srt_len]
      cases hq:srt cmp l with
      |nil=>rw [hq] at this; simp at this; omega
      |cons a q=>simp) (fun r hr=>by
      rw [hH]
      obtain ⟨a,_,rfl⟩:=List.mem_map.1 hr
      exact hk a) (by rw [hH]; simpa [srt_len] using b3) (by simp only [hH]; exact hrows)
  simp only [hH] at st
  obtain ⟨i1,f1⟩:=st
  obtain ⟨i2,f2⟩:=step_draw i1 (x.w.drawn+n') (Nat.le_add_right _ _)
  obtain ⟨i3,f3⟩:=step_grow i2 os'
  refine ⟨.tuple #[],_,rfl,?_,?_,i3,.tup [] #[] rfl (fun j v hj=>by simp at hj),(f1.trans f2).trans f3⟩
  · rw [sortWorld_eq b1]
  · rfl
end
end Go.Proofs.YteehaobohaecmaaDoor
namespace Go.Proofs.YteehaobohaecmaaDoor
open Go Go.Proofs Go.Shelf Go.Sort
theorem pdqSpec55:PdqSpec Tryd.prog 55 3:=fun {α} _ enc hk h1 cf hO g cb blk off cap d w eg hcmp hH hblk hsz=>
  (AnyQ.pdqsortCmpFunc_all (P:=Tryd.prog) (ρ:=sortRen48) {sortLay48 with} 3 Tryd.isAgg24 Tryd.sizeOf24 enc cf g cb hO blk off cap d w eg hcmp ⟨hk,h1,hH,hblk⟩ (d.size+1) 0 d.size (Lib.bitLen d.size) d w (by omega) rfl (SWK.start hH) (Nat.zero_le _) (Nat.le_refl _) hsz
    (Nat.lt_of_le_of_lt (Lib.bitLen_le d.size 62 (by omega) (by omega)) (by omega)) (Or.inl rfl)).mono fun _ _ ⟨he,n,os,hw⟩=>
      have h:=pdq_sorts (ltOf cf) hO d 0 d.size (Lib.bitLen d.size) true true (Nat.zero_le _) (Nat.le_refl _) (Or.inl rfl)
      ⟨he,_,n,os,h.1,h.2,hw⟩
theorem pdqNone55:PdqNone Tryd.prog 55:=fun p cap lim fv w=>AnyF.pdqsortCmpFunc_none (P:=Tryd.prog) (ρ:=sortRen48) {sortLay48 with} p cap lim fv w
theorem pdqCall55:callable Tryd.prog 55:=⟨_,Tryd.func55,by kernel_rfl,by kernel_rfl⟩
theorem len56_pure {n:Nat} (h:n < 4611686018427387904):PureC Tryd.prog 56 [.int .u64 (n:Nat)] (iV (Lib.bitLen n:Nat)):=fun H=>by
  refine ⟨⟨_,Tryd.func56,by kernel_rfl,by kernel_rfl⟩,fun x cs hxH hx hr=>?_⟩
  obtain ⟨c0,rfl⟩: ∃ c0,cs=[c0]:=by
    have:=hr.1
    match cs with
    |[a]=>exact ⟨a,rfl⟩
    |[]=>simp at this
    |_::_::_=>simp at this
  have r0:R x (.int .u64 (n:Nat)) c0:=hr.2 0 _ rfl
  have hc:c0=.int .u64 (n:Nat):=by cases r0; rfl
  subst hc
  have h:=Any.bits_Len (SlLaysF0.n15.bits (P:=Tryd.prog) (ρ:=sortRen48) {sortLay48 with}) (n:Int) x.w (by omega) (by omega)
  rw [Int.toNat_natCast] at h
  refine h.mono fun e w' hh=>?_
  obtain ⟨rfl,rfl⟩:=hh
  exact ⟨_,x,rfl,rfl,hxH,hx,.int _ _,Frame.refl x⟩
end Go.Proofs.YteehaobohaecmaaDoor
namespace Go.Proofs.YteehaobohaecmaaDoor
open Go Go.Proofs
theorem sortc_E (l:List Fm) (v2:Nat) (z:Bool) (Hi:Heap) (h900:Hi 900=(⟨v2,true,z,24,3,(List.map cF (l))⟩:Blk)) (hl:l.length≤2147483648):CallOK Tryd.prog 94 [(V.ms 900 v2 0 (l.length)),(V.fn 49 [] [])] Hi (V.tup []) (upd Hi 900 (⟨v2,true,z,24,3,(List.map cF (srt ordF l))⟩:Blk)):=by
 refine eW (k0:=650) Tryd.func94 s94_ok fun hB=>?_
 unfold s94
 dsimp only
 refine W_r (R_mv rfl (R_len_ms rfl h900 (by simp) (R_mv rfl (R_e (W_t (R_mv rfl (R_mv rfl ?_)))))))
 refine R_mv rfl (R_convU (n:=l.length) (@rfl V (iV ((l.length:Nat):Int))) (by omega) (R_callk ((len56_pure (n:=l.length) (by omega))) rfl (R_mv rfl (R_callE (evcons rfl (evcons rfl (evcons rfl (evcons rfl (evcons rfl evnil))))) (CallOK_pdq (f0:=cF) (l:=l) (cmp:=ordF) pdqSpec55 pdqNone55 pdqCall55 ⟨_,Tryd.func49,by kernel_rfl,by kernel_rfl⟩ ordF_swo (fun a _ b _ h1 h2=>ord_zero_of h1 h2) (fun a _ b _=>by rw [cF_eq,cF_eq]; exact cmpf_pure a b) (fun a _=>by simp) (fun a _=>cF_one a) cF_len (by omega) h900) (R_e (fork_ (R:=fun T H=>(∀ j,j∉[900]→H j=Hi j)∧H 900=(⟨v2,true,z,24,3,(List.map cF (srt ordF l))⟩:Blk)∧True) ⟨(upd_out (fun _ _=>rfl) (by decide)),rfl,trivial⟩ ?_))))))
 intro T H ⟨hF,h900,_⟩
 skip
 have fh:=FinX.fin (FinX.put (FinX.start hF) h900 (FinB.eq rfl))
 exact RetF_0 fh
def r95_6:List SO:=[
 qM 18 1,
 qM 19 0,
 qM 20 5,
 qA 21 3 19 20,
 qL 22 3 21,
 qM 23 0,
 qM 24 5,
 qC 25 .sub 24 1,
 qA 26 3 23 25,
 qL 27 3 26,
 sO 28 (.callv false (.t 18) [.t 22,.t 27])]
def r95_11:List SO:=[
 qM 38 1,
 qM 39 6,
 qM 40 7,
 qA 41 3 39 40,
 qL 42 3 41,
 qM 43 6,
 qM 44 7,
 qC 45 .sub 44 1,
 qA 46 3 43 45,
 qL 47 3 46,
 sO 48 (.callv false (.t 38) [.t 42,.t 47]),
 sO 49 (.un .not (.t 48))]
def r95_12:List SO:=[
 qM 50 0,
 qM 51 5,
 qM 52 6,
 qM 53 7,
 qA 54 3 52 53,
 qL 55 3 54,
 qA 56 3 50 51,
 sN (.store 3 (.t 56) (.t 55))]
def b95_1:SC:=.seq (.seq (.reg [qM 32 7,qM 33 6,qN 34 33,qP 35 .lss 32 34]) (.cond (.t 35) (.skip) (.exit 2))) (.seq (.block 3 (.seq (.reg r95_11) (.cond (.t 49) (.seq (.reg r95_12) (.reg [qM 57 5,qC 58 .add 57 1,qM 5 58])) (.skip)))) (.reg [qM 36 7,qC 37 .add 36 1,qM 7 37]))
def b95_0:SC:=.seq (.seq (.reg [qM 12 5,qM 13 0,qN 14 13,qP 15 .lss 12 14]) (.cond (.t 15) (.skip) (.exit 0))) (.seq (.block 1 (.seq (.reg r95_6) (.cond (.t 28) (.seq (.reg [qM 29 0,qM 30 5,sO 31 (.slice 3 (.t 29) (some (.t 30)) none),qM 6 31]) (.seq (.seq (.reg [qI 7 1]) (.block 2 (.loop b95_1))) (.seq (.reg [qM 59 0,qM 60 5,sO 61 (.slice 3 (.t 59) (some (.t 60)) none),sN (.clr [.int .i64 0,.int .i64 0,.nilsl] (.t 61))]) (.seq (.reg [qM 62 0,qM 63 5,sO 64 (.slice 3 (.t 62) none (some (.t 63))),qM 4 64]) (.ret))))) (.skip)))) (.reg [qM 16 5,qC 17 .add 16 1,qM 5 17]))
def s95:SF:=⟨66,[.tmp 4],.seq (.reg [sO 4 (.mv (.c (.nilsl)))]) (.seq (.seq (.reg [qM 8 0,qN 9 8,qC 10 .lss 9 2]) (.cond (.t 10) (.seq (.reg [qM 11 0,qM 4 11]) (.ret)) (.skip))) (.seq (.seq (.reg [qI 5 1]) (.block 0 (.loop b95_0))) (.seq (.reg [qM 65 0,qM 4 65]) (.ret))))⟩
theorem s95_ok:slimF Tryd.prog ⟨[32,48,55,93,94,95,100],[],[],[]⟩ Tryd.f95=some s95:=by kernel_rfl
def r96_1:List SO:=[
 qF 5 0 2,
 ql 6 5,
 qF 7 0 3,
 ql 8 7,
 qP 9 .eql 6 8,
 qM 10 9,
 ⟨some (10,true),some 11,.fld 1 (.t 2)⟩,
 ⟨some (10,true),some 12,.load false 1 (.t 11)⟩,
 ⟨some (10,true),some 13,.fld 1 (.t 3)⟩,
 ⟨some (10,true),some 14,.load false 1 (.t 13)⟩,
 ⟨some (10,true),some 15,.bin .eql (.t 12) (.t 14)⟩,
 sO 16 (.pick (.t 10) (.t 15) (.c (.bool false))),
 qM 17 16,
 ⟨some (17,true),some 18,.fld 2 (.t 2)⟩,
 ⟨some (17,true),some 19,.load false 1 (.t 18)⟩,
 ⟨some (17,true),some 20,.fld 2 (.t 3)⟩,
 ⟨some (17,true),some 21,.load false 1 (.t 20)⟩,
 ⟨some (17,true),some 22,.call false 101 [.t 19,.t 21,.c (.fn 96 [] [])]⟩,
 sO 23 (.pick (.t 17) (.t 22) (.c (.bool false))),
 qM 4 23]
def s96:SF:=⟨24,[.tmp 4],.seq (.reg [sO 2 (.box 24 3 (.t 0)),sO 3 (.box 24 3 (.t 1)),sO 4 (.mv (.c (.bool false)))]) (.seq (.reg r96_1) (.ret))⟩
theorem s96_ok:slimF Tryd.prog ⟨[32,48,55,93,94,95,100],[],[],[]⟩ Tryd.f96=some s96:=by kernel_rfl
def b101_0:SC:=.seq (.reg [qP 18 .lss 17 16]) (.seq (.cond (.t 18) (.skip) (.exit 0)) (.seq (.block 1 (.seq (.reg [qM 19 17,qA 20 3 15 17,qL 21 3 20,sO 8 (.alloc 24 [.int .i64 0,.int .i64 0,.nilsl]),qM 7 19,sN (.store 3 (.t 8) (.t 21))]) (.seq (.reg [qM 22 1,qM 23 7,qA 24 3 22 23,qL 25 3 24,sO 9 (.alloc 24 [.int .i64 0,.int .i64 0,.nilsl]),sN (.store 3 (.t 9) (.t 25))]) (.seq (.reg [qM 26 2,qL 27 3 8,qL 28 3 9,sO 29 (.callv false (.t 26) [.t 27,.t 28]),sO 30 (.un .not (.t 29))]) (.cond (.t 30) (.seq (.reg [sO 6 (.mv (.c (.bool false)))]) (.ret)) (.skip)))))) (.reg [qC 31 .add 17 1,qM 17 31])))
def s101:SF:=⟨32,[.tmp 6],.seq (.reg [sO 6 (.mv (.c (.bool false)))]) (.seq (.seq (.reg [qM 10 0,qN 11 10,qM 12 1,qN 13 12,qP 14 .neq 11 13]) (.cond (.t 14) (.seq (.reg [sO 6 (.mv (.c (.bool false)))]) (.ret)) (.skip))) (.seq (.seq (.reg [qM 15 0,qN 16 15,qI 17 0]) (.block 0 (.loop b101_0))) (.seq (.reg [sO 6 (.mv (.c (.bool true)))]) (.ret))))⟩
theorem s101_ok:slimF Tryd.prog ⟨[32,48,55,93,94,95,100],[],[],[]⟩ Tryd.f101=some s101:=by kernel_rfl
theorem eqf_pure (l m:List Fm) (hq: ∀ k,k < l.length→k < m.length→PureC Tryd.prog 96 [(V.agg [(iV ((nth l k).op)),(iV ((nth l k).arg)),(V.sl (List.map cF ((nth l k).kids)))]),(V.agg [(iV ((nth m k).op)),(iV ((nth m k).arg)),(V.sl (List.map cF ((nth m k).kids)))])] (V.bool (sameF (nth l k) (nth m k)))):PureC Tryd.prog 101 [(V.sl (List.map cF (l))),(V.sl (List.map cF (m))),(V.fn 96 [] [])] (V.bool (decide (l.length=m.length)&&sameL l m)):=by
 refine pW Tryd.func101 s101_ok fun hB=>?_
 unfold s101
 dsimp only
 refine W_r (R_mv rfl (R_e (W_seq_seq (W_r (R_mv rfl (R_len rfl (R_mv rfl ?_)))))))
 refine R_len rfl (R_neq rfl rfl (R_e ?_))
 refine W_seq_if rfl (fun c1=>?_) fun c1=>?_
 ·
  refine W_seq_seq (W_r (R_mv rfl (R_e (W_seq_ret ?_))))
  refine Ret_1 (@rfl V (V.bool false)) (fz_bool ?_)
  · rw [decide_eq_false (by omega),Bool.false_and]
 refine W_seq_skip (W_seq_seq (W_r (R_mv rfl (R_len rfl (R_mv rfl (R_e (W_seq_blockg fun Q2 n2 x2 y2 z2=>?_)))))))
 refine W_loop (fun mm T H=> ∃ (k:Nat) (v8:Nat) (v9:Nat),mm=l.length - k∧T 1=(V.sl (List.map cF (m)))∧T 2=(V.fn 96 [] [])∧T 15=(V.sl (List.map cF (l)))∧T 16=(iV ((l.length:Nat):Int))∧T 17=(iV ((k:Nat):Int))∧(H 8).ver=v8∧(H 9).ver=v9∧(k≤l.length)∧(l.length=m.length)∧(sameL l m=sameL (l.drop k) (m.drop k))) ?_ ?_
 ·
  refine ⟨_,0,0,0,rfl,rfl,rfl,rfl,rfl,(Eq.trans (@rfl V (iV (0:Int))) rfl),(congrArg Blk.ver rfl),(congrArg Blk.ver rfl),?_,?_,?_⟩
  · omega
  · omega
  · rfl
 intro mm T H ⟨k,v8,v9,hmm,t1,t2,t15,t16,t17,h8,h9,hk,hl,hc⟩ Q3 p13 p23 p33
 unfold b101_0
 refine W_r (R_lss t17 t16 (R_e ?_))
 refine W_seq_if rfl (fun c4=>?_) fun c4=>?_
 ·
  refine W_seq_skip (W_seq_blockg fun Q5 n5 x5 y5 z5=>(W_r (R_mv t17 (R_idxu (i:=k) t15 t17 (by omega) (cF_eq _) rfl (R_load_pp rfl rfl (R_alloc (i:=8) (n:=v8) (m:=3) rfl h8 rfl (R_mv rfl ?_)))))))
  refine R_sk rfl rfl rfl rfl rfl rfl rfl rfl rfl (R_e (W_r (R_mv t1 (R_mv rfl (R_idxu (i:=k) (@rfl V (V.sl (List.map cF (m)))) (@rfl V (iV ((k:Nat):Int))) (by omega) (cF_eq _) rfl (R_load_pp rfl rfl (R_alloc (i:=9) (n:=v9) (m:=3) rfl h9 rfl ?_)))))))
  refine R_sk rfl rfl rfl rfl rfl rfl rfl rfl rfl (R_e (W_r (R_mv t2 (R_lk rfl rfl rfl rfl (R_lk rfl rfl rfl rfl (R_callv (@rfl V (V.fn 96 [] [])) (evcons (@rfl V (V.agg [(iV (((nth (l) (k))).op)),(iV (((nth (l) (k))).arg)),(V.sl (List.map cF (((nth (l) (k))).kids)))])) (evcons (@rfl V (V.agg [(iV (((nth (m) (k))).op)),(iV (((nth (m) (k))).arg)),(V.sl (List.map cF (((nth (m) (k))).kids)))])) evnil)) (hq k (by omega) (by omega)) (fzv_mapcanon _ _ (by simp [-List.map_take,-List.map_drop,-List.map_append,-List.map_reverse])) (by simp [-List.map_take,-List.map_drop,-List.map_append,-List.map_reverse]) (Or.inl (by simp [-List.map_take,-List.map_drop,-List.map_append,-List.map_reverse])) (R_notb rfl ?_)))))))
  refine R_e ?_
  refine W_ifb rfl (fun c6=>?_) (fun c6=>?_)
  ·
   have d1:sameF (nth l k) (nth m k)=false:=by simpa using c6
   refine W_r (R_mv rfl (R_e (W_ret (y5 _ _ (p23 _ _ (y2 _ _ ?_))))))
   refine Ret_1 (@rfl V (V.bool false)) (fz_bool ?_)
   · rw [hc,sameL_no (by omega) (by omega) d1,Bool.and_false]
  have d1:sameF (nth l k) (nth m k)=true:=by simpa using c6
  refine W_skip (n5 _ _ (.done (W_t (R_addN t17 (@rfl V (iV ((1:Nat):Int))) (by omega) (R_mv rfl (R_e ?_))))))
  refine p13 _ _ _ ?_ ⟨(k+1),(v8+1),(v9+1),rfl,t1,t2,t15,t16,(Eq.trans (@rfl V (iV ((k+1:Nat):Int))) (by rfl)),(congrArg Blk.ver rfl),(congrArg Blk.ver rfl),?_,?_,?_⟩
  · omega
  · omega
  · omega
  · rw [hc,sameL_yes (by omega) (by omega) d1]
 refine W_seq_exit (p33 _ _ _ (x2 _ _ (.done (W_r (R_mv rfl (R_e (W_ret ?_)))))))
 refine Ret_1 (@rfl V (V.bool true)) (fz_bool ?_)
 · rw [hc,sameL_end (by omega),Bool.and_true,decide_eq_true (by omega)]
theorem fsame_pure_step (f h:Fm) (ih: ∀ (g h:Fm),g.sz < f.sz→PureC Tryd.prog 96 [(V.agg [(iV (g.op)),(iV (g.arg)),(V.sl (List.map cF (g.kids)))]),(V.agg [(iV (h.op)),(iV (h.arg)),(V.sl (List.map cF (h.kids)))])] (V.bool (sameF g h))):PureC Tryd.prog 96 [(V.agg [(iV (f.op)),(iV (f.arg)),(V.sl (List.map cF (f.kids)))]),(V.agg [(iV (h.op)),(iV (h.arg)),(V.sl (List.map cF (h.kids)))])] (V.bool (sameF f h)):=by
 refine pW Tryd.func96 s96_ok fun hB=>?_
 unfold s96
 dsimp only
 refine W_r (R_box (i:=2) (n:=0) (m:=3) (cs:=[(iV (f.op)),(iV (f.arg)),(V.sl (List.map cF (f.kids)))]) rfl (congrArg Blk.ver rfl) rfl rfl rfl (R_box (i:=3) (n:=0) (m:=3) (cs:=[(iV (h.op)),(iV (h.arg)),(V.sl (List.map cF (h.kids)))]) rfl (congrArg Blk.ver rfl) rfl rfl rfl (R_mv rfl (R_e (W_r (R_fk rfl rfl (R_lk rfl rfl rfl rfl ?_)))))))
 refine R_fk rfl rfl (R_lk rfl rfl rfl rfl (R_eql rfl rfl (R_mv rfl ?_)))
 refine Ops_seg 6 (fun T H=>T 2=(V.mp 2 1 0 0)∧T 3=(V.mp 3 1 0 0)∧T 16=(V.bool (decide (((f.op)=(h.op))∧((f.arg)=(h.arg)))))∧H 2=(bk 1 24 3 [[(iV (f.op)),(iV (f.arg)),(V.sl (List.map cF (f.kids)))]])∧H 3=(bk 1 24 3 [[(iV (h.op)),(iV (h.arg)),(V.sl (List.map cF (h.kids)))]])∧True) ?_ ?_
 ·
  by_cases g1:(f.op)=(h.op)
  ·
   refine G_yes (edT g1 rfl) (R_fk rfl rfl (G_yes (edT g1 rfl) (R_lk rfl rfl rfl rfl (G_yes (edT g1 rfl) (R_fk rfl rfl (G_yes (edT g1 rfl) (R_lk rfl rfl rfl rfl ?_)))))))
   refine G_yes (edT g1 rfl) (R_eql rfl rfl (R_pickT (edT g1 rfl) rfl ?_))
   exact ⟨rfl,rfl,(dec_andT g1),rfl,rfl,trivial⟩
  ·
   refine G_n (edF g1 rfl) (G_n (edF g1 rfl) (G_n (edF g1 rfl) (G_n (edF g1 rfl) (G_n (edF g1 rfl) (R_pickF (edF g1 rfl) rfl ?_)))))
   exact ⟨rfl,rfl,(dec_andF g1),rfl,rfl,trivial⟩
 intro T H ⟨t2,t3,t16,h2,h3,_⟩
 refine R_mv t16 ?_
 refine Ops_seg 6 (fun T H=>T 23=(V.bool ((decide (((f.op)=(h.op))∧((f.arg)=(h.arg)))&&(decide (f.kids.length=h.kids.length)&&sameL f.kids h.kids))))∧H 2=(bk 1 24 3 [[(iV (f.op)),(iV (f.arg)),(V.sl (List.map cF (f.kids)))]])∧H 3=(bk 1 24 3 [[(iV (h.op)),(iV (h.arg)),(V.sl (List.map cF (h.kids)))]])∧True) ?_ ?_
 ·
  by_cases g2:((f.op)=(h.op))∧((f.arg)=(h.arg))
  ·
   refine G_yes (edT g2 rfl) (R_fk t2 h2 (G_yes (edT g2 rfl) (R_lk rfl h2 rfl rfl (G_yes (edT g2 rfl) (R_fk t3 h3 (G_yes (edT g2 rfl) (R_lk rfl h3 rfl rfl ?_)))))))
   refine G_yes (edT g2 rfl) (R_callk (eqf_pure f.kids h.kids (fun k h1 h2=>ih (nth f.kids k) (nth h.kids k) (Fm.sz_kid h1))) rfl (R_pickT (edT g2 rfl) rfl ?_))
   exact ⟨(dbandT g2),h2,h3,trivial⟩
  ·
   refine G_n (edF g2 rfl) (G_n (edF g2 rfl) (G_n (edF g2 rfl) (G_n (edF g2 rfl) (G_n (edF g2 rfl) (R_pickF (edF g2 rfl) rfl ?_)))))
   exact ⟨(dbandF g2),h2,h3,trivial⟩
 intro T H ⟨t23,h2,h3,_⟩
 refine R_mv t23 (R_e (W_ret ?_))
 refine Ret_1 (@rfl V (V.bool ((decide (((f.op)=(h.op))∧((f.arg)=(h.arg)))&&(decide (f.kids.length=h.kids.length)&&sameL f.kids h.kids))))) (fz_bool ?_)
 · rw [sameF_eq]; simp only [Bool.and_assoc,Bool.decide_and]
theorem fsame_pure (f h:Fm):PureC Tryd.prog 96 [(V.agg [(iV (f.op)),(iV (f.arg)),(V.sl (List.map cF (f.kids)))]),(V.agg [(iV (h.op)),(iV (h.arg)),(V.sl (List.map cF (h.kids)))])] (V.bool (sameF f h)):=by
  have key: ∀ (mm:Nat) (f h:Fm),f.sz < mm→PureC Tryd.prog 96 [(V.agg [(iV (f.op)),(iV (f.arg)),(V.sl (List.map cF (f.kids)))]),(V.agg [(iV (h.op)),(iV (h.arg)),(V.sl (List.map cF (h.kids)))])] (V.bool (sameF f h)):=by
    intro mm
    induction mm with
    |zero=>intro f h hlt; exact absurd hlt (Nat.not_lt_zero _)
    | succ mm ih =>
      intro f h hlt
      exact fsame_pure_step f h fun f2 h2 hlt2=>ih f2 h2 (by omega)
  exact key (f.sz+1) f h (Nat.lt_succ_self _)
theorem compc_E (l:List Fm) (v2 len:Nat) (z:Bool) (Hi:Heap) (h900:Hi 900=(⟨v2,true,z,24,3,(List.map cF (l))⟩:Blk)) (hn:len=l.length) (hl:l.length≤2147483648):CallOK Tryd.prog 95 [(V.ms 900 v2 0 (len)),(V.fn 96 [] [])] Hi (V.ms 900 v2 0 ((dfK l l.length).length)) (upd Hi 900 (⟨v2,true,z,24,3,(List.map cF (dfK l l.length)++List.replicate (l.length - (dfK l l.length).length) [iV 0,iV 0,V.nilsl])⟩:Blk)):=by
 refine eW (k0:=400) Tryd.func95 s95_ok fun hB=>?_
 unfold s95
 dsimp only
 refine W_r (R_mv rfl (R_e (W_seq_seq (W_r (R_mv rfl (R_len_ms rfl h900 (by simp) (R_lss rfl rfl ?_)))))))
 refine R_e ?_
 refine W_seq_if rfl (fun c1=>?_) fun c1=>?_
 ·
  refine W_seq_seq (W_r (R_mv rfl (R_mv rfl (R_e (W_seq_ret (fork_ (R:=fun T H=>T 4=(V.ms 900 v2 0 (len))∧(∀ j,j∉[900]→H j=Hi j)∧H 900=(⟨v2,true,z,24,3,(List.map cF (l))⟩:Blk)∧True) ⟨(@rfl V (V.ms 900 v2 0 (len))),(fun _ _=>rfl),h900,trivial⟩ ?_))))))
  intro T H ⟨t4,hF,h900,_⟩
  have hall:=df_all (l:=l) (fun i i1 i2=>by omega)
  have fh:=FinX.fin (FinX.put (B:=(⟨v2,true,z,24,3,(List.map cF (dfK l l.length)++List.replicate (l.length - (dfK l l.length).length) [iV 0,iV 0,V.nilsl])⟩:Blk)) (FinX.start hF) h900 (FinB.eq (by (rw [hall]; simp; done))))
  exact RetF_1 t4 fh (FinV.trans_eq (FinV.same fh _) (by (rw [hall,hn]; done)))
 refine W_seq_skip (W_seq_seq (W_r (R_mv rfl (R_e (W_seq_blockg fun Q2 n2 x2 y2 z2=>?_)))))
 refine W_loop (fun mm T H=> ∃ (k:Nat),mm=l.length - k∧T 0=(V.ms 900 v2 0 (len))∧T 1=(V.fn 96 [] [])∧T 5=(iV ((k:Nat):Int))∧(∀ j,j∉[900]→H j=Hi j)∧H 900=(⟨v2,true,z,24,3,(List.map cF (l))⟩:Blk)∧(1≤k)∧(k≤l.length)∧(∀ i,1≤i→i < k→nth l i≠nth l (i - 1))) ?_ ?_
 ·
  refine ⟨_,1,rfl,rfl,rfl,(Eq.trans (@rfl V (iV (1:Int))) rfl),(fun _ _=>rfl),h900,?_,?_,?_⟩
  · omega
  · omega
  · intro i h1 h2; omega
 intro mm T H ⟨k,hmm,t0,t1,t5,hF,h900,h1,hk,hc⟩ Q3 p13 p23 p33
 unfold b95_0
 refine W_seq_seq (W_r (R_mv t5 (R_mv t0 (R_len_ms rfl h900 (by simp) (R_lss rfl rfl (R_e ?_))))))
 refine W_seq_if rfl (fun c4=>?_) fun c4=>?_
 ·
  refine W_seq_skip (W_seq_blockg fun Q5 n5 x5 y5 z5=>(W_r (R_mv t1 (R_mv t0 (R_mv t5 (R_idx_ms0 (i:=k) (@rfl V (V.ms 900 v2 0 (len))) (@rfl V (iV ((k:Nat):Int))) h900 (okB_map (by omega)) rfl (by omega) (R_load_mp (v:=(V.agg [(iV (((nth (l) (k))).op)),(iV (((nth (l) (k))).arg)),(V.sl (List.map cF (((nth (l) (k))).kids)))])) rfl h900 (ldB_map (by omega) (by (rw [cF_eq]; rfl))) ?_)))))))
  refine R_mv t0 (R_mv t5 (R_sub rfl rfl (by omega) (by omega) (R_idxI_ms0 (i:=(((k:Nat):Int) - (1:Int))) (@rfl V (V.ms 900 v2 0 (len))) (@rfl V (iV (((k:Nat):Int) - (1:Int)))) h900 (okB_map (by omega)) rfl (by omega) (by omega) (R_load_mp (v:=(V.agg [(iV (((nth (l) (((((k:Nat):Int) - (1:Int))).toNat))).op)),(iV (((nth (l) (((((k:Nat):Int) - (1:Int))).toNat))).arg)),(V.sl (List.map cF (((nth (l) (((((k:Nat):Int) - (1:Int))).toNat))).kids)))])) rfl h900 (ldB_map (by omega) (by (rw [cF_eq]; rfl))) (R_callv (@rfl V (V.fn 96 [] [])) (evcons (@rfl V (V.agg [(iV (((nth (l) (k))).op)),(iV (((nth (l) (k))).arg)),(V.sl (List.map cF (((nth (l) (k))).kids)))])) (evcons (@rfl V (V.agg [(iV (((nth (l) (((((k:Nat):Int) - (1:Int))).toNat))).op)),(iV (((nth (l) (((((k:Nat):Int) - (1:Int))).toNat))).arg)),(V.sl (List.map cF (((nth (l) (((((k:Nat):Int) - (1:Int))).toNat))).kids)))])) evnil)) (fsame_pure (((nth (l) (k)))) (((nth (l) (((((k:Nat):Int) - (1:Int))).toNat))))) (fzv_mapcanon _ _ (by simp [-List.map_take,-List.map_drop,-List.map_append,-List.map_reverse])) (by simp [-List.map_take,-List.map_drop,-List.map_append,-List.map_reverse]) (Or.inl (by simp [-List.map_take,-List.map_drop,-List.map_append,-List.map_reverse])) (R_e ?_))))))
  refine W_ifb rfl (fun c6=>?_) (fun c6=>?_)
  ·
   have d1:nth l k=nth l (k - 1):=by have q:=(sameF_iff _ _).1 c6; rwa [show (((k:Nat):Int) - (1:Int)).toNat=k - 1 by omega] at q
   have hd:=df_start h1 (by omega) hc d1
   refine W_r (R_mv t0 (R_mv t5 (R_slice_ms_lo (n:=k) (@rfl V (V.ms 900 v2 0 (len))) (@rfl V (iV ((k:Nat):Int))) h900 (okB_map (by omega)) rfl (by omega) (R_mv rfl (R_e (W_seq_seq (W_r ?_)))))))
   refine R_mv rfl (R_e (W_seq_blockg fun Q7 n7 x7 y7 z7=>?_))
   refine W_loop (fun mm T H=> ∃ (j:Nat),mm=l.length - (k+j)∧T 0=(V.ms 900 v2 0 (len))∧T 1=(V.fn 96 [] [])∧T 5=(iV (((dfK l (k+j)).length:Nat):Int))∧T 6=(V.ms 900 v2 (0+k) (len - k))∧T 7=(iV ((j:Nat):Int))∧(∀ j,j∉[900]→H j=Hi j)∧H 900=(⟨v2,true,z,24,3,(List.map cF (dfL l (k+j)))⟩:Blk)∧(k+j≤l.length)∧(1≤j)∧((dfK l (k+j)).length < k+j)) ?_ ?_
   ·
    refine ⟨_,1,rfl,t0,t1,(Eq.trans t5 (by (rw [hd.1]; done))),(Eq.trans (@rfl V (V.ms 900 v2 (0+k) (len - k))) (by rfl)),(Eq.trans (@rfl V (iV (1:Int))) rfl),hF,(Eq.trans h900 (by (rw [hd.2]; done))),?_,?_,?_⟩
    · omega
    · omega
    · rw [hd.1]; omega
   intro mm T H ⟨j,hmm,t0,t1,t5,t6,t7,hF,h900,hj,hj1,hlt⟩ Q8 p18 p28 p38
   unfold b95_1
   have q1:=dfL_len (L:=l) (j:=k+j) hj
   have q5:=df_at hlt hj1
   have q6:=df_pos (l:=l) (j:=k+j) (by omega)
   refine W_seq_seq (W_r (R_mv t7 (R_mv t6 (R_len_ms rfl h900 (by simp) (R_lss rfl rfl (R_e ?_))))))
   refine W_seq_if rfl (fun c9=>?_) fun c9=>?_
   ·
    refine W_seq_skip (W_seq_blockg fun Q10 n10 x10 y10 z10=>(W_r (R_mv t1 (R_mv t6 (R_mv t7 (R_idx_ms (i:=j) (@rfl V (V.ms 900 v2 (0+k) (len - k))) (@rfl V (iV ((j:Nat):Int))) h900 (okB_map (by omega)) rfl (by omega) (R_load_mp (v:=(V.agg [(iV (((nth (dfL l (k+j)) ((0+k)+(j)))).op)),(iV (((nth (dfL l (k+j)) ((0+k)+(j)))).arg)),(V.sl (List.map cF (((nth (dfL l (k+j)) ((0+k)+(j)))).kids)))])) rfl h900 (ldB_map (by omega) (by (rw [cF_eq]; rfl))) ?_)))))))
    refine R_mv t6 (R_mv t7 (R_sub rfl rfl (by omega) (by omega) (R_idxI_ms (i:=(((j:Nat):Int) - (1:Int))) (@rfl V (V.ms 900 v2 (0+k) (len - k))) (@rfl V (iV (((j:Nat):Int) - (1:Int)))) h900 (okB_map (by omega)) rfl (by omega) (by omega) (R_load_mp (v:=(V.agg [(iV (((nth (dfL l (k+j)) ((0+k)+((((j:Nat):Int) - (1:Int))).toNat))).op)),(iV (((nth (dfL l (k+j)) ((0+k)+((((j:Nat):Int) - (1:Int))).toNat))).arg)),(V.sl (List.map cF (((nth (dfL l (k+j)) ((0+k)+((((j:Nat):Int) - (1:Int))).toNat))).kids)))])) rfl h900 (ldB_map (by omega) (by (rw [cF_eq]; rfl))) (R_callv (@rfl V (V.fn 96 [] [])) (evcons (@rfl V (V.agg [(iV (((nth (dfL l (k+j)) ((0+k)+(j)))).op)),(iV (((nth (dfL l (k+j)) ((0+k)+(j)))).arg)),(V.sl (List.map cF (((nth (dfL l (k+j)) ((0+k)+(j)))).kids)))])) (evcons (@rfl V (V.agg [(iV (((nth (dfL l (k+j)) ((0+k)+((((j:Nat):Int) - (1:Int))).toNat))).op)),(iV (((nth (dfL l (k+j)) ((0+k)+((((j:Nat):Int) - (1:Int))).toNat))).arg)),(V.sl (List.map cF (((nth (dfL l (k+j)) ((0+k)+((((j:Nat):Int) - (1:Int))).toNat))).kids)))])) evnil)) (fsame_pure (((nth (dfL l (k+j)) ((0+k)+(j))))) (((nth (dfL l (k+j)) ((0+k)+((((j:Nat):Int) - (1:Int))).toNat))))) (fzv_mapcanon _ _ (by simp [-List.map_take,-List.map_drop,-List.map_append,-List.map_reverse])) (by simp [-List.map_take,-List.map_drop,-List.map_append,-List.map_reverse]) (Or.inl (by simp [-List.map_take,-List.map_drop,-List.map_append,-List.map_reverse])) (R_notb rfl (R_e ?_)))))))
    refine W_ifb rfl (fun c11=>?_) (fun c11=>?_)
    ·
     have d5:nth l (k+j)≠nth l (k+j - 1):=fun q=>by have e:=(sameF_iff _ _).2 q; have c:=c11; rw [q5.1,q5.2,e] at c; cases c
     refine W_r (R_mv t0 (R_mv t5 (R_mv t6 (R_mv t7 (R_idx_ms (i:=j) (@rfl V (V.ms 900 v2 (0+k) (len - k))) (@rfl V (iV ((j:Nat):Int))) h900 (okB_map (by omega)) rfl (by omega) (R_load_mp (v:=(V.agg [(iV (((nth (dfL l (k+j)) ((0+k)+(j)))).op)),(iV (((nth (dfL l (k+j)) ((0+k)+(j)))).arg)),(V.sl (List.map cF (((nth (dfL l (k+j)) ((0+k)+(j)))).kids)))])) rfl h900 (ldB_map (by omega) (by (rw [cF_eq]; rfl))) (R_idx_ms0 (i:=((dfK l (k+j)).length)) (@rfl V (V.ms 900 v2 0 (len))) (@rfl V (iV (((dfK l (k+j)).length:Nat):Int))) h900 (okB_map (by omega)) rfl (by omega) ?_)))))))
     refine R_store (vs:=[(iV (((nth (dfL l (k+j)) ((0+k)+(j)))).op)),(iV (((nth (dfL l (k+j)) ((0+k)+(j)))).arg)),(V.sl (List.map cF (((nth (dfL l (k+j)) ((0+k)+(j)))).kids)))]) (B':=(⟨v2,true,z,24,3,(List.map cF ((dfL l (k+j)).set ((dfK l (k+j)).length) (((nth (dfL l (k+j)) ((0+k)+(j)))))))⟩:Blk)) rfl rfl rfl h900 (stB_map (x:=(((nth (dfL l (k+j)) ((0+k)+(j)))))) (i:=((dfK l (k+j)).length)) (by omega) (cF_eq _).symm rfl (cF_len _) rfl) (R_e (W_t (R_mv t5 (R_addN rfl (@rfl V (iV ((1:Nat):Int))) (by omega) (R_mv rfl (R_e (n10 _ _ ?_)))))))
     refine .done (W_t (R_mv t7 (R_addN rfl (@rfl V (iV ((1:Nat):Int))) (by omega) (R_mv rfl (R_e ?_)))))
     refine p18 _ _ _ ?_ ⟨(j+1),rfl,t0,t1,(Eq.trans (@rfl V (iV ((((dfK l (k+j)).length)+1:Nat):Int))) (by (show _=iV (((dfK l ((k+j)+1)).length:Nat):Int); rw [dfK_keep (.inr d5),List.length_append]; rfl))),(Eq.trans t6 (by rfl)),(Eq.trans (@rfl V (iV ((j+1:Nat):Int))) (by rfl)),(upd_out hF (by decide)),(Eq.trans (@rfl Blk (⟨v2,true,z,24,3,(List.map cF ((dfL l (k+j)).set ((dfK l (k+j)).length) (((nth (dfL l (k+j)) ((0+k)+(j)))))))⟩:Blk)) (by (rw [q5.1,dfL_keep (show k+j < l.length by omega) (.inr d5)]; rfl))),?_,?_,?_⟩
     · omega
     · omega
     · omega
     · first|(show (dfK l ((k+j)+1)).length < (k+j)+1; rw [dfK_keep (.inr d5),List.length_append]; simp; omega)|(show (dfK l ((k+j)+1)).length < (k+j)+1; rw [dfK_skip (by rintro (q|q); omega; exact q d5)]; omega)
    have d5:nth l (k+j)=nth l (k+j - 1):=by have c:=c11; rw [q5.1,q5.2] at c; exact (sameF_iff _ _).1 (by simpa using c)
    refine W_skip (n10 _ _ (.done (W_t (R_mv t7 (R_addN rfl (@rfl V (iV ((1:Nat):Int))) (by omega) (R_mv rfl (R_e ?_)))))))
    refine p18 _ _ _ ?_ ⟨(j+1),rfl,t0,t1,(Eq.trans t5 (by (show _=iV (((dfK l ((k+j)+1)).length:Nat):Int); rw [dfK_skip (by rintro (q|q); omega; exact q d5)]; done))),(Eq.trans t6 (by rfl)),(Eq.trans (@rfl V (iV ((j+1:Nat):Int))) (by rfl)),hF,(Eq.trans h900 (by (show _=(⟨_,_,_,_,_,List.map cF (dfL l ((k+j)+1))⟩:Blk); rw [dfL_skip (by rintro (q|q); omega; exact q d5)]; done))),?_,?_,?_⟩
    · omega
    · omega
    · omega
    · first|(show (dfK l ((k+j)+1)).length < (k+j)+1; rw [dfK_keep (.inr d5),List.length_append]; simp; omega)|(show (dfK l ((k+j)+1)).length < (k+j)+1; rw [dfK_skip (by rintro (q|q); omega; exact q d5)]; omega)
   refine W_seq_exit (p38 _ _ _ (x7 _ _ (.done (W_r (R_mv t0 (R_mv t5 (R_slice_ms_lo (n:=((dfK l (k+j)).length)) (@rfl V (V.ms 900 v2 0 (len))) (@rfl V (iV (((dfK l (k+j)).length:Nat):Int))) h900 (okB_map (by omega)) rfl (by omega) ?_)))))))
   refine R_clr (m:=(((dfK l (k+j)).length))) (n:=(len - ((dfK l (k+j)).length))) (f:=cF) (l:=(dfL l (k+j))) (Eq.trans (@rfl V (V.ms 900 v2 (0+((dfK l (k+j)).length)) (len - ((dfK l (k+j)).length)))) (congrArg (fun n=>V.ms 900 v2 n (len - ((dfK l (k+j)).length))) (Nat.zero_add _))) h900 rfl (by decide) rfl (by omega) (by omega) (R_e (W_r (R_mv t0 (R_mv t5 (R_slice_ms_hi (n:=((dfK l (k+j)).length)) (@rfl V (V.ms 900 v2 0 (len))) (@rfl V (iV (((dfK l (k+j)).length:Nat):Int))) (@rfl Blk (⟨v2,true,z,24,3,(List.map cF (List.take (((dfK l (k+j)).length)) (dfL l (k+j)))++List.replicate (len - ((dfK l (k+j)).length)) [(iV (0:Int)),(iV (0:Int)),V.nilsl])⟩:Blk)) (okB_zap (by (simp only [List.length_take]; omega))) rfl (by omega) (R_mv rfl (R_e ?_)))))))
   refine W_ret (y5 _ _ (p23 _ _ (y2 _ _ (fork_ (R:=fun T H=>T 4=(V.ms 900 v2 0 ((dfK l (k+j)).length))∧(∀ j,j∉[900]→H j=Hi j)∧H 900=(⟨v2,true,z,24,3,(List.map cF (List.take (((dfK l (k+j)).length)) (dfL l (k+j)))++List.replicate (len - ((dfK l (k+j)).length)) [(iV (0:Int)),(iV (0:Int)),V.nilsl])⟩:Blk)∧True) ⟨(@rfl V (V.ms 900 v2 0 ((dfK l (k+j)).length))),(upd_out hF (by decide)),rfl,trivial⟩ ?_))))
   intro T H ⟨t4,hF,h900,_⟩
   skip
   have fh:=FinX.fin (FinX.put (B:=(⟨v2,true,z,24,3,(List.map cF (dfK l l.length)++List.replicate (l.length - (dfK l l.length).length) [iV 0,iV 0,V.nilsl])⟩:Blk)) (FinX.start hF) h900 (FinB.eq (by (rw [df_take (show l.length≤k+j by omega) hj,show k+j=l.length by omega,hn]; done))))
   exact RetF_1 t4 fh (FinV.trans_eq (FinV.same fh _) (by (rw [show k+j=l.length by omega]; done)))
  have d1:nth l k≠nth l (k - 1):=fun q=>by have e:=(sameF_iff _ _).2 q; rw [← show (((k:Nat):Int) - (1:Int)).toNat=k - 1 by omega,c6] at e; cases e
  refine W_skip (n5 _ _ (.done (W_t (R_mv t5 (R_addN rfl (@rfl V (iV ((1:Nat):Int))) (by omega) (R_mv rfl (R_e ?_)))))))
  refine p13 _ _ _ ?_ ⟨(k+1),rfl,t0,t1,(Eq.trans (@rfl V (iV ((k+1:Nat):Int))) (by rfl)),hF,h900,?_,?_,?_⟩
  · omega
  · omega
  · omega
  · intro i i1 i2
    by_cases e:i=k
    · subst e; exact d1
    · exact hc i i1 (by omega)
 refine W_seq_exit (p33 _ _ _ (x2 _ _ (.done (W_r (R_mv t0 (R_mv rfl (R_e ?_)))))))
 refine W_ret (fork_ (R:=fun T H=>T 4=(V.ms 900 v2 0 (len))∧(∀ j,j∉[900]→H j=Hi j)∧H 900=(⟨v2,true,z,24,3,(List.map cF (l))⟩:Blk)∧True) ⟨(@rfl V (V.ms 900 v2 0 (len))),hF,h900,trivial⟩ ?_)
 intro T H ⟨t4,hF,h900,_⟩
 have hall:=df_all (l:=l) (fun i i1 i2=>hc i i1 (by omega))
 have fh:=FinX.fin (FinX.put (B:=(⟨v2,true,z,24,3,(List.map cF (dfK l l.length)++List.replicate (l.length - (dfK l l.length).length) [iV 0,iV 0,V.nilsl])⟩:Blk)) (FinX.start hF) h900 (FinB.eq (by (rw [hall]; simp; done))))
 exact RetF_1 t4 fh (FinV.trans_eq (FinV.same fh _) (by (rw [hall,hn]; done)))
theorem union_pure (c d:Cl) (hs:SrtF c) (hl:c.length≤1073741824) (hd:d.length≤1073741824):PureC Tryd.prog 81 [(V.sl (List.map cF (c))),(V.sl (List.map cF (d)))] (V.sl (List.map cF (unF c d))):=by
 refine pW Tryd.func81 s81_ok fun hB=>?_
 unfold s81
 dsimp only
 refine W_r (R_mv rfl (R_e (W_r (R_mv rfl (R_mv rfl (R_bslice rfl rfl (R_callE (evcons rfl evnil) (catf_E ([c,d]) 0 _ (congrArg Blk.ver rfl) (by (simp only [catF2,List.length_append]; omega))) ?_)))))))
 refine R_mv rfl (R_e (W_r (R_mv rfl (R_callE (evcons rfl (evcons rfl evnil)) (sortc_E (catF ([c,d])) (0+1+([c,d]).length) (decide ((catF ([c,d])).length=0)) _ (@rfl Blk (⟨0+1+([c,d]).length,true,decide ((catF ([c,d])).length=0),24,3,(List.map cF (catF ([c,d])))⟩:Blk)) (by simp only [catF2,List.length_append]; omega)) (R_e (W_r (R_mv rfl ?_)))))))
 refine R_callE (evcons rfl (evcons rfl evnil)) (compc_E (srt ordF (catF ([c,d]))) (0+1+([c,d]).length) ((catF ([c,d])).length) (decide ((catF ([c,d])).length=0)) _ (@rfl Blk (⟨0+1+([c,d]).length,true,decide ((catF ([c,d])).length=0),24,3,(List.map cF (srt ordF (catF ([c,d]))))⟩:Blk)) (by simp [srt_len]) (by simp only [srt_len,catF2,List.length_append]; omega)) (R_mv rfl (R_e (W_ret ?_)))
 refine Ret_1 (@rfl V (V.ms 900 (0+1+([c,d]).length) 0 ((dfK (srt ordF (catF ([c,d]))) (srt ordF (catF ([c,d]))).length).length))) (fz_mstR (@rfl Blk (⟨0+1+([c,d]).length,true,decide ((catF ([c,d])).length=0),24,3,(List.map cF (dfK (srt ordF (catF ([c,d]))) (srt ordF (catF ([c,d]))).length)++List.replicate ((srt ordF (catF ([c,d]))).length - (dfK (srt ordF (catF ([c,d]))) (srt ordF (catF ([c,d]))).length).length) [iV 0,iV 0,V.nilsl])⟩:Blk)) (by rfl) (take_zap (l:=(dfK (srt ordF (catF ([c,d]))) (srt ordF (catF ([c,d]))).length)) (by rfl)) (fun _=>by simp) ?_)
 · rw [catF2,un_srt hs]
theorem prod_pure (a b:List Cl) (ha: ∀ k,k < a.length→SrtF (nth a k)) (la: ∀ k,k < a.length→(nth a k).length≤536870912) (lb: ∀ k,k < b.length→(nth b k).length≤536870912) (na:a.length≤64) (nb:b.length≤65536):PureC Tryd.prog 62 [(V.sl (List.map cCl (a))),(V.sl (List.map cCl (b)))] (V.sl (List.map cCl (prd a b))):=by
 refine pW Tryd.func62 s62_ok fun hB=>?_
 unfold s62
 dsimp only
 refine W_r (R_mv rfl (R_e (W_r (R_mv rfl (R_e (W_seq_seq ?_))))))
 refine W_seq_g (fun T H=>T 1=(V.sl (List.map cCl (b)))∧T 5=V.nilsl∧T 10=(V.sl (List.map cCl (a)))∧T 11=(iV ((a.length:Nat):Int))∧T 12=(iV (0:Int))∧True) ?_ ?_
 ·
  refine R_mv rfl (R_len rfl (R_mv rfl ?_))
  exact R_nil ⟨rfl,rfl,rfl,rfl,rfl,trivial⟩
 intro T H ⟨t1,t5,t10,t11,t12,_⟩
 refine G_nil t5 (fork_ (R:=fun T H=>T 1=(V.sl (List.map cCl (b)))∧T 5=(V.sl [])∧T 10=(V.sl (List.map cCl (a)))∧T 11=(iV ((a.length:Nat):Int))∧T 12=(iV (0:Int))∧True) ⟨((upd_ne _ _ (by decide)).trans t1),(upd_same _ _ _),((upd_ne _ _ (by decide)).trans t10),((upd_ne _ _ (by decide)).trans t11),((upd_ne _ _ (by decide)).trans t12),trivial⟩ ?_)
 intro T H ⟨t1,t5,t10,t11,t12,_⟩
 refine W_seq_blockg fun Q1 n1 x1 y1 z1=>?_
 refine W_loop (fun mm T H=> ∃ (k:Nat),mm=a.length - k∧T 1=(V.sl (List.map cCl (b)))∧T 5=(V.sl (List.map cCl (prd (a.take k) b)))∧T 10=(V.sl (List.map cCl (a)))∧T 11=(iV ((a.length:Nat):Int))∧T 12=(iV ((k:Nat):Int))∧(k≤a.length)) ?_ ?_
 ·
  refine ⟨_,0,rfl,t1,(Eq.trans t5 (by rfl)),t10,t11,(Eq.trans t12 rfl),?_⟩
  · omega
 intro mm T H ⟨k,hmm,t1,t5,t10,t11,t12,hk⟩ Q2 p12 p22 p32
 unfold b62_0
 have hN:=prd_len2 na nb hk
 refine W_r (R_lss t12 t11 (R_e ?_))
 refine W_seq_if rfl (fun c3=>?_) fun c3=>?_
 ·
  refine W_seq_skip (W_seq_blockg fun Q4 n4 x4 y4 z4=>(W_r (R_idx (i:=k) t10 t12 (by omega) rfl (R_load_pp rfl rfl (R_mv rfl (R_e (W_r ?_)))))))
  refine R_mv t1 (R_len rfl (R_mv rfl (R_e (W_block fun Q5 n5 x5 y5 z5=>?_))))
  refine W_loop (fun mm T H=> ∃ (j:Nat),mm=b.length - j∧T 1=(V.sl (List.map cCl (b)))∧T 5=(V.sl (List.map cCl (prC (prd (a.take k) b) (nth a k) (b.take j))))∧T 7=(V.sl (List.map cF ((nth (a) (k)))))∧T 10=(V.sl (List.map cCl (a)))∧T 11=(iV ((a.length:Nat):Int))∧T 12=(iV ((k:Nat):Int))∧T 16=(V.sl (List.map cCl (b)))∧T 17=(iV ((b.length:Nat):Int))∧T 18=(iV ((j:Nat):Int))∧(j≤b.length)) ?_ ?_
  ·
   refine ⟨_,0,rfl,t1,(Eq.trans t5 (by rfl)),rfl,t10,t11,t12,rfl,rfl,(Eq.trans (@rfl V (iV (0:Int))) rfl),?_⟩
   · omega
  intro mm T H ⟨j,hmm,t1,t5,t7,t10,t11,t12,t16,t17,t18,hj⟩ Q6 p16 p26 p36
  unfold b62_1
  have hM:=prC_len (prd (a.take k) b) (nth a k) (b.take j)
  have hM2:(b.take j).length=j:=by rw [List.length_take]; omega
  have hU:=unF_len (nth b j) (nth a k)
  have hla:k < a.length→(nth a k).length≤536870912:=la k
  have hlb:j < b.length→(nth b j).length≤536870912:=lb j
  refine W_r (R_lss t18 t17 (R_e ?_))
  refine W_seq_if rfl (fun c7=>?_) fun c7=>?_
  ·
   refine W_seq_skip (W_seq_blockg fun Q8 n8 x8 y8 z8=>(W_r (R_idx (i:=j) t16 t18 (by omega) rfl (R_load_pp rfl rfl (R_mv rfl (R_e (W_t ?_)))))))
   refine R_mv t5 (R_mv t7 (R_mv rfl (R_callk (union_pure ((nth (a) (k))) ((nth (b) (j))) (ha k (by omega)) (Nat.le_trans (la k (by omega)) (by decide)) (Nat.le_trans (lb j (by omega)) (by decide))) rfl (R_callk (with_pure (prC (prd (a.take k) b) (nth a k) (b.take j)) (unF ((nth (a) (k))) ((nth (b) (j)))) (fun q hq=>(prC_ant (b:=b.take j) (prdT_ant (b:=b) ha k) (ha k (by omega))).at_ hq) (fun q hq=>(prCT_clen (prdT_clen la lb k) (la k (by omega)) lb j).at_ hq) (by omega) (unF_srt (ha k (by omega))) (by omega)) rfl (R_mv rfl (R_e (n8 _ _ ?_)))))))
   refine .done (W_t (R_addN t18 (@rfl V (iV ((1:Nat):Int))) (by omega) (R_mv rfl (R_e ?_))))
   refine p16 _ _ _ ?_ ⟨(j+1),rfl,t1,(Eq.trans (@rfl V (V.sl (List.map cCl (wth (prC (prd (a.take k) b) (nth a k) (b.take j)) (unF ((nth (a) (k))) ((nth (b) (j)))))))) (by (rw [prC_step (by omega)]; done))),t7,t10,t11,t12,t16,t17,(Eq.trans (@rfl V (iV ((j+1:Nat):Int))) (by rfl)),?_⟩
   · omega
   · omega
  refine W_seq_exit (p36 _ _ _ (x5 _ _ (n4 _ _ (.done (W_t (R_addN t12 (@rfl V (iV ((1:Nat):Int))) (by omega) (R_mv rfl ?_)))))))
  refine R_e ?_
  refine p12 _ _ _ ?_ ⟨(k+1),rfl,t1,(Eq.trans t5 (by (rw [prd_step (by omega),show j=b.length by omega,List.take_length]; done))),t10,t11,(Eq.trans (@rfl V (iV ((k+1:Nat):Int))) (by rfl)),?_⟩
  · omega
  · omega
 refine W_seq_exit (p32 _ _ _ (x1 _ _ (.done (W_r (R_mv t5 (R_mv rfl (R_e ?_)))))))
 refine W_ret ?_
 refine Ret_1 (@rfl V (V.sl (List.map cCl (prd (a.take k) b)))) (fz_sl ?_ (fun _=>by simp))
 · rw [show k=a.length by omega,List.take_length]
theorem conj_pure (l:List Fm) (hok: ∀ k,k < l.length→okF (nth l k)=true) (hz:Fm.szs l≤268435456) (hq: ∀ k,k < l.length→PureC Tryd.prog 45 [(V.agg [(iV ((nth l k).op)),(iV ((nth l k).arg)),(V.sl (List.map cF ((nth l k).kids)))])] (V.tup [(V.sl (List.map cCl (cVal (cls (nth l k))))),(iV (cErr (cls (nth l k))))])):PureC Tryd.prog 54 [(V.sl (List.map cF (l)))] (V.tup [(V.sl (List.map cCl (cVal (cjL l [[]])))),(iV (cErr (cjL l [[]])))]):=by
 refine pW Tryd.func54 s54_ok fun hB=>?_
 unfold s54
 dsimp only
 have hln:=Fm.szs_len l
 refine W_r (R_mv rfl (R_mv rfl (R_e (W_r (R_bslice rfl rfl (R_mv rfl (R_e ?_)))))))
 refine W_seq_seq ?_
 refine W_seq_g (fun T H=>T 4=(V.sl [[V.nilsl]])∧T 10=(V.sl (List.map cF (l)))∧T 11=(iV ((l.length:Nat):Int))∧T 12=(iV (0:Int))∧H 6=(⟨0,false,false,0,0,[]⟩:Blk)∧True) ?_ ?_
 ·
  refine R_mv rfl (R_len rfl (R_mv rfl ?_))
  exact R_nil ⟨rfl,rfl,rfl,rfl,rfl,trivial⟩
 intro T H ⟨t4,t10,t11,t12,h6,_⟩
 refine G_nil1 t4 (.done ?_)
 refine fork_ (R:=fun T H=>T 4=(V.sl [[(V.sl (List.map cF ([])))]])∧T 10=(V.sl (List.map cF (l)))∧T 11=(iV ((l.length:Nat):Int))∧T 12=(iV (0:Int))∧H 6=(⟨0,false,false,0,0,[]⟩:Blk)∧True) ⟨(upd_same _ _ _),((upd_ne _ _ (by decide)).trans t10),((upd_ne _ _ (by decide)).trans t11),((upd_ne _ _ (by decide)).trans t12),h6,trivial⟩ ?_
 intro T H ⟨t4,t10,t11,t12,h6,_⟩
 refine W_seq_blockg fun Q1 n1 x1 y1 z1=>?_
 refine W_loop (fun mm T H=> ∃ (k:Nat) (out:List Cl) (v6:Nat),mm=l.length - k∧T 4=(V.sl (List.map cCl (out)))∧T 10=(V.sl (List.map cF (l)))∧T 11=(iV ((l.length:Nat):Int))∧T 12=(iV ((k:Nat):Int))∧(H 6).ver=v6∧(k≤l.length)∧(cjL l [[]]=cjL (l.drop k) out)∧(GdS out)∧(CLen (Fm.szs (l.take k)) out)) ?_ ?_
 ·
  refine ⟨_,0,[[]],0,rfl,(Eq.trans t4 (by rfl)),t10,t11,(Eq.trans t12 rfl),(congrArg Blk.ver h6),?_,?_,?_,?_⟩
  · omega
  · rfl
  · exact good_unit
  · exact fun c hc=>by rw [List.mem_singleton.1 hc]; exact Nat.zero_le _
 intro mm T H ⟨k,out,v6,hmm,t4,t10,t11,t12,h6,hk,hc,hG,hL⟩ Q2 p12 p22 p32
 unfold b54_0
 have hT:=szs_take_le l k
 refine W_r (R_lss t12 t11 (R_e ?_))
 refine W_seq_if rfl (fun c3=>?_) fun c3=>?_
 ·
  refine W_seq_skip (W_seq_blockg fun Q4 n4 x4 y4 z4=>(W_r (R_idxu (i:=k) t10 t12 (by omega) (cF_eq _) rfl (R_load_pp rfl rfl (R_alloc (i:=6) (n:=v6) (m:=3) rfl h6 rfl (R_sk rfl rfl rfl rfl rfl rfl rfl rfl rfl (R_e ?_)))))))
  refine W_r (R_lk rfl rfl rfl rfl (R_callk (hq k (by omega)) rfl (R_mv rfl (R_ext rfl rfl (R_ext rfl rfl (R_mv rfl (R_mv rfl ?_)))))))
  refine R_e (W_seq_seq (W_r (R_mv rfl (R_neq rfl rfl (R_e ?_)))))
  refine W_seq_if rfl (fun c5=>?_) fun c5=>?_
  ·
   have d1:=c5
   refine W_seq_seq (W_r (R_mv rfl (R_mv rfl (R_mv rfl (R_e (W_seq_ret (y4 _ _ ?_)))))))
   refine p22 _ _ (y1 _ _ ?_)
   refine Ret_2 (@rfl V V.nilsl) (@rfl V (iV (cErr (cls (nth l k))))) (fz_nil ?_) (fz_int ?_)
   · rw [hc,cjL_no (by omega) (cE_yes d1)]; try rfl
   · rw [hc,cjL_no (by omega) (cE_yes d1),cE_yes d1]; try rfl
  have d1:=c5
  have g1:=kid_cl (by omega) (hok k (by omega)) d1
  refine W_seq_skip (W_r (R_mv t4 (R_mv rfl (R_callk (prod_pure out (cVal (cls (nth l k))) (fun q hq=>hG.ant.at_ hq) (fun q hq=>Nat.le_trans (hL.at_ hq) (by omega)) (fun q hq=>Nat.le_trans (g1.2.1.at_ hq) (by omega)) hG.len (Nat.le_trans g1.1.len (by decide))) rfl (R_callk (limited_pure (prd out (cVal (cls (nth l k))))) rfl (R_mv rfl (R_ext rfl rfl ?_)))))))
  refine R_ext rfl rfl (R_mv rfl (R_mv rfl (R_e (W_r (R_mv rfl (R_neq rfl rfl (R_e ?_)))))))
  refine W_if rfl (fun c6=>?_) fun c6=>?_
  ·
   have d2:=lim_yes c6
   refine W_r (R_mv rfl (R_mv rfl (R_mv rfl (R_e (W_ret (y4 _ _ (p22 _ _ ?_)))))))
   refine y1 _ _ ?_
   refine Ret_2 (@rfl V V.nilsl) (@rfl V (iV (if 64 < (prd out (cVal (cls (nth l k)))).length then 11 else 0))) (fz_nil ?_) (fz_int ?_)
   · rw [hc,cjL_lim (by omega) (cV_some d1) d2]; try rfl
   · rw [hc,cjL_lim (by omega) (cV_some d1) d2,if_pos d2]; try rfl
  have d2:=lim_no c6
  refine W_skip (n4 _ _ (.done (W_t (R_addN t12 (@rfl V (iV ((1:Nat):Int))) (by omega) (R_mv rfl (R_e ?_))))))
  refine p12 _ _ _ ?_ ⟨(k+1),(prd out (cVal (cls (nth l k)))),(v6+1),rfl,(Eq.trans (@rfl V (V.sl (List.map cCl (if 64 < (prd out (cVal (cls (nth l k)))).length then [] else (prd out (cVal (cls (nth l k)))))))) (by (rw [if_neg d2]; done))),t10,t11,(Eq.trans (@rfl V (iV ((k+1:Nat):Int))) (by rfl)),(congrArg Blk.ver rfl),?_,?_,?_,?_⟩
  · omega
  · omega
  · rw [hc,cjL_go (by omega) (cV_some d1) d2]
  · exact cj_good hG g1.1 d2
  · exact cj_clen (by omega) hL g1.2.2
 refine W_seq_exit (p32 _ _ _ (x1 _ _ (.done (W_r (R_mv t4 (R_mv rfl (R_mv rfl ?_)))))))
 refine R_e (W_ret ?_)
 refine Ret_2 (@rfl V (V.sl (List.map cCl (out)))) (@rfl V (iV (0:Int))) (fz_sl ?_ (fun _=>by simp)) (fz_int ?_)
 · rw [hc,cjL_end (by omega)]; try rfl
 · rw [hc,cjL_end (by omega)]; try rfl
theorem cls_pure_step (f:Fm) (hok:okF f=true) (hz:f.sz≤268435456) (ih: ∀ (g:Fm),g.sz < f.sz→okF g=true→g.sz≤268435456→PureC Tryd.prog 45 [(V.agg [(iV (g.op)),(iV (g.arg)),(V.sl (List.map cF (g.kids)))])] (V.tup [(V.sl (List.map cCl (cVal (cls g)))),(iV (cErr (cls g)))])):PureC Tryd.prog 45 [(V.agg [(iV (f.op)),(iV (f.arg)),(V.sl (List.map cF (f.kids)))])] (V.tup [(V.sl (List.map cCl (cVal (cls f)))),(iV (cErr (cls f)))]):=by
 refine pW Tryd.func45 s45_ok fun hB=>?_
 unfold s45
 dsimp only
 have hp:=okF_parts hok
 have hr:=rgt_ok hp.1
 have hln:=f.sz_len
 refine W_r (R_box (i:=1) (n:=0) (m:=3) (cs:=[(iV (f.op)),(iV (f.arg)),(V.sl (List.map cF (f.kids)))]) rfl (congrArg Blk.ver rfl) rfl rfl rfl (R_mv rfl (R_mv rfl (R_e (W_seq_seq (W_r (R_fk rfl rfl ?_)))))))
 refine R_lk rfl rfl rfl rfl (R_e (W_seq_blockg fun Q1 n1 x1 y1 z1=>(W_r (R_eql rfl rfl (R_mv rfl (R_e ?_))))))
 refine W_if rfl (fun c2=>?_) fun c2=>?_
 ·
  refine W_r (R_bslice rfl rfl (R_mv rfl (R_mv rfl (R_e (W_ret (y1 _ _ ?_))))))
  refine Ret_2 (@rfl V (V.sl [[V.nilsl]])) (@rfl V (iV (0:Int))) ?_ (fz_int ?_)
  · rw [cls_1 (by omega)]; simp [fzv,cVal,cCl]
  · rw [cls_1 (by omega)]; rfl
 refine W_r (R_eql rfl rfl (R_mv rfl (R_e ?_)))
 refine W_if rfl (fun c3=>?_) fun c3=>?_
 ·
  refine W_seq_seq (W_r (R_fk rfl rfl (R_lk rfl rfl rfl rfl (R_idxu (i:=0) (@rfl V (V.sl (List.map cF (f.kids)))) (@rfl V (iV ((0:Nat):Int))) (by omega) (cF_eq _) rfl (R_fld_pp (cs':=[(iV (((nth (f.kids) (0))).op)),(iV (((nth (f.kids) (0))).arg)),(V.sl (List.map cF (((nth (f.kids) (0))).kids)))]) rfl rfl (R_load_pp rfl rfl (R_eql rfl rfl ?_)))))))
  refine R_e ?_
  refine W_seq_if rfl (fun c4=>?_) fun c4=>?_
  ·
   refine W_seq_seq (W_r (R_mv rfl (R_mv rfl (R_e (W_seq_ret (y1 _ _ ?_))))))
   refine Ret_2 (@rfl V V.nilsl) (@rfl V (iV (0:Int))) (fz_nil ?_) (fz_int ?_)
   · rw [cls_4 (by omega) (by omega)]; rfl
   · rw [cls_4 (by omega) (by omega)]; rfl
  refine W_seq_skip (W_r (R_lk rfl rfl rfl rfl (R_bslice rfl rfl (R_bslice rfl rfl (R_mv rfl (R_mv rfl (R_e ?_)))))))
  refine W_ret (y1 _ _ ?_)
  refine Ret_2 (@rfl V (V.sl [[(V.sl [[(iV (f.op)),(iV (f.arg)),(V.sl (List.map cF (f.kids)))]])]])) (@rfl V (iV (0:Int))) (fz_canon (by simp) ?_) (fz_int ?_)
  · rw [cls_4n (by omega) (by omega)]; simp [cVal,cCl,cF_eq]
  · rw [cls_4n (by omega) (by omega)]; rfl
 refine W_seq_seq (W_r (R_eql rfl rfl (R_mv rfl (R_e ?_))))
 refine W_seq_if rfl (fun c5=>?_) fun c5=>?_
 ·
  refine W_seq_skip ?_
  refine W_if rfl (fun c6=>?_) fun c6=>?_
  ·
   refine W_r (R_lk rfl rfl rfl rfl (R_bslice rfl rfl (R_bslice rfl rfl (R_mv rfl (R_mv rfl (R_e (W_ret ?_)))))))
   refine y1 _ _ ?_
   refine Ret_2 (@rfl V (V.sl [[(V.sl [[(iV (f.op)),(iV (f.arg)),(V.sl (List.map cF (f.kids)))]])]])) (@rfl V (iV (0:Int))) (fz_canon (by simp) ?_) (fz_int ?_)
   · rw [cls_23 (by omega)]; simp [cVal,cCl,cF_eq]
   · rw [cls_23 (by omega)]; rfl
  · exact (c6 c5).elim
 refine W_r (R_eql rfl rfl (R_mv rfl (R_e ?_)))
 refine W_if rfl (fun c7=>?_) fun c7=>?_
 ·
  refine W_r (R_lk rfl rfl rfl rfl (R_bslice rfl rfl (R_bslice rfl rfl (R_mv rfl (R_mv rfl (R_e (W_ret ?_)))))))
  refine y1 _ _ ?_
  refine Ret_2 (@rfl V (V.sl [[(V.sl [[(iV (f.op)),(iV (f.arg)),(V.sl (List.map cF (f.kids)))]])]])) (@rfl V (iV (0:Int))) (fz_canon (by simp) ?_) (fz_int ?_)
  · rw [cls_23 (by omega)]; simp [cVal,cCl,cF_eq]
  · rw [cls_23 (by omega)]; rfl
 refine W_r (R_eql rfl rfl (R_mv rfl (R_e ?_)))
 refine W_if rfl (fun c8=>?_) fun c8=>?_
 ·
  refine W_r (R_fk rfl rfl (R_lk rfl rfl rfl rfl (R_callk (disj_pure f.kids hp.2 (by rw [Fm.sz_eq] at hz; omega) (fun k h=>ih (nth f.kids k) (Fm.sz_kid h) (hp.2 k h) (Nat.le_trans (Nat.le_of_lt (Fm.sz_kid h)) hz))) rfl (R_ext rfl rfl (R_ext rfl rfl (R_mv rfl (R_mv rfl ?_)))))))
  refine R_e (W_ret (y1 _ _ ?_))
  refine Ret_2 (@rfl V (V.sl (List.map cCl (cVal (djL f.kids []))))) (@rfl V (iV (cErr (djL f.kids [])))) (fz_sl ?_ (fun _=>by simp)) (fz_int ?_)
  · rw [cls_6 (by omega)]
  · rw [cls_6 (by omega)]
 refine W_r (R_eql rfl rfl (R_mv rfl (R_e ?_)))
 refine W_if rfl (fun c9=>?_) fun c9=>?_
 ·
  refine W_r (R_fk rfl rfl (R_lk rfl rfl rfl rfl (R_callk (conj_pure f.kids hp.2 (by rw [Fm.sz_eq] at hz; omega) (fun k h=>ih (nth f.kids k) (Fm.sz_kid h) (hp.2 k h) (Nat.le_trans (Nat.le_of_lt (Fm.sz_kid h)) hz))) rfl (R_ext rfl rfl (R_ext rfl rfl (R_mv rfl (R_mv rfl ?_)))))))
  refine R_e (W_ret (y1 _ _ ?_))
  refine Ret_2 (@rfl V (V.sl (List.map cCl (cVal (cjL f.kids [[]]))))) (@rfl V (iV (cErr (cjL f.kids [[]])))) (fz_sl ?_ (fun _=>by simp)) (fz_int ?_)
  · rw [cls_5 (by omega)]
  · rw [cls_5 (by omega)]
 refine W_skip (n1 _ _ (.done (W_r (R_fk rfl rfl (R_lk rfl rfl rfl rfl (R_build rfl rfl (R_alloc (i:=4) (n:=0) (m:=3) rfl (congrArg Blk.ver rfl) rfl ?_)))))))
 refine R_sk rfl rfl rfl rfl rfl rfl rfl rfl rfl (R_e (W_seq_seq ?_))
 refine W_seq_g (fun T H=>T 4=(V.mp 4 1 0 0)∧T 49=(V.sl (List.map cF (f.kids)))∧T 50=(iV ((f.kids.length:Nat):Int))∧T 51=(iV (0:Int))∧H 1=(bk 1 24 3 [[(iV (f.op)),(iV (f.arg)),(V.sl (List.map cF (f.kids)))]])∧H 4=(bk 1 24 3 [[(iV (f.op)),(iV (0:Int)),V.nilsl]])∧H 6=(⟨0,false,false,0,0,[]⟩:Blk)∧H 7=(⟨0,false,false,0,0,[]⟩:Blk)∧H 704=(⟨0,false,false,0,0,[]⟩:Blk)∧True) ?_ ?_
 ·
  refine R_fk rfl rfl (R_lk rfl rfl rfl rfl (R_len rfl (R_mv rfl ?_)))
  exact R_nil ⟨rfl,rfl,rfl,rfl,rfl,rfl,rfl,rfl,rfl,trivial⟩
 intro T H ⟨t4,t49,t50,t51,h1,h4,h6,h7,h704,_⟩
 refine .lazyCell 704 24 3 4 0 2 [(iV (f.op)),(iV (0:Int)),V.nilsl] (by decide) (by rw [h4]; rfl) (by rw [h4]; rfl) rfl (.done ?_)
 refine fork_ (R:=fun T H=>T 4=(V.mp 4 1 0 0)∧T 49=(V.sl (List.map cF (f.kids)))∧T 50=(iV ((f.kids.length:Nat):Int))∧T 51=(iV (0:Int))∧H 1=(bk 1 24 3 [[(iV (f.op)),(iV (f.arg)),(V.sl (List.map cF (f.kids)))]])∧H 4=(bk 1 24 3 [[(iV (f.op)),(iV (0:Int)),(V.ms 704 1 0 (0))]])∧H 6=(⟨0,false,false,0,0,[]⟩:Blk)∧H 7=(⟨0,false,false,0,0,[]⟩:Blk)∧H 704=(bz 1 24 3 [])∧True) ⟨t4,t49,t50,t51,((upd_ne _ _ (by decide)).trans ((upd_ne _ _ (by decide)).trans h1)),(by rw [upd_same,h4,(congrArg Blk.ver h704)]; rfl),((upd_ne _ _ (by decide)).trans ((upd_ne _ _ (by decide)).trans h6)),((upd_ne _ _ (by decide)).trans ((upd_ne _ _ (by decide)).trans h7)),(by rw [upd_ne _ _ (by decide),upd_same,(congrArg Blk.ver h704)]),trivial⟩ ?_
 intro T H ⟨t4,t49,t50,t51,h1,h4,h6,h7,h704,_⟩
 refine W_seq_blockg fun Q10 n10 x10 y10 z10=>?_
 refine W_loop (fun mm T H=> ∃ (k:Nat) (w:Nat) (g:List Fm) (v6:Nat) (v7:Nat),mm=f.kids.length - k∧T 4=(V.mp 4 1 0 0)∧T 49=(V.sl (List.map cF (f.kids)))∧T 50=(iV ((f.kids.length:Nat):Int))∧T 51=(iV ((k:Nat):Int))∧H 1=(bk 1 24 3 [[(iV (f.op)),(iV (f.arg)),(V.sl (List.map cF (f.kids)))]])∧H 4=(bk 1 24 3 [[(iV (f.op)),(iV (0:Int)),(V.ms 704 w 0 (k))]])∧(H 6).ver=v6∧(H 7).ver=v7∧H 704=(bz w 24 3 (List.map cF (g)))∧(k≤f.kids.length)∧(g.length=k)∧(canL f.kids=(canL (f.kids.drop k)).map fun r=>g++r)) ?_ ?_
 ·
  refine ⟨_,0,1,[],0,0,rfl,t4,t49,t50,(Eq.trans t51 rfl),h1,h4,(congrArg Blk.ver h6),(congrArg Blk.ver h7),(Eq.trans h704 (by rfl)),?_,?_,?_⟩
  · omega
  · rfl
  · simp
 intro mm T H ⟨k,w,g,v6,v7,hmm,t4,t49,t50,t51,h1,h4,h6,h7,h704,hk,hg,hc⟩ Q11 p111 p211 p311
 unfold b45_0
 refine W_r (R_lss t51 t50 (R_e ?_))
 refine W_seq_if rfl (fun c12=>?_) fun c12=>?_
 ·
  refine W_seq_skip (W_seq_blockg fun Q13 n13 x13 y13 z13=>(W_r (R_idxu (i:=k) t49 t51 (by omega) (cF_eq _) rfl (R_load_pp rfl rfl (R_alloc (i:=6) (n:=v6) (m:=3) rfl h6 rfl (R_sk rfl rfl rfl rfl rfl rfl rfl rfl rfl (R_e ?_)))))))
  refine W_r (R_lk rfl rfl rfl rfl (R_callk (can_pure (((nth (f.kids) (k)))) (hp.2 k (by omega)) (Nat.le_trans (Nat.le_of_lt (Fm.sz_kid (by omega))) hz) ((fun k h=>ih (nth f.kids k) (Fm.sz_kid h) (hp.2 k h) (Nat.le_trans (Nat.le_of_lt (Fm.sz_kid h)) hz)) k (by omega))) rfl (R_mv rfl (R_ext rfl rfl (R_ext rfl rfl (R_alloc (i:=7) (n:=v7) (m:=3) rfl h7 rfl (R_sk rfl rfl rfl rfl rfl rfl rfl rfl rfl ?_)))))))
  refine R_mv rfl (R_e (W_seq_seq (W_r (R_mv rfl (R_neq rfl rfl (R_e ?_))))))
  refine W_seq_if rfl (fun c14=>?_) fun c14=>?_
  ·
   have d1:=cls_tno (by omega) hc (by omega) c14
   have d0:=cE_yes c14
   refine W_seq_seq (W_r (R_mv rfl (R_mv rfl (R_mv rfl (R_e (W_seq_ret (y13 _ _ ?_)))))))
   refine p211 _ _ (y10 _ _ ?_)
   refine Ret_2 (@rfl V V.nilsl) (@rfl V (iV (cErr (can (((nth (f.kids) (k)))))))) (fz_nil ?_) (fz_int ?_)
   · rw [d1]; rfl
   · rw [d1,d0]; rfl
  have d1:=cls_tgo hc (by omega) c14
  refine W_seq_skip (W_t (R_fk t4 h4 (R_lk rfl h4 rfl rfl (R_lk rfl rfl rfl rfl (R_bslice rfl rfl (R_append1 (l:=g) (f:=cF) (x:=((fVal (can (((nth (f.kids) (k)))))))) (@rfl V (V.ms 704 w 0 (k))) h704 (by exact hg.symm) (row_F1 (x:=((fVal (can (((nth (f.kids) (k)))))))) (@rfl V (V.sl [[(iV ((fVal (can (((nth (f.kids) (k)))))).op)),(iV ((fVal (can (((nth (f.kids) (k)))))).arg)),(V.sl (List.map cF ((fVal (can (((nth (f.kids) (k)))))).kids)))]]))) (cF_len _) (cF_one _) (by omega) (by omega) (R_fk t4 h4 ?_)))))))
  refine R_sk rfl rfl rfl h4 rfl rfl rfl rfl rfl (R_e (n13 _ _ (.done (W_t (R_addN t51 (@rfl V (iV ((1:Nat):Int))) (by omega) (R_mv rfl (R_e ?_)))))))
  refine p111 _ _ _ ?_ ⟨(k+1),(w+1),(g++[fVal (can (nth f.kids k))]),(v6+1),(v7+1),rfl,t4,t49,t50,(Eq.trans (@rfl V (iV ((k+1:Nat):Int))) (by rfl)),h1,(Eq.trans (@rfl Blk (bk 1 24 3 [[(iV (f.op)),(iV (0:Int)),(V.ms 704 (w+1) 0 (k+1))]])) (by rfl)),(congrArg Blk.ver rfl),(congrArg Blk.ver rfl),(Eq.trans (@rfl Blk (bz (w+1) 24 3 (List.map cF (g++[(fVal (can (((nth (f.kids) (k))))))])))) (by rfl)),?_,?_,?_⟩
  · omega
  · omega
  · simp; exact hg
  · exact d1
 refine W_seq_exit (p311 _ _ _ (x10 _ _ (fork_ (R:=fun T H=>T 4=(V.mp 4 1 0 0)∧T 49=(V.sl (List.map cF (f.kids)))∧T 50=(iV ((f.kids.length:Nat):Int))∧T 51=(iV ((k:Nat):Int))∧T 52=(V.bool (decide (((k:Nat):Int) < ((f.kids.length:Nat):Int))))∧H 1=(bk 1 24 3 [[(iV (f.op)),(iV (f.arg)),(V.sl (List.map cF (f.kids)))]])∧H 4=(bk 1 24 3 [[(iV (f.op)),(iV (0:Int)),(V.ms 704 w 0 (k))]])∧(H 6).ver=v6∧(H 7).ver=v7∧H 704=(bz w 24 3 (List.map cF (g)))∧True) ⟨t4,t49,t50,t51,(@rfl V (V.bool (decide (((k:Nat):Int) < ((f.kids.length:Nat):Int))))),h1,h4,h6,h7,h704,trivial⟩ ?_)))
 intro T H ⟨t4,t49,t50,t51,t52,h1,h4,h6,h7,h704,_⟩
 refine frz_cellg (id:=704) (id2:=4) (rows:=[[(iV (f.op)),(iV (0:Int)),(V.ms 704 w 0 (k))]]) (i:=0) (off:=2) (r:=[(iV (f.op)),(iV (0:Int)),(V.ms 704 w 0 (k))]) (m:=g) (g:=cF) (by decide) h704 h4 (by (simp; done)) (by exact hg.symm) rfl (.done ?_)
 refine fork_ (R:=fun T H=>T 4=(V.mp 4 1 0 0)∧T 49=(V.sl (List.map cF (f.kids)))∧T 50=(iV ((f.kids.length:Nat):Int))∧T 51=(iV ((k:Nat):Int))∧T 52=(V.bool (decide (((k:Nat):Int) < ((f.kids.length:Nat):Int))))∧H 1=(bk 1 24 3 [[(iV (f.op)),(iV (f.arg)),(V.sl (List.map cF (f.kids)))]])∧H 4=(bk 1 24 3 [[(iV (f.op)),(iV (0:Int)),(V.sl (List.map cF (g)))]])∧(H 6).ver=v6∧(H 7).ver=v7∧((H 704).ver=w∧(H 704).live=false)∧True) ⟨(fzT_q t4 rfl),(fzT_q t49 rfl),(fzT_q t50 rfl),(fzT_q t51 rfl),(fzT_q t52 rfl),((upd_ne _ _ (by decide)).trans (kill_ne h1 (by decide))),(upd_same _ _ _),((congrArg Blk.ver (upd_ne _ _ (by decide))).trans (kill_ver h6)),((congrArg Blk.ver (upd_ne _ _ (by decide))).trans (kill_ver h7)),⟨(congrArg Blk.ver (upd_ne _ _ (by decide))).trans (kill_self (congrArg Blk.ver h704)).1,(congrArg Blk.live (upd_ne _ _ (by decide))).trans (kill_self (congrArg Blk.ver h704)).2⟩,trivial⟩ ?_
 intro T H ⟨t4,t49,t50,t51,t52,h1,h4,h6,h7,h704,_⟩
 refine W_r (R_lk t4 h4 rfl rfl (R_bslice rfl rfl (R_bslice rfl rfl (R_mv rfl (R_mv rfl (R_e (W_ret ?_)))))))
 refine Ret_2 (@rfl V (V.sl [[(V.sl [[(iV (f.op)),(iV (0:Int)),(V.sl (List.map cF (g)))]])]])) (@rfl V (iV (0:Int))) (fz_canon (by simp) ?_) (fz_int ?_)
 · rw [cls_tend (by omega) hc (by omega)]; simp [cVal,cCl,cF_eq]; exact ⟨rfl,rfl,rfl⟩
 · rw [cls_tend (by omega) hc (by omega)]; rfl
theorem cls_pure (f:Fm) (hok:okF f=true) (hz:f.sz≤268435456):PureC Tryd.prog 45 [(V.agg [(iV (f.op)),(iV (f.arg)),(V.sl (List.map cF (f.kids)))])] (V.tup [(V.sl (List.map cCl (cVal (cls f)))),(iV (cErr (cls f)))]):=by
  have key: ∀ (mm:Nat) (f:Fm),f.sz < mm→okF f=true→f.sz≤268435456→PureC Tryd.prog 45 [(V.agg [(iV (f.op)),(iV (f.arg)),(V.sl (List.map cF (f.kids)))])] (V.tup [(V.sl (List.map cCl (cVal (cls f)))),(iV (cErr (cls f)))]):=by
    intro mm
    induction mm with
    |zero=>intro f hlt; exact absurd hlt (Nat.not_lt_zero _)
    | succ mm ih =>
      intro f hlt hok hz
      exact cls_pure_step f hok hz fun f2 hlt2=>ih f2 (by omega)
  exact key (f.sz+1) f (Nat.lt_succ_self _) hok hz
theorem checked_pure (f:Fm) (hok:okF f=true) (hz:f.sz≤268435456):PureC Tryd.prog 22 [(V.agg [(iV (f.op)),(iV (f.arg)),(V.sl (List.map cF (f.kids)))])] (V.tup [(V.agg [(iV ((chk f).1.op)),(iV ((chk f).1.arg)),(V.sl (List.map cF ((chk f).1.kids)))]),(iV ((chk f).2))]):=by
 refine pW Tryd.func22 s22_ok fun hB=>?_
 unfold s22
 dsimp only
 refine W_r (R_box (i:=1) (n:=0) (m:=3) (cs:=[(iV (f.op)),(iV (f.arg)),(V.sl (List.map cF (f.kids)))]) rfl (congrArg Blk.ver rfl) rfl rfl rfl (R_alloc (i:=2) (n:=0) (m:=3) rfl (congrArg Blk.ver rfl) rfl (R_mv rfl (R_e (W_r (R_lk rfl rfl rfl rfl (R_callk (can_pure f hok hz (cls_pure f hok hz)) rfl ?_)))))))
 refine R_mv rfl (R_ext rfl rfl (R_ext rfl rfl (R_alloc (i:=4) (n:=0) (m:=3) rfl (congrArg Blk.ver rfl) rfl (R_sk rfl rfl rfl rfl rfl rfl rfl rfl rfl (R_mv rfl (R_e (W_seq_seq ?_)))))))
 refine W_r (R_mv rfl (R_neq rfl rfl (R_e ?_)))
 refine W_seq_if rfl (fun c1=>?_) fun c1=>?_
 ·
  have d1:=chk_e c1
  refine W_seq_seq (W_r (R_build rfl rfl (R_mv rfl (R_sk rfl rfl rfl rfl rfl rfl rfl rfl rfl (R_mv rfl (R_e (W_seq_ret ?_)))))))
  refine RetC_2 (resV_c (u:=(V.agg [(iV (0:Int)),(iV (0:Int)),V.nilsl])) rfl (@rfl Blk (bk 1 24 3 [[(iV (0:Int)),(iV (0:Int)),V.nilsl]])) (lB oB rfl rfl)) (resV_t (@rfl V (iV (cErr (can f))))) (fz_agg3 (fz_int ?_) (fz_int ?_) (fz_nil ?_)) (fz_int ?_)
  · rw [d1]; rfl
  · rw [d1]; rfl
  · rw [d1]; rfl
  · rw [d1]
 have d0:=c1
 refine W_seq_skip (W_seq_seq (W_r (R_lk rfl rfl rfl rfl (R_callk (fvalid_pure ((fVal (can f)))) rfl (R_mv rfl (R_e (W_seq_seq ?_)))))))
 refine W_r (R_mv rfl (R_neq rfl rfl (R_e ?_)))
 refine W_seq_if rfl (fun c2=>?_) fun c2=>?_
 ·
  have d1:=chk_b d0 c2
  refine W_seq_seq (W_r (R_build rfl rfl (R_mv rfl (R_sk rfl rfl rfl rfl rfl rfl rfl rfl rfl (R_mv rfl (R_e (W_seq_ret ?_)))))))
  refine RetC_2 (resV_c (u:=(V.agg [(iV (0:Int)),(iV (0:Int)),V.nilsl])) rfl (@rfl Blk (bk 1 24 3 [[(iV (0:Int)),(iV (0:Int)),V.nilsl]])) (lB oB rfl rfl)) (resV_t (@rfl V (iV (fval ((fVal (can f))))))) (fz_agg3 (fz_int ?_) (fz_int ?_) (fz_nil ?_)) (fz_int ?_)
  · rw [d1]; rfl
  · rw [d1]; rfl
  · rw [d1]; rfl
  · rw [d1]
 have d1:=chk_g d0 c2
 refine W_seq_skip (W_r (R_lk rfl rfl rfl rfl (R_callk (copied_pure ((fVal (can f))) (fval_sz (by omega))) rfl (R_sk rfl rfl rfl rfl rfl rfl rfl rfl rfl (R_mv rfl (R_e (W_ret ?_)))))))
 refine RetC_2 (resV_c (u:=(V.agg [(iV (((fVal (can f))).op)),(iV (((fVal (can f))).arg)),(V.sl (List.map cF (((fVal (can f))).kids)))])) rfl (@rfl Blk (bk 1 24 3 [[(iV (((fVal (can f))).op)),(iV (((fVal (can f))).arg)),(V.sl (List.map cF (((fVal (can f))).kids)))]])) (lB oB rfl rfl)) (resV_t (@rfl V (iV (0:Int)))) (fz_agg3 (fz_int ?_) (fz_int ?_) (fz_sl ?_ (fun _=>by simp))) (fz_int ?_)
 · rw [d1]
 · rw [d1]
 · rw [d1]
 · rw [d1]
def r23_2:List SO:=[
 qF 12 2 2,
 ql 13 12,
 sO 14 (.idx 3 (.t 13) (.c (.int .i64 0))),
 qL 15 3 14,
 qM 16 1,
 sO 17 (.un .not (.t 16)),
 sO 18 (.call false 23 [.t 15,.t 17]),
 sN (.store 3 (.t 4) (.t 18))]
def r23_4:List SO:=[
 qF 23 0 2,
 ql 24 23,
 qF 25 1 2,
 ql 26 25,
 sO 27 (.build [.int .i64 0,.int .i64 0,.nilsl] [(0,1,.t 24),(1,1,.t 26)]),
 sO 5 (.alloc 24 [.int .i64 0,.int .i64 0,.nilsl]),
 sN (.store 3 (.t 5) (.t 27))]
def r23_14:List SO:=[
 qF 47 2 6,
 ql 48 47,
 qL 49 3 8,
 qM 50 1,
 sO 51 (.call false 23 [.t 49,.t 50]),
 sO 52 (.bslice 24 3 false [.int .i64 0,.int .i64 0,.nilsl] 1 [(0,.t 51)]),
 sO 53 (.append 24 3 40 (.t 48) (.t 52)),
 qF 54 2 6,
 sN (.store 1 (.t 54) (.t 53))]
def b23_0:SC:=.seq (.reg [qP 44 .lss 43 42]) (.seq (.cond (.t 44) (.skip) (.exit 0)) (.seq (.block 1 (.seq (.reg [qA 45 3 41 43,qL 46 3 45,sO 8 (.alloc 24 [.int .i64 0,.int .i64 0,.nilsl]),sN (.store 3 (.t 8) (.t 46))]) (.reg r23_14))) (.reg [qC 55 .add 43 1,qM 43 55])))
def s23:SF:=⟨57,[.cell 4 true 3],.seq (.reg [sO 2 (.box 24 3 (.t 0)),sO 4 (.alloc 24 [.int .i64 0,.int .i64 0,.nilsl])]) (.seq (.seq (.reg [qF 9 0 2,ql 10 9,qC 11 .eql 10 4]) (.cond (.t 11) (.seq (.reg r23_2) (.ret)) (.skip))) (.seq (.seq (.reg [qF 19 2 2,ql 20 19,qN 21 20,qC 22 .eql 21 0]) (.cond (.t 22) (.seq (.reg r23_4) (.seq (.seq (.reg [qM 28 1]) (.cond (.t 28) (.seq (.reg [qL 29 3 5,sO 30 (.call false 35 [.t 29]),sN (.store 3 (.t 4) (.t 30))]) (.ret)) (.skip))) (.seq (.reg [qL 31 3 5,sN (.store 3 (.t 4) (.t 31))]) (.ret)))) (.skip))) (.seq (.reg [qF 32 0 2,ql 33 32,sO 34 (.build [.int .i64 0,.int .i64 0,.nilsl] [(0,1,.t 33)]),sO 6 (.alloc 24 [.int .i64 0,.int .i64 0,.nilsl]),sN (.store 3 (.t 6) (.t 34))]) (.seq (.seq (.reg [qM 35 1]) (.cond (.t 35) (.reg [qF 36 0 2,ql 37 36,sO 38 (.call false 36 [.t 37]),qF 39 0 6,sN (.store 1 (.t 39) (.t 38))]) (.skip))) (.seq (.seq (.reg [qF 40 2 2,ql 41 40,qN 42 41,qI 43 0]) (.block 0 (.loop b23_0))) (.seq (.reg [qL 56 3 6,sN (.store 3 (.t 4) (.t 56))]) (.ret)))))))⟩
theorem s23_ok:slimF Tryd.prog ⟨[32,48,55,93,94,95,100],[],[],[]⟩ Tryd.f23=some s23:=by kernel_rfl
def s36:SF:=⟨14,[.tmp 2],.seq (.reg [qI 2 0]) (.seq (.seq (.reg [qM 3 0]) (.block 0 (.seq (.reg [qC 5 .eql 3 5,qM 4 5]) (.cond (.t 4) (.seq (.reg [qI 2 6]) (.ret)) (.seq (.reg [qC 7 .eql 3 6,qM 6 7]) (.cond (.t 6) (.seq (.reg [qI 2 5]) (.ret)) (.seq (.reg [qC 9 .eql 3 7,qM 8 9]) (.cond (.t 8) (.seq (.reg [qI 2 9]) (.ret)) (.seq (.reg [qC 11 .eql 3 9,qM 10 11]) (.cond (.t 10) (.seq (.reg [qI 2 7]) (.ret)) (.seq (.reg [qC 13 .eql 3 8,qM 12 13]) (.cond (.t 12) (.seq (.reg [qI 2 10]) (.ret)) (.skip))))))))))))) (.seq (.reg [qI 2 8]) (.ret)))⟩
theorem s36_ok:slimF Tryd.prog ⟨[32,48,55,93,94,95,100],[],[],[]⟩ Tryd.f36=some s36:=by kernel_rfl
theorem opp_pure (o:Int):PureC Tryd.prog 36 [(iV (o))] (iV (dualI o)):=by
 refine pW Tryd.func36 s36_ok fun hB=>?_
 unfold s36
 dsimp only
 refine W_r (R_mv rfl (R_e (W_seq_seq (W_r (R_mv rfl (R_e (W_seq_blockg fun Q1 n1 x1 y1 z1=>?_)))))))
 refine W_r (R_eql rfl rfl (R_mv rfl (R_e ?_)))
 refine W_if rfl (fun c2=>?_) fun c2=>?_
 ·
  refine W_r (R_mv rfl (R_e (W_ret (y1 _ _ ?_))))
  refine Ret_1 (@rfl V (iV (6:Int))) (fz_int ?_)
  · simp only [dualI]; repeat (first|rfl|omega|split)
 refine W_r (R_eql rfl rfl (R_mv rfl (R_e ?_)))
 refine W_if rfl (fun c3=>?_) fun c3=>?_
 ·
  refine W_r (R_mv rfl (R_e (W_ret (y1 _ _ ?_))))
  refine Ret_1 (@rfl V (iV (5:Int))) (fz_int ?_)
  · simp only [dualI]; repeat (first|rfl|omega|split)
 refine W_r (R_eql rfl rfl (R_mv rfl (R_e ?_)))
 refine W_if rfl (fun c4=>?_) fun c4=>?_
 ·
  refine W_r (R_mv rfl (R_e (W_ret (y1 _ _ ?_))))
  refine Ret_1 (@rfl V (iV (9:Int))) (fz_int ?_)
  · simp only [dualI]; repeat (first|rfl|omega|split)
 refine W_r (R_eql rfl rfl (R_mv rfl (R_e ?_)))
 refine W_if rfl (fun c5=>?_) fun c5=>?_
 ·
  refine W_r (R_mv rfl (R_e (W_ret (y1 _ _ ?_))))
  refine Ret_1 (@rfl V (iV (7:Int))) (fz_int ?_)
  · simp only [dualI]; repeat (first|rfl|omega|split)
 refine W_r (R_eql rfl rfl (R_mv rfl (R_e ?_)))
 refine W_if rfl (fun c6=>?_) fun c6=>?_
 ·
  refine W_r (R_mv rfl (R_e (W_ret (y1 _ _ ?_))))
  refine Ret_1 (@rfl V (iV (10:Int))) (fz_int ?_)
  · simp only [dualI]; repeat (first|rfl|omega|split)
 refine W_skip (n1 _ _ (.done (W_r (R_mv rfl (R_e (W_ret ?_))))))
 refine Ret_1 (@rfl V (iV (8:Int))) (fz_int ?_)
 · simp only [dualI]; repeat (first|rfl|omega|split)
theorem mnormal_pure_step (f:Fm) (b:Bool) (hf:okF f=true) (hz:f.sz≤4096) (ih: ∀ (g:Fm) (b:Bool),g.sz < f.sz→okF g=true→g.sz≤4096→PureC Tryd.prog 23 [(V.agg [(iV (g.op)),(iV (g.arg)),(V.sl (List.map cF (g.kids)))]),(V.bool b)] (V.agg [(iV ((nrm g b).op)),(iV ((nrm g b).arg)),(V.sl (List.map cF ((nrm g b).kids)))])):PureC Tryd.prog 23 [(V.agg [(iV (f.op)),(iV (f.arg)),(V.sl (List.map cF (f.kids)))]),(V.bool b)] (V.agg [(iV ((nrm f b).op)),(iV ((nrm f b).arg)),(V.sl (List.map cF ((nrm f b).kids)))]):=by
 refine pW Tryd.func23 s23_ok fun hB=>?_
 unfold s23
 dsimp only
 have hp:=okF_parts hf
 have hr:=rgt_ok hp.1
 have hln:=f.sz_len
 refine W_r (R_box (i:=2) (n:=0) (m:=3) (cs:=[(iV (f.op)),(iV (f.arg)),(V.sl (List.map cF (f.kids)))]) rfl (congrArg Blk.ver rfl) rfl rfl rfl (R_alloc (i:=4) (n:=0) (m:=3) rfl (congrArg Blk.ver rfl) rfl (R_e (W_seq_seq (W_r (R_fk rfl rfl (R_lk rfl rfl rfl rfl ?_)))))))
 refine R_eql rfl rfl (R_e ?_)
 refine W_seq_if rfl (fun c1=>?_) fun c1=>?_
 ·
  refine W_seq_seq (W_r (R_fk rfl rfl (R_lk rfl rfl rfl rfl (R_idxu (i:=0) (@rfl V (V.sl (List.map cF (f.kids)))) (@rfl V (iV ((0:Nat):Int))) (by omega) (cF_eq _) rfl (R_load_pp rfl rfl (R_mv rfl (R_notb rfl ?_)))))))
  refine R_callk (ih (((nth (f.kids) (0)))) ((!b)) (Fm.sz_kid (by omega)) (hp.2 _ (by omega)) (Nat.le_trans (Nat.le_of_lt (Fm.sz_kid (by omega))) hz)) rfl (R_sk rfl rfl rfl rfl rfl rfl rfl rfl rfl (R_e (W_seq_ret ?_)))
  refine RetC_1 (resV_c (u:=(V.agg [(iV ((nrm (((nth (f.kids) (0)))) ((!b))).op)),(iV ((nrm (((nth (f.kids) (0)))) ((!b))).arg)),(V.sl (List.map cF ((nrm (((nth (f.kids) (0)))) ((!b))).kids)))])) rfl (@rfl Blk (bk 1 24 3 [[(iV ((nrm (((nth (f.kids) (0)))) ((!b))).op)),(iV ((nrm (((nth (f.kids) (0)))) ((!b))).arg)),(V.sl (List.map cF ((nrm (((nth (f.kids) (0)))) ((!b))).kids)))]])) (lB oB rfl rfl)) (fz_agg3 (fz_int ?_) (fz_int ?_) (fz_sl ?_ (fun _=>by simp)))
  · rw [nrm_not (f:=f) (b:=b) (by omega) (by omega)]
  · rw [nrm_not (f:=f) (b:=b) (by omega) (by omega)]
  · rw [nrm_not (f:=f) (b:=b) (by omega) (by omega)]
 refine W_seq_skip (W_seq_seq (W_r (R_fk rfl rfl (R_lk rfl rfl rfl rfl (R_len rfl (R_eql rfl rfl (R_e ?_)))))))
 refine W_seq_if rfl (fun c2=>?_) fun c2=>?_
 ·
  refine W_seq_seq (W_r (R_fk rfl rfl (R_lk rfl rfl rfl rfl (R_fk rfl rfl (R_lk rfl rfl rfl rfl (R_build rfl rfl (R_alloc (i:=5) (n:=0) (m:=3) rfl (congrArg Blk.ver rfl) rfl ?_)))))))
  refine R_sk rfl rfl rfl rfl rfl rfl rfl rfl rfl (R_e (W_seq_seq (W_seq_seq (W_r (R_mv rfl (R_e ?_))))))
  refine W_seq_ifb rfl (fun c3=>?_) (fun c3=>?_)
  ·
   have hb:b=true:=c3
   refine W_seq_seq (W_r (R_lk rfl rfl rfl rfl (R_call (evcons (@rfl V (V.agg [(iV (f.op)),(iV (f.arg)),V.nilsl])) evnil) (mnot_pure (⟨((f.op)),((f.arg)),([])⟩:Fm)) (mcons (by rfl) rfl) (by simp [-List.map_take,-List.map_drop,-List.map_append,-List.map_reverse]) (Or.inl (by simp [-List.map_take,-List.map_drop,-List.map_append,-List.map_reverse])) (R_sk rfl rfl rfl rfl rfl rfl rfl rfl rfl (R_e (W_seq_ret ?_))))))
   refine RetC_1 (resV_c (u:=(V.agg [(iV (4:Int)),(iV (0:Int)),(V.sl (List.map cF ([(⟨((f.op)),((f.arg)),([])⟩:Fm)])))])) rfl (@rfl Blk (bk 1 24 3 [[(iV (4:Int)),(iV (0:Int)),(V.sl (List.map cF ([(⟨((f.op)),((f.arg)),([])⟩:Fm)])))]])) (lB oB rfl rfl)) (fz_agg3 (fz_int ?_) (fz_int ?_) (fz_sl ?_ (fun _=>by simp)))
   · rw [hb,nrm_leafT (by omega) (by omega)]; rfl
   · rw [hb,nrm_leafT (by omega) (by omega)]; rfl
   · rw [hb,nrm_leafT (by omega) (by omega)]; rfl
  have hb:b=false:=by simpa using c3
  refine W_seq_skip (W_seq_seq (W_r (R_lk rfl rfl rfl rfl (R_sk rfl rfl rfl rfl rfl rfl rfl rfl rfl (R_e (W_seq_ret ?_))))))
  refine RetC_1 (resV_c (u:=(V.agg [(iV (f.op)),(iV (f.arg)),V.nilsl])) rfl (@rfl Blk (bk 1 24 3 [[(iV (f.op)),(iV (f.arg)),V.nilsl]])) (lB oB rfl rfl)) (fz_agg3 (fz_int ?_) (fz_int ?_) (fz_nil ?_))
  · rw [hb,nrm_leafF (by omega) (by omega)]; rfl
  · rw [hb,nrm_leafF (by omega) (by omega)]; rfl
  · rw [hb,nrm_leafF (by omega) (by omega)]; rfl
 refine W_seq_skip (W_r (R_fk rfl rfl (R_lk rfl rfl rfl rfl (R_build rfl rfl (R_alloc (i:=6) (n:=0) (m:=3) rfl (congrArg Blk.ver rfl) rfl (R_sk rfl rfl rfl rfl rfl rfl rfl rfl rfl (R_e ?_)))))))
 refine W_seq_seq (W_r (R_mv rfl (R_e ?_)))
 refine W_seq_ifb rfl (fun c4=>?_) (fun c4=>?_)
 ·
  have hb:b=true:=c4
  refine W_r (R_fk rfl rfl (R_lk rfl rfl rfl rfl (R_callk (opp_pure ((f.op))) rfl (R_fk rfl rfl (R_sk rfl rfl rfl rfl rfl rfl rfl rfl rfl (R_e (W_seq_seq ?_)))))))
  refine W_seq_g (fun T H=>T 1=(V.bool b)∧T 4=(V.mp 4 1 0 0)∧T 6=(V.mp 6 1 0 0)∧T 41=(V.sl (List.map cF (f.kids)))∧T 42=(iV ((f.kids.length:Nat):Int))∧T 43=(iV (0:Int))∧H 2=(bk 1 24 3 [[(iV (f.op)),(iV (f.arg)),(V.sl (List.map cF (f.kids)))]])∧H 4=(bk 1 24 3 [[(iV (0:Int)),(iV (0:Int)),V.nilsl]])∧H 5=(⟨0,false,false,0,0,[]⟩:Blk)∧H 6=(bk 1 24 3 [[(iV (dualI ((f.op)))),(iV (0:Int)),V.nilsl]])∧H 8=(⟨0,false,false,0,0,[]⟩:Blk)∧H 653=(⟨0,false,false,0,0,[]⟩:Blk)∧True) ?_ ?_
  ·
   refine R_fk rfl rfl (R_lk rfl rfl rfl rfl (R_len rfl (R_mv rfl ?_)))
   exact R_nil ⟨rfl,rfl,rfl,rfl,rfl,rfl,rfl,rfl,rfl,rfl,rfl,rfl,trivial⟩
  intro T H ⟨t1,t4,t6,t41,t42,t43,h2,h4,h5,h6,h8,h653,_⟩
  refine .lazyCell 653 24 3 6 0 2 [(iV (dualI ((f.op)))),(iV (0:Int)),V.nilsl] (by decide) (by rw [h6]; rfl) (by rw [h6]; rfl) rfl (.done ?_)
  refine fork_ (R:=fun T H=>T 1=(V.bool b)∧T 4=(V.mp 4 1 0 0)∧T 6=(V.mp 6 1 0 0)∧T 41=(V.sl (List.map cF (f.kids)))∧T 42=(iV ((f.kids.length:Nat):Int))∧T 43=(iV (0:Int))∧H 2=(bk 1 24 3 [[(iV (f.op)),(iV (f.arg)),(V.sl (List.map cF (f.kids)))]])∧H 4=(bk 1 24 3 [[(iV (0:Int)),(iV (0:Int)),V.nilsl]])∧H 5=(⟨0,false,false,0,0,[]⟩:Blk)∧H 6=(bk 1 24 3 [[(iV (dualI ((f.op)))),(iV (0:Int)),(V.ms 653 1 0 (0))]])∧H 8=(⟨0,false,false,0,0,[]⟩:Blk)∧H 653=(bz 1 24 3 [])∧True) ⟨t1,t4,t6,t41,t42,t43,((upd_ne _ _ (by decide)).trans ((upd_ne _ _ (by decide)).trans h2)),((upd_ne _ _ (by decide)).trans ((upd_ne _ _ (by decide)).trans h4)),((upd_ne _ _ (by decide)).trans ((upd_ne _ _ (by decide)).trans h5)),(by rw [upd_same,h6,(congrArg Blk.ver h653)]; rfl),((upd_ne _ _ (by decide)).trans ((upd_ne _ _ (by decide)).trans h8)),(by rw [upd_ne _ _ (by decide),upd_same,(congrArg Blk.ver h653)]),trivial⟩ ?_
  intro T H ⟨t1,t4,t6,t41,t42,t43,h2,h4,h5,h6,h8,h653,_⟩
  refine W_seq_blockg fun Q5 n5 x5 y5 z5=>?_
  refine W_loop (fun mm T H=> ∃ (k:Nat) (w:Nat) (v8:Nat),mm=f.kids.length - k∧T 1=(V.bool b)∧T 4=(V.mp 4 1 0 0)∧T 6=(V.mp 6 1 0 0)∧T 41=(V.sl (List.map cF (f.kids)))∧T 42=(iV ((f.kids.length:Nat):Int))∧T 43=(iV ((k:Nat):Int))∧H 2=(bk 1 24 3 [[(iV (f.op)),(iV (f.arg)),(V.sl (List.map cF (f.kids)))]])∧H 4=(bk 1 24 3 [[(iV (0:Int)),(iV (0:Int)),V.nilsl]])∧H 5=(⟨0,false,false,0,0,[]⟩:Blk)∧H 6=(bk 1 24 3 [[(iV (nop f.op b)),(iV (0:Int)),(V.ms 653 w 0 (k))]])∧(H 8).ver=v8∧H 653=(bz w 24 3 (List.map cF ((f.kids.take k).map (fun g=>nrm g b))))∧(k≤f.kids.length)) ?_ ?_
  ·
   refine ⟨_,0,1,0,rfl,t1,t4,t6,t41,t42,(Eq.trans t43 rfl),h2,h4,h5,(Eq.trans h6 (by (exact bk_op (by simp only [nop,dualI,hb,if_true,Bool.false_eq_true,if_false]; repeat (first|rfl|omega|split))))),(congrArg Blk.ver h8),(Eq.trans h653 (by rfl)),?_⟩
   · omega
  intro mm T H ⟨k,w,v8,hmm,t1,t4,t6,t41,t42,t43,h2,h4,h5,h6,h8,h653,hk⟩ Q6 p16 p26 p36
  unfold b23_0
  refine W_r (R_lss t43 t42 (R_e ?_))
  refine W_seq_if rfl (fun c7=>?_) fun c7=>?_
  ·
   refine W_seq_skip (W_seq_blockg fun Q8 n8 x8 y8 z8=>(W_r (R_idxu (i:=k) t41 t43 (by omega) (cF_eq _) rfl (R_load_pp rfl rfl (R_alloc (i:=8) (n:=v8) (m:=3) rfl h8 rfl (R_sk rfl rfl rfl rfl rfl rfl rfl rfl rfl (R_e ?_)))))))
   refine W_t (R_fk t6 h6 (R_lk rfl h6 rfl rfl (R_lk rfl rfl rfl rfl (R_mv t1 (R_callk (ih (((nth (f.kids) (k)))) b (Fm.sz_kid (by omega)) (hp.2 _ (by omega)) (Nat.le_trans (Nat.le_of_lt (Fm.sz_kid (by omega))) hz)) rfl (R_bslice rfl rfl (R_append1 (l:=((f.kids.take k).map (fun g=>nrm g b))) (f:=cF) (x:=((nrm (((nth (f.kids) (k)))) b))) (@rfl V (V.ms 653 w 0 (k))) h653 (by (simp; omega)) (row_F1 (x:=((nrm (((nth (f.kids) (k)))) b))) (@rfl V (V.sl [[(iV ((nrm (((nth (f.kids) (k)))) b).op)),(iV ((nrm (((nth (f.kids) (k)))) b).arg)),(V.sl (List.map cF ((nrm (((nth (f.kids) (k)))) b).kids)))]]))) (cF_len _) (cF_one _) (by omega) (by omega) ?_)))))))
   refine R_fk t6 h6 (R_sk rfl rfl rfl h6 rfl rfl rfl rfl rfl (R_e (n8 _ _ (.done (W_t (R_addN t43 (@rfl V (iV ((1:Nat):Int))) (by omega) (R_mv rfl ?_)))))))
   refine R_e ?_
   refine p16 _ _ _ ?_ ⟨(k+1),(w+1),(v8+1),rfl,t1,t4,t6,t41,t42,(Eq.trans (@rfl V (iV ((k+1:Nat):Int))) (by rfl)),h2,h4,h5,(Eq.trans (@rfl Blk (bk 1 24 3 [[(iV (nop f.op b)),(iV (0:Int)),(V.ms 653 (w+1) 0 (k+1))]])) (by rfl)),(congrArg Blk.ver rfl),(Eq.trans (@rfl Blk (bz (w+1) 24 3 (List.map cF ((f.kids.take k).map (fun g=>nrm g b)++[(nrm (((nth (f.kids) (k)))) b)])))) (by (rw [mapTake (by omega)]; done))),?_⟩
   · omega
   · omega
  refine W_seq_exit (p36 _ _ _ (x5 _ _ (.done (W_r (R_lk t6 h6 rfl rfl (R_sk t4 rfl rfl h4 rfl rfl rfl rfl rfl (R_e ?_)))))))
  refine W_ret ?_
  refine RetC_1 (resV_c (u:=(V.agg [(iV (nop f.op b)),(iV (0:Int)),(V.ms 653 w 0 (k))])) t4 (@rfl Blk (bk 1 24 3 [[(iV (nop f.op b)),(iV (0:Int)),(V.ms 653 w 0 (k))]])) (lB oB rfl rfl)) (fz_agg3 (fz_int ?_) (fz_int ?_) (fz_ms h653 (by simp) (l:=((f.kids.take k).map (fun g=>nrm g b))) rfl (by (simp; omega)) (fun _=>by simp) ?_))
  · rw [nrm_node (by omega) (by omega)]; rfl
  · rw [nrm_node (by omega) (by omega)]; rfl
  · rw [nrm_node (by omega) (by omega)]; first|rfl|(show _=List.map _ f.kids; rw [show k=f.kids.length by omega,List.take_length]; done)
 have hb:b=false:=by simpa using c4
 refine W_seq_skip (W_seq_seq ?_)
 refine W_seq_g (fun T H=>T 1=(V.bool b)∧T 4=(V.mp 4 1 0 0)∧T 6=(V.mp 6 1 0 0)∧T 41=(V.sl (List.map cF (f.kids)))∧T 42=(iV ((f.kids.length:Nat):Int))∧T 43=(iV (0:Int))∧H 2=(bk 1 24 3 [[(iV (f.op)),(iV (f.arg)),(V.sl (List.map cF (f.kids)))]])∧H 4=(bk 1 24 3 [[(iV (0:Int)),(iV (0:Int)),V.nilsl]])∧H 5=(⟨0,false,false,0,0,[]⟩:Blk)∧H 6=(bk 1 24 3 [[(iV (f.op)),(iV (0:Int)),V.nilsl]])∧H 8=(⟨0,false,false,0,0,[]⟩:Blk)∧H 653=(⟨0,false,false,0,0,[]⟩:Blk)∧True) ?_ ?_
 ·
  refine R_fk rfl rfl (R_lk rfl rfl rfl rfl (R_len rfl (R_mv rfl ?_)))
  exact R_nil ⟨rfl,rfl,rfl,rfl,rfl,rfl,rfl,rfl,rfl,rfl,rfl,rfl,trivial⟩
 intro T H ⟨t1,t4,t6,t41,t42,t43,h2,h4,h5,h6,h8,h653,_⟩
 refine .lazyCell 653 24 3 6 0 2 [(iV (f.op)),(iV (0:Int)),V.nilsl] (by decide) (by rw [h6]; rfl) (by rw [h6]; rfl) rfl (.done ?_)
 refine fork_ (R:=fun T H=>T 1=(V.bool b)∧T 4=(V.mp 4 1 0 0)∧T 6=(V.mp 6 1 0 0)∧T 41=(V.sl (List.map cF (f.kids)))∧T 42=(iV ((f.kids.length:Nat):Int))∧T 43=(iV (0:Int))∧H 2=(bk 1 24 3 [[(iV (f.op)),(iV (f.arg)),(V.sl (List.map cF (f.kids)))]])∧H 4=(bk 1 24 3 [[(iV (0:Int)),(iV (0:Int)),V.nilsl]])∧H 5=(⟨0,false,false,0,0,[]⟩:Blk)∧H 6=(bk 1 24 3 [[(iV (f.op)),(iV (0:Int)),(V.ms 653 1 0 (0))]])∧H 8=(⟨0,false,false,0,0,[]⟩:Blk)∧H 653=(bz 1 24 3 [])∧True) ⟨t1,t4,t6,t41,t42,t43,((upd_ne _ _ (by decide)).trans ((upd_ne _ _ (by decide)).trans h2)),((upd_ne _ _ (by decide)).trans ((upd_ne _ _ (by decide)).trans h4)),((upd_ne _ _ (by decide)).trans ((upd_ne _ _ (by decide)).trans h5)),(by rw [upd_same,h6,(congrArg Blk.ver h653)]; rfl),((upd_ne _ _ (by decide)).trans ((upd_ne _ _ (by decide)).trans h8)),(by rw [upd_ne _ _ (by decide),upd_same,(congrArg Blk.ver h653)]),trivial⟩ ?_
 intro T H ⟨t1,t4,t6,t41,t42,t43,h2,h4,h5,h6,h8,h653,_⟩
 refine W_seq_blockg fun Q9 n9 x9 y9 z9=>?_
 refine W_loop (fun mm T H=> ∃ (k:Nat) (w:Nat) (v8:Nat),mm=f.kids.length - k∧T 1=(V.bool b)∧T 4=(V.mp 4 1 0 0)∧T 6=(V.mp 6 1 0 0)∧T 41=(V.sl (List.map cF (f.kids)))∧T 42=(iV ((f.kids.length:Nat):Int))∧T 43=(iV ((k:Nat):Int))∧H 2=(bk 1 24 3 [[(iV (f.op)),(iV (f.arg)),(V.sl (List.map cF (f.kids)))]])∧H 4=(bk 1 24 3 [[(iV (0:Int)),(iV (0:Int)),V.nilsl]])∧H 5=(⟨0,false,false,0,0,[]⟩:Blk)∧H 6=(bk 1 24 3 [[(iV (nop f.op b)),(iV (0:Int)),(V.ms 653 w 0 (k))]])∧(H 8).ver=v8∧H 653=(bz w 24 3 (List.map cF ((f.kids.take k).map (fun g=>nrm g b))))∧(k≤f.kids.length)) ?_ ?_
 ·
  refine ⟨_,0,1,0,rfl,t1,t4,t6,t41,t42,(Eq.trans t43 rfl),h2,h4,h5,(Eq.trans h6 (by (exact bk_op (by simp only [nop,dualI,hb,if_true,Bool.false_eq_true,if_false]; repeat (first|rfl|omega|split))))),(congrArg Blk.ver h8),(Eq.trans h653 (by rfl)),?_⟩
  · omega
 intro mm T H ⟨k,w,v8,hmm,t1,t4,t6,t41,t42,t43,h2,h4,h5,h6,h8,h653,hk⟩ Q10 p110 p210 p310
 unfold b23_0
 refine W_r (R_lss t43 t42 (R_e ?_))
 refine W_seq_if rfl (fun c11=>?_) fun c11=>?_
 ·
  refine W_seq_skip (W_seq_blockg fun Q12 n12 x12 y12 z12=>(W_r (R_idxu (i:=k) t41 t43 (by omega) (cF_eq _) rfl (R_load_pp rfl rfl (R_alloc (i:=8) (n:=v8) (m:=3) rfl h8 rfl (R_sk rfl rfl rfl rfl rfl rfl rfl rfl rfl (R_e ?_)))))))
  refine W_t (R_fk t6 h6 (R_lk rfl h6 rfl rfl (R_lk rfl rfl rfl rfl (R_mv t1 (R_callk (ih (((nth (f.kids) (k)))) b (Fm.sz_kid (by omega)) (hp.2 _ (by omega)) (Nat.le_trans (Nat.le_of_lt (Fm.sz_kid (by omega))) hz)) rfl (R_bslice rfl rfl (R_append1 (l:=((f.kids.take k).map (fun g=>nrm g b))) (f:=cF) (x:=((nrm (((nth (f.kids) (k)))) b))) (@rfl V (V.ms 653 w 0 (k))) h653 (by (simp; omega)) (row_F1 (x:=((nrm (((nth (f.kids) (k)))) b))) (@rfl V (V.sl [[(iV ((nrm (((nth (f.kids) (k)))) b).op)),(iV ((nrm (((nth (f.kids) (k)))) b).arg)),(V.sl (List.map cF ((nrm (((nth (f.kids) (k)))) b).kids)))]]))) (cF_len _) (cF_one _) (by omega) (by omega) ?_)))))))
  refine R_fk t6 h6 (R_sk rfl rfl rfl h6 rfl rfl rfl rfl rfl (R_e (n12 _ _ (.done (W_t (R_addN t43 (@rfl V (iV ((1:Nat):Int))) (by omega) (R_mv rfl ?_)))))))
  refine R_e ?_
  refine p110 _ _ _ ?_ ⟨(k+1),(w+1),(v8+1),rfl,t1,t4,t6,t41,t42,(Eq.trans (@rfl V (iV ((k+1:Nat):Int))) (by rfl)),h2,h4,h5,(Eq.trans (@rfl Blk (bk 1 24 3 [[(iV (nop f.op b)),(iV (0:Int)),(V.ms 653 (w+1) 0 (k+1))]])) (by rfl)),(congrArg Blk.ver rfl),(Eq.trans (@rfl Blk (bz (w+1) 24 3 (List.map cF ((f.kids.take k).map (fun g=>nrm g b)++[(nrm (((nth (f.kids) (k)))) b)])))) (by (rw [mapTake (by omega)]; done))),?_⟩
  · omega
  · omega
 refine W_seq_exit (p310 _ _ _ (x9 _ _ (.done (W_r (R_lk t6 h6 rfl rfl (R_sk t4 rfl rfl h4 rfl rfl rfl rfl rfl (R_e ?_)))))))
 refine W_ret ?_
 refine RetC_1 (resV_c (u:=(V.agg [(iV (nop f.op b)),(iV (0:Int)),(V.ms 653 w 0 (k))])) t4 (@rfl Blk (bk 1 24 3 [[(iV (nop f.op b)),(iV (0:Int)),(V.ms 653 w 0 (k))]])) (lB oB rfl rfl)) (fz_agg3 (fz_int ?_) (fz_int ?_) (fz_ms h653 (by simp) (l:=((f.kids.take k).map (fun g=>nrm g b))) rfl (by (simp; omega)) (fun _=>by simp) ?_))
 · rw [nrm_node (by omega) (by omega)]; rfl
 · rw [nrm_node (by omega) (by omega)]; rfl
 · rw [nrm_node (by omega) (by omega)]; first|rfl|(show _=List.map _ f.kids; rw [show k=f.kids.length by omega,List.take_length]; done)
theorem mnormal_pure (f:Fm) (b:Bool) (hf:okF f=true) (hz:f.sz≤4096):PureC Tryd.prog 23 [(V.agg [(iV (f.op)),(iV (f.arg)),(V.sl (List.map cF (f.kids)))]),(V.bool b)] (V.agg [(iV ((nrm f b).op)),(iV ((nrm f b).arg)),(V.sl (List.map cF ((nrm f b).kids)))]):=by
  have key: ∀ (mm:Nat) (f:Fm) (b:Bool),f.sz < mm→okF f=true→f.sz≤4096→PureC Tryd.prog 23 [(V.agg [(iV (f.op)),(iV (f.arg)),(V.sl (List.map cF (f.kids)))]),(V.bool b)] (V.agg [(iV ((nrm f b).op)),(iV ((nrm f b).arg)),(V.sl (List.map cF ((nrm f b).kids)))]):=by
    intro mm
    induction mm with
    |zero=>intro f b hlt; exact absurd hlt (Nat.not_lt_zero _)
    | succ mm ih =>
      intro f b hlt hf hz
      exact mnormal_pure_step f b hf hz fun f2 b2 hlt2=>ih f2 b2 (by omega)
  exact key (f.sz+1) f b (Nat.lt_succ_self _) hf hz
theorem simplify_pure (f:Fm):PureC Tryd.prog 9 [(V.agg [(iV (f.op)),(iV (f.arg)),(V.sl (List.map cF (f.kids)))])] (V.tup [(V.agg [(iV ((simp_ f).1.op)),(iV ((simp_ f).1.arg)),(V.sl (List.map cF ((simp_ f).1.kids)))]),(iV ((simp_ f).2))]):=by
 refine pW Tryd.func9 s9_ok fun hB=>?_
 unfold s9
 dsimp only
 refine W_r (R_box (i:=1) (n:=0) (m:=3) (cs:=[(iV (f.op)),(iV (f.arg)),(V.sl (List.map cF (f.kids)))]) rfl (congrArg Blk.ver rfl) rfl rfl rfl (R_alloc (i:=2) (n:=0) (m:=3) rfl (congrArg Blk.ver rfl) rfl (R_mv rfl (R_e (W_seq_seq (W_r (R_lk rfl rfl rfl rfl ?_)))))))
 refine R_callk (fvalid_pure f) rfl (R_mv rfl (R_e (W_seq_seq (W_r (R_mv rfl (R_neq rfl rfl (R_e ?_)))))))
 refine W_seq_if rfl (fun c1=>?_) fun c1=>?_
 ·
  have d1:=simp_e c1
  refine W_seq_seq (W_r (R_build rfl rfl (R_mv rfl (R_sk rfl rfl rfl rfl rfl rfl rfl rfl rfl (R_mv rfl (R_e (W_seq_ret ?_)))))))
  refine RetC_2 (resV_c (u:=(V.agg [(iV (0:Int)),(iV (0:Int)),V.nilsl])) rfl (@rfl Blk (bk 1 24 3 [[(iV (0:Int)),(iV (0:Int)),V.nilsl]])) (lB oB rfl rfl)) (resV_t (@rfl V (iV (fval f)))) (fz_agg3 (fz_int ?_) (fz_int ?_) (fz_nil ?_)) (fz_int ?_)
  · rw [d1]; rfl
  · rw [d1]; rfl
  · rw [d1]; rfl
  · rw [d1]
 have d1:=simp_g c1
 refine W_seq_skip (W_r (R_lk rfl rfl rfl rfl (R_callk (mnormal_pure f false (fval_ok (by omega)) (fval_sz (by omega))) rfl (R_callk (checked_pure ((nrm f false)) (nrm_ok f (fval_ok (by omega)) false) (Nat.le_trans (nrm_sz f false) (by have:=fval_sz (f:=f) (by omega); omega))) rfl (R_ext rfl rfl (R_ext rfl rfl (R_sk rfl rfl rfl rfl rfl rfl rfl rfl rfl ?_)))))))
 refine R_mv rfl (R_e (W_ret ?_))
 refine RetC_2 (resV_c (u:=(V.agg [(iV ((chk ((nrm f false))).1.op)),(iV ((chk ((nrm f false))).1.arg)),(V.sl (List.map cF ((chk ((nrm f false))).1.kids)))])) rfl (@rfl Blk (bk 1 24 3 [[(iV ((chk ((nrm f false))).1.op)),(iV ((chk ((nrm f false))).1.arg)),(V.sl (List.map cF ((chk ((nrm f false))).1.kids)))]])) (lB oB rfl rfl)) (resV_t (@rfl V (iV ((chk ((nrm f false))).2)))) (fz_agg3 (fz_int ?_) (fz_int ?_) (fz_sl ?_ (fun _=>by simp))) (fz_int ?_)
 · rw [d1]
 · rw [d1]
 · rw [d1]
 · rw [d1]
def r10_1:List SO:=[
 qF 6 0 2,
 ql 7 6,
 qF 8 0 3,
 ql 9 8,
 qP 10 .neq 7 9,
 qM 11 10,
 ⟨some (11,false),some 12,.fld 1 (.t 2)⟩,
 ⟨some (11,false),some 13,.load false 1 (.t 12)⟩,
 ⟨some (11,false),some 14,.fld 1 (.t 3)⟩,
 ⟨some (11,false),some 15,.load false 1 (.t 14)⟩,
 ⟨some (11,false),some 16,.bin .neq (.t 13) (.t 15)⟩,
 sO 17 (.pick (.t 11) (.c (.bool true)) (.t 16)),
 qM 18 17,
 ⟨some (18,false),some 19,.fld 2 (.t 2)⟩,
 ⟨some (18,false),some 20,.load false 1 (.t 19)⟩,
 ⟨some (18,false),some 21,.len (.t 20)⟩,
 ⟨some (18,false),some 22,.fld 2 (.t 3)⟩,
 ⟨some (18,false),some 23,.load false 1 (.t 22)⟩,
 ⟨some (18,false),some 24,.len (.t 23)⟩,
 ⟨some (18,false),some 25,.bin .neq (.t 21) (.t 24)⟩,
 sO 26 (.pick (.t 18) (.c (.bool true)) (.t 25))]
def r10_6:List SO:=[
 qF 34 2 2,
 ql 35 34,
 qM 36 5,
 qA 37 3 35 36,
 qL 38 3 37,
 qF 39 2 3,
 ql 40 39,
 qM 41 5,
 qA 42 3 40 41,
 qL 43 3 42,
 sO 44 (.call false 10 [.t 38,.t 43]),
 sO 45 (.un .not (.t 44))]
def b10_0:SC:=.seq (.seq (.reg [qM 27 5,qF 28 2 2,ql 29 28,qN 30 29,qP 31 .lss 27 30]) (.cond (.t 31) (.skip) (.exit 0))) (.seq (.block 1 (.seq (.reg r10_6) (.cond (.t 45) (.seq (.reg [sO 4 (.mv (.c (.bool false)))]) (.ret)) (.skip)))) (.reg [qM 32 5,qC 33 .add 32 1,qM 5 33]))
def s10:SF:=⟨46,[.tmp 4],.seq (.reg [sO 2 (.box 24 3 (.t 0)),sO 3 (.box 24 3 (.t 1)),sO 4 (.mv (.c (.bool false)))]) (.seq (.seq (.reg r10_1) (.cond (.t 26) (.seq (.reg [sO 4 (.mv (.c (.bool false)))]) (.ret)) (.skip))) (.seq (.seq (.reg [qI 5 0]) (.block 0 (.loop b10_0))) (.seq (.reg [sO 4 (.mv (.c (.bool true)))]) (.ret))))⟩
theorem s10_ok:slimF Tryd.prog ⟨[32,48,55,93,94,95,100],[],[],[]⟩ Tryd.f10=some s10:=by kernel_rfl
theorem rsame_pure_step (f h:Fm) (ih: ∀ (g h:Fm),g.sz < f.sz→PureC Tryd.prog 10 [(V.agg [(iV (g.op)),(iV (g.arg)),(V.sl (List.map cF (g.kids)))]),(V.agg [(iV (h.op)),(iV (h.arg)),(V.sl (List.map cF (h.kids)))])] (V.bool (sameF g h))):PureC Tryd.prog 10 [(V.agg [(iV (f.op)),(iV (f.arg)),(V.sl (List.map cF (f.kids)))]),(V.agg [(iV (h.op)),(iV (h.arg)),(V.sl (List.map cF (h.kids)))])] (V.bool (sameF f h)):=by
 refine pW Tryd.func10 s10_ok fun hB=>?_
 unfold s10
 dsimp only
 refine W_r (R_box (i:=2) (n:=0) (m:=3) (cs:=[(iV (f.op)),(iV (f.arg)),(V.sl (List.map cF (f.kids)))]) rfl (congrArg Blk.ver rfl) rfl rfl rfl (R_box (i:=3) (n:=0) (m:=3) (cs:=[(iV (h.op)),(iV (h.arg)),(V.sl (List.map cF (h.kids)))]) rfl (congrArg Blk.ver rfl) rfl rfl rfl (R_mv rfl (R_e (W_seq_seq (W_r (R_fk rfl rfl ?_)))))))
 refine R_lk rfl rfl rfl rfl (R_fk rfl rfl (R_lk rfl rfl rfl rfl (R_neq rfl rfl (R_mv rfl ?_))))
 refine Ops_seg 6 (fun T H=>T 2=(V.mp 2 1 0 0)∧T 3=(V.mp 3 1 0 0)∧T 17=(V.bool (decide (((f.op)≠(h.op))∨((f.arg)≠(h.arg)))))∧H 2=(bk 1 24 3 [[(iV (f.op)),(iV (f.arg)),(V.sl (List.map cF (f.kids)))]])∧H 3=(bk 1 24 3 [[(iV (h.op)),(iV (h.arg)),(V.sl (List.map cF (h.kids)))]])∧True) ?_ ?_
 ·
  by_cases g1:(f.op)≠(h.op)
  ·
   refine G_n (edT g1 rfl) (G_n (edT g1 rfl) (G_n (edT g1 rfl) (G_n (edT g1 rfl) (G_n (edT g1 rfl) (R_pickT (edT g1 rfl) rfl ?_)))))
   exact ⟨rfl,rfl,(dec_orT g1),rfl,rfl,trivial⟩
  ·
   refine G_yes (edF g1 rfl) (R_fk rfl rfl (G_yes (edF g1 rfl) (R_lk rfl rfl rfl rfl (G_yes (edF g1 rfl) (R_fk rfl rfl (G_yes (edF g1 rfl) (R_lk rfl rfl rfl rfl ?_)))))))
   refine G_yes (edF g1 rfl) (R_neq rfl rfl (R_pickF (edF g1 rfl) rfl ?_))
   exact ⟨rfl,rfl,(dec_orF g1),rfl,rfl,trivial⟩
 intro T H ⟨t2,t3,t17,h2,h3,_⟩
 refine R_mv t17 ?_
 refine Ops_seg 8 (fun T H=>T 2=(V.mp 2 1 0 0)∧T 3=(V.mp 3 1 0 0)∧T 26=(V.bool (decide ((((f.op)≠(h.op))∨((f.arg)≠(h.arg)))∨(((f.kids.length:Nat):Int)≠((h.kids.length:Nat):Int)))))∧H 2=(bk 1 24 3 [[(iV (f.op)),(iV (f.arg)),(V.sl (List.map cF (f.kids)))]])∧H 3=(bk 1 24 3 [[(iV (h.op)),(iV (h.arg)),(V.sl (List.map cF (h.kids)))]])∧True) ?_ ?_
 ·
  by_cases g2:((f.op)≠(h.op))∨((f.arg)≠(h.arg))
  ·
   refine G_n (edT g2 rfl) (G_n (edT g2 rfl) (G_n (edT g2 rfl) (G_n (edT g2 rfl) (G_n (edT g2 rfl) (G_n (edT g2 rfl) (G_n (edT g2 rfl) (R_pickT (edT g2 rfl) rfl ?_)))))))
   exact ⟨t2,t3,(dec_orT g2),h2,h3,trivial⟩
  ·
   refine G_yes (edF g2 rfl) (R_fk t2 h2 (G_yes (edF g2 rfl) (R_lk rfl h2 rfl rfl (G_yes (edF g2 rfl) (R_len rfl (G_yes (edF g2 rfl) (R_fk t3 h3 ?_)))))))
   refine G_yes (edF g2 rfl) (R_lk rfl h3 rfl rfl (G_yes (edF g2 rfl) (R_len rfl (G_yes (edF g2 rfl) (R_neq rfl rfl (R_pickF (edF g2 rfl) rfl ?_))))))
   exact ⟨t2,t3,(dec_orF g2),h2,h3,trivial⟩
 intro T H ⟨t2,t3,t26,h2,h3,_⟩
 refine R_e ?_
 refine W_seq_if t26 (fun c3=>?_) fun c3=>?_
 ·
  refine W_seq_seq (W_r (R_mv rfl (R_e (W_seq_ret ?_))))
  refine Ret_1 (@rfl V (V.bool false)) (fz_bool ?_)
  · rw [sameF_eq]; symm; simp only [Bool.and_eq_false_iff,decide_eq_false_iff_not]; omega
 refine W_seq_skip (W_seq_seq (W_r (R_mv rfl (R_e (W_seq_blockg fun Q4 n4 x4 y4 z4=>?_)))))
 refine W_loop (fun mm T H=> ∃ (k:Nat),mm=f.kids.length - k∧T 2=(V.mp 2 1 0 0)∧T 3=(V.mp 3 1 0 0)∧T 5=(iV ((k:Nat):Int))∧H 2=(bk 1 24 3 [[(iV (f.op)),(iV (f.arg)),(V.sl (List.map cF (f.kids)))]])∧H 3=(bk 1 24 3 [[(iV (h.op)),(iV (h.arg)),(V.sl (List.map cF (h.kids)))]])∧(k≤f.kids.length)∧(f.kids.length=h.kids.length)∧(sameL f.kids h.kids=sameL (f.kids.drop k) (h.kids.drop k))) ?_ ?_
 ·
  refine ⟨_,0,rfl,t2,t3,(Eq.trans (@rfl V (iV (0:Int))) rfl),h2,h3,?_,?_,?_⟩
  · omega
  · omega
  · rfl
 intro mm T H ⟨k,hmm,t2,t3,t5,h2,h3,hk,hl,hc⟩ Q5 p15 p25 p35
 unfold b10_0
 refine W_seq_seq (W_r (R_mv t5 (R_fk t2 h2 (R_lk rfl h2 rfl rfl (R_len rfl (R_lss rfl rfl (R_e ?_)))))))
 refine W_seq_if rfl (fun c6=>?_) fun c6=>?_
 ·
  refine W_seq_skip (W_seq_blockg fun Q7 n7 x7 y7 z7=>(W_r (R_fk t2 h2 (R_lk rfl h2 rfl rfl (R_mv t5 (R_idxu (i:=k) (@rfl V (V.sl (List.map cF (f.kids)))) (@rfl V (iV ((k:Nat):Int))) (by omega) (cF_eq _) rfl (R_load_pp rfl rfl ?_)))))))
  refine R_fk t3 h3 (R_lk rfl h3 rfl rfl (R_mv t5 (R_idxu (i:=k) (@rfl V (V.sl (List.map cF (h.kids)))) (@rfl V (iV ((k:Nat):Int))) (by omega) (cF_eq _) rfl (R_load_pp rfl rfl (R_callk (ih (((nth (f.kids) (k)))) (((nth (h.kids) (k)))) (Fm.sz_kid (by omega))) rfl (R_notb rfl (R_e ?_)))))))
  refine W_ifb rfl (fun c8=>?_) (fun c8=>?_)
  ·
   have d1:sameF (nth f.kids k) (nth h.kids k)=false:=by simpa using c8
   refine W_r (R_mv rfl (R_e (W_ret (y7 _ _ (p25 _ _ (y4 _ _ ?_))))))
   refine Ret_1 (@rfl V (V.bool false)) (fz_bool ?_)
   · rw [sameF_eq,hc,sameL_no (by omega) (by omega) d1,Bool.and_false]
  have d1:sameF (nth f.kids k) (nth h.kids k)=true:=by simpa using c8
  refine W_skip (n7 _ _ (.done (W_t (R_mv t5 (R_addN rfl (@rfl V (iV ((1:Nat):Int))) (by omega) (R_mv rfl (R_e ?_)))))))
  refine p15 _ _ _ ?_ ⟨(k+1),rfl,t2,t3,(Eq.trans (@rfl V (iV ((k+1:Nat):Int))) (by rfl)),h2,h3,?_,?_,?_⟩
  · omega
  · omega
  · omega
  · rw [hc,sameL_yes (by omega) (by omega) d1]
 refine W_seq_exit (p35 _ _ _ (x4 _ _ (.done (W_r (R_mv rfl (R_e (W_ret ?_)))))))
 refine Ret_1 (@rfl V (V.bool true)) (fz_bool ?_)
 · rw [sameF_eq,hc,sameL_end (by omega),Bool.and_true]; symm; simp only [Bool.and_eq_true,decide_eq_true_eq]; omega
theorem rsame_pure (f h:Fm):PureC Tryd.prog 10 [(V.agg [(iV (f.op)),(iV (f.arg)),(V.sl (List.map cF (f.kids)))]),(V.agg [(iV (h.op)),(iV (h.arg)),(V.sl (List.map cF (h.kids)))])] (V.bool (sameF f h)):=by
  have key: ∀ (mm:Nat) (f h:Fm),f.sz < mm→PureC Tryd.prog 10 [(V.agg [(iV (f.op)),(iV (f.arg)),(V.sl (List.map cF (f.kids)))]),(V.agg [(iV (h.op)),(iV (h.arg)),(V.sl (List.map cF (h.kids)))])] (V.bool (sameF f h)):=by
    intro mm
    induction mm with
    |zero=>intro f h hlt; exact absurd hlt (Nat.not_lt_zero _)
    | succ mm ih =>
      intro f h hlt
      exact rsame_pure_step f h fun f2 h2 hlt2=>ih f2 h2 (by omega)
  exact key (f.sz+1) f h (Nat.lt_succ_self _)
def r11_4:List SO:=[
 qM 17 1,
 qC 18 .lss 17 0,
 qM 19 18,
 ⟨some (19,false),some 20,.mv (.t 1)⟩,
 ⟨some (19,false),some 21,.bin .geq (.t 20) (.c (.int .i64 64))⟩,
 sO 22 (.pick (.t 19) (.c (.bool true)) (.t 21)),
 qM 23 22,
 ⟨some (23,false),some 24,.mv (.t 2)⟩,
 ⟨some (23,false),some 25,.bin .lss (.t 24) (.c (.int .i64 0))⟩,
 sO 26 (.pick (.t 23) (.c (.bool true)) (.t 25)),
 qM 27 26,
 ⟨some (27,false),some 28,.mv (.t 2)⟩,
 ⟨some (27,false),some 29,.bin .gtr (.t 28) (.c (.int .i64 1048576))⟩,
 sO 30 (.pick (.t 27) (.c (.bool true)) (.t 29))]
def r11_6:List SO:=[
 qL 33 3 3,
 sO 34 (.call false 9 [.t 33]),
 qM 32 34,
 qE 35 32 0,
 qE 36 32 1,
 sO 9 (.alloc 24 [.int .i64 0,.int .i64 0,.nilsl]),
 sN (.store 3 (.t 9) (.t 35)),
 qM 10 36]
def r11_9:List SO:=[
 qL 41 3 9,
 qM 42 1,
 qM 43 2,
 sO 44 (.call false 24 [.t 41,.t 42,.t 43]),
 sO 45 (.call false 22 [.t 44]),
 qE 46 45 0,
 qE 47 45 1,
 sN (.store 3 (.t 6) (.t 46)),
 qM 7 47]
def s11:SF:=⟨48,[.cell 6 true 3,.tmp 7],.seq (.reg [sO 3 (.box 24 3 (.t 0)),sO 6 (.alloc 24 [.int .i64 0,.int .i64 0,.nilsl]),qI 7 0]) (.seq (.seq (.reg [qL 11 3 3,sO 12 (.call false 21 [.t 11]),qM 8 12]) (.seq (.reg [qM 13 8,qC 14 .neq 13 0]) (.cond (.t 14) (.seq (.reg [sO 15 (.build [.int .i64 0,.int .i64 0,.nilsl] []),qM 16 8,sN (.store 3 (.t 6) (.t 15)),qM 7 16]) (.ret)) (.skip)))) (.seq (.seq (.reg r11_4) (.cond (.t 30) (.seq (.reg [sO 31 (.build [.int .i64 0,.int .i64 0,.nilsl] []),sN (.store 3 (.t 6) (.t 31)),qI 7 2]) (.ret)) (.skip))) (.seq (.reg r11_6) (.seq (.seq (.reg [qM 37 10,qC 38 .neq 37 0]) (.cond (.t 38) (.seq (.reg [sO 39 (.build [.int .i64 0,.int .i64 0,.nilsl] []),qM 40 10,sN (.store 3 (.t 6) (.t 39)),qM 7 40]) (.ret)) (.skip))) (.seq (.reg r11_9) (.ret))))))⟩
theorem s11_ok:slimF Tryd.prog ⟨[32,48,55,93,94,95,100],[],[],[]⟩ Tryd.f11=some s11:=by kernel_rfl
def r24_8:List SO:=[
 qF 33 0 7,
 ql 34 33,
 qC 35 .eql 34 2,
 qM 36 35,
 ⟨some (36,true),some 37,.fld 1 (.t 7)⟩,
 ⟨some (36,true),some 38,.load false 1 (.t 37)⟩,
 ⟨some (36,true),some 39,.mv (.t 1)⟩,
 ⟨some (36,true),some 40,.bin .neq (.t 38) (.t 39)⟩,
 sO 41 (.pick (.t 36) (.t 40) (.c (.bool false))),
 qM 42 41,
 ⟨some (42,false),some 43,.fld 0 (.t 7)⟩,
 ⟨some (42,false),some 44,.load false 1 (.t 43)⟩,
 ⟨some (42,false),some 45,.bin .eql (.t 44) (.c (.int .i64 3))⟩,
 ⟨some (42,false),some 46,.mv (.t 45)⟩,
 ⟨some (46,true),some 47,.fld 1 (.t 7)⟩,
 ⟨some (46,true),some 48,.load false 1 (.t 47)⟩,
 ⟨some (46,true),some 49,.mv (.t 2)⟩,
 ⟨some (46,true),some 50,.bin .neq (.t 48) (.t 49)⟩,
 ⟨some (42,false),some 51,.pick (.t 46) (.t 50) (.c (.bool false))⟩,
 sO 52 (.pick (.t 42) (.c (.bool true)) (.t 51)),
 sO 53 (.call false 37 [.t 52]),
 sN (.store 3 (.t 6) (.t 53))]
def r24_13:List SO:=[
 qF 63 2 3,
 ql 64 63,
 sO 65 (.idx 3 (.t 64) (.c (.int .i64 1))),
 qL 66 3 65,
 qM 67 1,
 qM 68 2,
 sO 69 (.call false 24 [.t 66,.t 67,.t 68]),
 qF 70 2 3,
 ql 71 70,
 sO 72 (.idx 3 (.t 71) (.c (.int .i64 0))),
 qL 73 3 72,
 qM 74 1,
 qM 75 2,
 sO 76 (.call false 24 [.t 73,.t 74,.t 75]),
 qL 77 3 3,
 sO 78 (.bslice 24 3 false [.int .i64 0,.int .i64 0,.nilsl] 2 [(0,.t 76),(1,.t 77)]),
 sO 79 (.call false 38 [.c (.int .i64 5),.t 78]),
 sO 80 (.bslice 24 3 false [.int .i64 0,.int .i64 0,.nilsl] 2 [(0,.t 69),(1,.t 79)]),
 sO 81 (.call false 38 [.c (.int .i64 6),.t 80]),
 sN (.store 3 (.t 6) (.t 81))]
def r24_15:List SO:=[
 qF 84 2 3,
 ql 85 84,
 sO 86 (.idx 3 (.t 85) (.c (.int .i64 1))),
 qL 87 3 86,
 qM 88 1,
 qM 89 2,
 sO 90 (.call false 24 [.t 87,.t 88,.t 89]),
 qF 91 2 3,
 ql 92 91,
 sO 93 (.idx 3 (.t 92) (.c (.int .i64 0))),
 qL 94 3 93,
 qM 95 1,
 qM 96 2,
 sO 97 (.call false 24 [.t 94,.t 95,.t 96]),
 qL 98 3 3,
 sO 99 (.bslice 24 3 false [.int .i64 0,.int .i64 0,.nilsl] 2 [(0,.t 97),(1,.t 98)]),
 sO 100 (.call false 38 [.c (.int .i64 6),.t 99]),
 sO 101 (.bslice 24 3 false [.int .i64 0,.int .i64 0,.nilsl] 2 [(0,.t 90),(1,.t 100)]),
 sO 102 (.call false 38 [.c (.int .i64 5),.t 101]),
 sN (.store 3 (.t 6) (.t 102))]
def r24_20:List SO:=[
 qF 113 2 8,
 ql 114 113,
 qL 115 3 10,
 qM 116 1,
 qM 117 2,
 sO 118 (.call false 24 [.t 115,.t 116,.t 117]),
 sO 119 (.bslice 24 3 false [.int .i64 0,.int .i64 0,.nilsl] 1 [(0,.t 118)]),
 sO 120 (.append 24 3 40 (.t 114) (.t 119)),
 qF 121 2 8,
 sN (.store 1 (.t 121) (.t 120))]
def b24_0:SC:=.seq (.reg [qP 110 .lss 109 108]) (.seq (.cond (.t 110) (.skip) (.exit 1)) (.seq (.block 2 (.seq (.reg [qA 111 3 107 109,qL 112 3 111,sO 10 (.alloc 24 [.int .i64 0,.int .i64 0,.nilsl]),sN (.store 3 (.t 10) (.t 112))]) (.reg r24_20))) (.reg [qC 122 .add 109 1,qM 109 122])))
def s24:SF:=⟨124,[.cell 6 true 3],.seq (.reg [sO 3 (.box 24 3 (.t 0)),sO 6 (.alloc 24 [.int .i64 0,.int .i64 0,.nilsl])]) (.seq (.seq (.reg [qF 11 0 3,ql 12 11]) (.block 0 (.seq (.reg [qC 14 .eql 12 2,qM 13 14]) (.cond (.t 13) (.seq (.reg [qF 15 1 3,ql 16 15,qM 17 1,qP 18 .eql 16 17,sO 19 (.call false 37 [.t 18]),sN (.store 3 (.t 6) (.t 19))]) (.ret)) (.seq (.reg [qC 21 .eql 12 3,qM 20 21]) (.cond (.t 20) (.seq (.reg [qF 22 1 3,ql 23 22,qM 24 2,qP 25 .eql 23 24,sO 26 (.call false 37 [.t 25]),sN (.store 3 (.t 6) (.t 26))]) (.ret)) (.seq (.reg [qC 28 .eql 12 4,qM 27 28]) (.cond (.t 27) (.seq (.reg [qF 29 2 3,ql 30 29,sO 31 (.idx 3 (.t 30) (.c (.int .i64 0))),qL 32 3 31,sO 7 (.alloc 24 [.int .i64 0,.int .i64 0,.nilsl]),sN (.store 3 (.t 7) (.t 32))]) (.seq (.reg r24_8) (.ret))) (.seq (.seq (.reg [qC 55 .eql 12 7,qM 54 55]) (.cond (.t 54) (.skip) (.reg [qC 56 .eql 12 9,qM 54 56]))) (.cond (.t 54) (.seq (.reg [qF 57 2 3,ql 58 57,sO 59 (.idx 3 (.t 58) (.c (.int .i64 0))),qL 60 3 59,sN (.store 3 (.t 6) (.t 60))]) (.ret)) (.seq (.reg [qC 62 .eql 12 8,qM 61 62]) (.cond (.t 61) (.seq (.reg r24_13) (.ret)) (.seq (.reg [qC 83 .eql 12 10,qM 82 83]) (.cond (.t 82) (.seq (.reg r24_15) (.ret)) (.skip))))))))))))))) (.seq (.reg [qF 103 0 3,ql 104 103,sO 105 (.build [.int .i64 0,.int .i64 0,.nilsl] [(0,1,.t 104)]),sO 8 (.alloc 24 [.int .i64 0,.int .i64 0,.nilsl]),sN (.store 3 (.t 8) (.t 105))]) (.seq (.seq (.reg [qF 106 2 3,ql 107 106,qN 108 107,qI 109 0]) (.block 1 (.loop b24_0))) (.seq (.reg [qL 123 3 8,sN (.store 3 (.t 6) (.t 123))]) (.ret)))))⟩
theorem s24_ok:slimF Tryd.prog ⟨[32,48,55,93,94,95,100],[],[],[]⟩ Tryd.f24=some s24:=by kernel_rfl
def s37:SF:=⟨6,[.cell 2 true 3],.seq (.reg [sO 2 (.alloc 24 [.int .i64 0,.int .i64 0,.nilsl])]) (.seq (.seq (.reg [qM 3 0]) (.cond (.t 3) (.seq (.reg [sO 4 (.call false 47 []),sN (.store 3 (.t 2) (.t 4))]) (.ret)) (.skip))) (.seq (.reg [sO 5 (.call false 46 []),sN (.store 3 (.t 2) (.t 5))]) (.ret)))⟩
theorem s37_ok:slimF Tryd.prog ⟨[32,48,55,93,94,95,100],[],[],[]⟩ Tryd.f37=some s37:=by kernel_rfl
theorem truth_pure (b:Bool):PureC Tryd.prog 37 [(V.bool b)] (V.agg [(iV ((trF b).op)),(iV ((trF b).arg)),(V.sl (List.map cF ((trF b).kids)))]):=by
 refine pW Tryd.func37 s37_ok fun hB=>?_
 unfold s37
 dsimp only
 refine W_r (R_alloc (i:=2) (n:=0) (m:=3) rfl (congrArg Blk.ver rfl) rfl (R_e (W_seq_seq (W_r (R_mv rfl (R_e ?_))))))
 refine W_seq_ifb rfl (fun c1=>?_) (fun c1=>?_)
 ·
  refine W_seq_seq (W_r (R_callk (myes_pure) rfl (R_sk rfl rfl rfl rfl rfl rfl rfl rfl rfl (R_e (W_seq_ret ?_)))))
  refine RetC_1 (resV_c (u:=(V.agg [(iV (1:Int)),(iV (0:Int)),(V.sl (List.map cF ([])))])) rfl (@rfl Blk (bk 1 24 3 [[(iV (1:Int)),(iV (0:Int)),(V.sl (List.map cF ([])))]])) (lB oB rfl rfl)) (fz_agg3 (fz_int ?_) (fz_int ?_) (fz_sl ?_ (fun _=>by simp)))
  · cases b <;> first|rfl|(simp_all; done)
  · cases b <;> first|rfl|(simp_all; done)
  · cases b <;> first|rfl|(simp_all; done)
 refine W_seq_skip (W_r (R_callk (mno_pure) rfl (R_sk rfl rfl rfl rfl rfl rfl rfl rfl rfl (R_e (W_ret ?_)))))
 refine RetC_1 (resV_c (u:=(V.agg [(iV (4:Int)),(iV (0:Int)),(V.sl (List.map cF ([Fm.nd 1 0 []])))])) rfl (@rfl Blk (bk 1 24 3 [[(iV (4:Int)),(iV (0:Int)),(V.sl (List.map cF ([Fm.nd 1 0 []])))]])) (lB oB rfl rfl)) (fz_agg3 (fz_int ?_) (fz_int ?_) (fz_sl ?_ (fun _=>by simp)))
 · cases b <;> first|rfl|(simp_all; done)
 · cases b <;> first|rfl|(simp_all; done)
 · cases b <;> first|rfl|(simp_all; done)
theorem after_pure_step (f:Fm) (a o:Int) (hok:okF f=true) (hz:f.sz≤4096) (ih: ∀ (g:Fm) (a o:Int),g.sz < f.sz→okF g=true→g.sz≤4096→PureC Tryd.prog 24 [(V.agg [(iV (g.op)),(iV (g.arg)),(V.sl (List.map cF (g.kids)))]),(iV (a)),(iV (o))] (V.agg [(iV ((mst g a o).op)),(iV ((mst g a o).arg)),(V.sl (List.map cF ((mst g a o).kids)))])):PureC Tryd.prog 24 [(V.agg [(iV (f.op)),(iV (f.arg)),(V.sl (List.map cF (f.kids)))]),(iV (a)),(iV (o))] (V.agg [(iV ((mst f a o).op)),(iV ((mst f a o).arg)),(V.sl (List.map cF ((mst f a o).kids)))]):=by
 refine pW Tryd.func24 s24_ok fun hB=>?_
 unfold s24
 dsimp only
 have hp:=okF_parts hok
 have hr:=rgt_ok hp.1
 have hln:=f.sz_len
 refine W_r (R_box (i:=3) (n:=0) (m:=3) (cs:=[(iV (f.op)),(iV (f.arg)),(V.sl (List.map cF (f.kids)))]) rfl (congrArg Blk.ver rfl) rfl rfl rfl (R_alloc (i:=6) (n:=0) (m:=3) rfl (congrArg Blk.ver rfl) rfl (R_e (W_seq_seq (W_r (R_fk rfl rfl (R_lk rfl rfl rfl rfl ?_)))))))
 refine R_e (W_seq_blockg fun Q1 n1 x1 y1 z1=>(W_r (R_eql rfl rfl (R_mv rfl (R_e ?_)))))
 refine W_if rfl (fun c2=>?_) fun c2=>?_
 ·
  refine W_r (R_fk rfl rfl (R_lk rfl rfl rfl rfl (R_mv rfl (R_eql rfl rfl (R_callk (truth_pure ((decide ((f.arg)=(a))))) rfl (R_sk rfl rfl rfl rfl rfl rfl rfl rfl rfl (R_e ?_)))))))
  refine W_ret (y1 _ _ ?_)
  refine RetC_1 (resV_c (u:=(V.agg [(iV ((trF ((decide ((f.arg)=(a))))).op)),(iV ((trF ((decide ((f.arg)=(a))))).arg)),(V.sl (List.map cF ((trF ((decide ((f.arg)=(a))))).kids)))])) rfl (@rfl Blk (bk 1 24 3 [[(iV ((trF ((decide ((f.arg)=(a))))).op)),(iV ((trF ((decide ((f.arg)=(a))))).arg)),(V.sl (List.map cF ((trF ((decide ((f.arg)=(a))))).kids)))]])) (lB oB rfl rfl)) (fz_agg3 (fz_int ?_) (fz_int ?_) (fz_sl ?_ (fun _=>by simp)))
  · rw [mst_2 (f:=f) (by omega)]
  · rw [mst_2 (f:=f) (by omega)]
  · rw [mst_2 (f:=f) (by omega)]
 refine W_r (R_eql rfl rfl (R_mv rfl (R_e ?_)))
 refine W_if rfl (fun c3=>?_) fun c3=>?_
 ·
  refine W_r (R_fk rfl rfl (R_lk rfl rfl rfl rfl (R_mv rfl (R_eql rfl rfl (R_callk (truth_pure ((decide ((f.arg)=(o))))) rfl (R_sk rfl rfl rfl rfl rfl rfl rfl rfl rfl (R_e ?_)))))))
  refine W_ret (y1 _ _ ?_)
  refine RetC_1 (resV_c (u:=(V.agg [(iV ((trF ((decide ((f.arg)=(o))))).op)),(iV ((trF ((decide ((f.arg)=(o))))).arg)),(V.sl (List.map cF ((trF ((decide ((f.arg)=(o))))).kids)))])) rfl (@rfl Blk (bk 1 24 3 [[(iV ((trF ((decide ((f.arg)=(o))))).op)),(iV ((trF ((decide ((f.arg)=(o))))).arg)),(V.sl (List.map cF ((trF ((decide ((f.arg)=(o))))).kids)))]])) (lB oB rfl rfl)) (fz_agg3 (fz_int ?_) (fz_int ?_) (fz_sl ?_ (fun _=>by simp)))
  · rw [mst_3 (f:=f) (by omega)]
  · rw [mst_3 (f:=f) (by omega)]
  · rw [mst_3 (f:=f) (by omega)]
 refine W_r (R_eql rfl rfl (R_mv rfl (R_e ?_)))
 refine W_if rfl (fun c4=>?_) fun c4=>?_
 ·
  refine W_r (R_fk rfl rfl (R_lk rfl rfl rfl rfl (R_idxu (i:=0) (@rfl V (V.sl (List.map cF (f.kids)))) (@rfl V (iV ((0:Nat):Int))) (by omega) (cF_eq _) rfl (R_load_pp rfl rfl (R_alloc (i:=7) (n:=0) (m:=3) rfl (congrArg Blk.ver rfl) rfl (R_sk rfl rfl rfl rfl rfl rfl rfl rfl rfl (R_e ?_)))))))
  refine W_r (R_fk rfl rfl (R_lk rfl rfl rfl rfl (R_eql rfl rfl (R_mv rfl ?_))))
  refine Ops_seg 5 (fun T H=>T 2=(iV (o))∧T 6=(V.mp 6 1 0 0)∧T 7=(V.mp 7 1 0 0)∧T 41=(V.bool (decide (((((nth (f.kids) (0))).op)=(2:Int))∧((((nth (f.kids) (0))).arg)≠(a)))))∧H 3=(bk 1 24 3 [[(iV (f.op)),(iV (f.arg)),(V.sl (List.map cF (f.kids)))]])∧H 6=(bk 1 24 3 [[(iV (0:Int)),(iV (0:Int)),V.nilsl]])∧H 7=(bk 1 24 3 [[(iV (((nth (f.kids) (0))).op)),(iV (((nth (f.kids) (0))).arg)),(V.sl (List.map cF (((nth (f.kids) (0))).kids)))]])∧H 8=(⟨0,false,false,0,0,[]⟩:Blk)∧H 10=(⟨0,false,false,0,0,[]⟩:Blk)∧H 708=(⟨0,false,false,0,0,[]⟩:Blk)∧True) ?_ ?_
  ·
   by_cases g5:(((nth (f.kids) (0))).op)=(2:Int)
   ·
    refine G_yes (edT g5 rfl) (R_fk rfl rfl (G_yes (edT g5 rfl) (R_lk rfl rfl rfl rfl (G_yes (edT g5 rfl) (R_mv rfl (G_yes (edT g5 rfl) (R_neq rfl rfl ?_)))))))
    refine R_pickT (edT g5 rfl) rfl ?_
    exact ⟨rfl,rfl,rfl,(dec_andT g5),rfl,rfl,rfl,rfl,rfl,rfl,trivial⟩
   ·
    refine G_n (edF g5 rfl) (G_n (edF g5 rfl) (G_n (edF g5 rfl) (G_n (edF g5 rfl) (R_pickF (edF g5 rfl) rfl ?_))))
    exact ⟨rfl,rfl,rfl,(dec_andF g5),rfl,rfl,rfl,rfl,rfl,rfl,trivial⟩
  intro T H ⟨t2,t6,t7,t41,h3,h6,h7,h8,h10,h708,_⟩
  refine R_mv t41 ?_
  refine Ops_seg 10 (fun T H=>T 6=(V.mp 6 1 0 0)∧T 52=(V.bool (decide ((((((nth (f.kids) (0))).op)=(2:Int))∧((((nth (f.kids) (0))).arg)≠(a)))∨(((((nth (f.kids) (0))).op)=(3:Int))∧((((nth (f.kids) (0))).arg)≠(o))))))∧H 3=(bk 1 24 3 [[(iV (f.op)),(iV (f.arg)),(V.sl (List.map cF (f.kids)))]])∧H 6=(bk 1 24 3 [[(iV (0:Int)),(iV (0:Int)),V.nilsl]])∧H 7=(bk 1 24 3 [[(iV (((nth (f.kids) (0))).op)),(iV (((nth (f.kids) (0))).arg)),(V.sl (List.map cF (((nth (f.kids) (0))).kids)))]])∧H 8=(⟨0,false,false,0,0,[]⟩:Blk)∧H 10=(⟨0,false,false,0,0,[]⟩:Blk)∧H 708=(⟨0,false,false,0,0,[]⟩:Blk)∧True) ?_ ?_
  ·
   by_cases g6:((((nth (f.kids) (0))).op)=(2:Int))∧((((nth (f.kids) (0))).arg)≠(a))
   ·
    refine G_n (edT g6 rfl) (G_n (edT g6 rfl) (G_n (edT g6 rfl) (G_n (edT g6 rfl) (G_raw (@rfl V (V.raw undef)) (G_raw (@rfl V (V.raw undef)) (G_raw (@rfl V (V.raw undef)) (G_raw (@rfl V (V.raw undef)) ?_)))))))
    refine G_n (edT g6 rfl) (R_pickT (edT g6 rfl) rfl ?_)
    exact ⟨t6,(dec_orT g6),h3,h6,h7,h8,h10,h708,trivial⟩
   ·
    refine G_yes (edF g6 rfl) (R_fk t7 h7 (G_yes (edF g6 rfl) (R_lk rfl h7 rfl rfl (G_yes (edF g6 rfl) (R_eql rfl rfl (G_yes (edF g6 rfl) (R_mv rfl ?_)))))))
    refine Ops_seg 5 (fun T H=>T 6=(V.mp 6 1 0 0)∧T 42=(V.bool false)∧T 51=(V.bool (decide (((((nth (f.kids) (0))).op)=(3:Int))∧((((nth (f.kids) (0))).arg)≠(o)))))∧H 3=(bk 1 24 3 [[(iV (f.op)),(iV (f.arg)),(V.sl (List.map cF (f.kids)))]])∧H 6=(bk 1 24 3 [[(iV (0:Int)),(iV (0:Int)),V.nilsl]])∧H 7=(bk 1 24 3 [[(iV (((nth (f.kids) (0))).op)),(iV (((nth (f.kids) (0))).arg)),(V.sl (List.map cF (((nth (f.kids) (0))).kids)))]])∧H 8=(⟨0,false,false,0,0,[]⟩:Blk)∧H 10=(⟨0,false,false,0,0,[]⟩:Blk)∧H 708=(⟨0,false,false,0,0,[]⟩:Blk)∧True) ?_ ?_
    ·
     by_cases g7:(((nth (f.kids) (0))).op)=(3:Int)
     ·
      refine G_yes (edT g7 rfl) (R_fk t7 h7 (G_yes (edT g7 rfl) (R_lk rfl h7 rfl rfl (G_yes (edT g7 rfl) (R_mv t2 (G_yes (edT g7 rfl) (R_neq rfl rfl ?_)))))))
      refine G_yes (edF g6 rfl) (R_pickT (edT g7 rfl) rfl ?_)
      exact ⟨t6,(edF g6 rfl),(dec_andT g7),h3,h6,h7,h8,h10,h708,trivial⟩
     ·
      refine G_n (edF g7 rfl) (G_n (edF g7 rfl) (G_n (edF g7 rfl) (G_n (edF g7 rfl) (G_yes (edF g6 rfl) (R_pickF (edF g7 rfl) rfl ?_)))))
      exact ⟨t6,(edF g6 rfl),(dec_andF g7),h3,h6,h7,h8,h10,h708,trivial⟩
    intro T H ⟨t6,t42,t51,h3,h6,h7,h8,h10,h708,_⟩
    refine R_pickF t42 t51 ?_
    exact ⟨t6,(dec_orF g6),h3,h6,h7,h8,h10,h708,trivial⟩
  intro T H ⟨t6,t52,h3,h6,h7,h8,h10,h708,_⟩
  refine R_callk (truth_pure ((decide ((((((nth (f.kids) (0))).op)=(2:Int))∧((((nth (f.kids) (0))).arg)≠(a)))∨(((((nth (f.kids) (0))).op)=(3:Int))∧((((nth (f.kids) (0))).arg)≠(o))))))) (evcons t52 evnil) (R_sk t6 rfl rfl h6 rfl rfl rfl rfl rfl (R_e (W_ret (y1 _ _ ?_))))
  refine RetC_1 (resV_c (u:=(V.agg [(iV ((trF ((decide ((((((nth (f.kids) (0))).op)=(2:Int))∧((((nth (f.kids) (0))).arg)≠(a)))∨(((((nth (f.kids) (0))).op)=(3:Int))∧((((nth (f.kids) (0))).arg)≠(o))))))).op)),(iV ((trF ((decide ((((((nth (f.kids) (0))).op)=(2:Int))∧((((nth (f.kids) (0))).arg)≠(a)))∨(((((nth (f.kids) (0))).op)=(3:Int))∧((((nth (f.kids) (0))).arg)≠(o))))))).arg)),(V.sl (List.map cF ((trF ((decide ((((((nth (f.kids) (0))).op)=(2:Int))∧((((nth (f.kids) (0))).arg)≠(a)))∨(((((nth (f.kids) (0))).op)=(3:Int))∧((((nth (f.kids) (0))).arg)≠(o))))))).kids)))])) t6 (@rfl Blk (bk 1 24 3 [[(iV ((trF ((decide ((((((nth (f.kids) (0))).op)=(2:Int))∧((((nth (f.kids) (0))).arg)≠(a)))∨(((((nth (f.kids) (0))).op)=(3:Int))∧((((nth (f.kids) (0))).arg)≠(o))))))).op)),(iV ((trF ((decide ((((((nth (f.kids) (0))).op)=(2:Int))∧((((nth (f.kids) (0))).arg)≠(a)))∨(((((nth (f.kids) (0))).op)=(3:Int))∧((((nth (f.kids) (0))).arg)≠(o))))))).arg)),(V.sl (List.map cF ((trF ((decide ((((((nth (f.kids) (0))).op)=(2:Int))∧((((nth (f.kids) (0))).arg)≠(a)))∨(((((nth (f.kids) (0))).op)=(3:Int))∧((((nth (f.kids) (0))).arg)≠(o))))))).kids)))]])) (lB oB rfl rfl)) (fz_agg3 (fz_int ?_) (fz_int ?_) (fz_sl ?_ (fun _=>by simp)))
  · rw [mst_4 (f:=f) (by omega)]; rfl
  · rw [mst_4 (f:=f) (by omega)]; rfl
  · rw [mst_4 (f:=f) (by omega)]; rfl
 refine W_seq_seq (W_r (R_eql rfl rfl (R_mv rfl (R_e ?_))))
 refine W_seq_if rfl (fun c8=>?_) fun c8=>?_
 ·
  refine W_seq_skip ?_
  refine W_if rfl (fun c9=>?_) fun c9=>?_
  ·
   refine W_r (R_fk rfl rfl (R_lk rfl rfl rfl rfl (R_idxu (i:=0) (@rfl V (V.sl (List.map cF (f.kids)))) (@rfl V (iV ((0:Nat):Int))) (by omega) (cF_eq _) rfl (R_load_pp rfl rfl (R_sk rfl rfl rfl rfl rfl rfl rfl rfl rfl (R_e (W_ret ?_)))))))
   refine y1 _ _ ?_
   refine RetC_1 (resV_c (u:=(V.agg [(iV (((nth (f.kids) (0))).op)),(iV (((nth (f.kids) (0))).arg)),(V.sl (List.map cF (((nth (f.kids) (0))).kids)))])) rfl (@rfl Blk (bk 1 24 3 [[(iV (((nth (f.kids) (0))).op)),(iV (((nth (f.kids) (0))).arg)),(V.sl (List.map cF (((nth (f.kids) (0))).kids)))]])) (lB oB rfl rfl)) (fz_agg3 (fz_int ?_) (fz_int ?_) (fz_sl ?_ (fun _=>by simp)))
   · rw [mst_79 (f:=f) (by omega)]
   · rw [mst_79 (f:=f) (by omega)]
   · rw [mst_79 (f:=f) (by omega)]
  · exact (c9 c8).elim
 refine W_r (R_eql rfl rfl (R_mv rfl (R_e ?_)))
 refine W_if rfl (fun c10=>?_) fun c10=>?_
 ·
  refine W_r (R_fk rfl rfl (R_lk rfl rfl rfl rfl (R_idxu (i:=0) (@rfl V (V.sl (List.map cF (f.kids)))) (@rfl V (iV ((0:Nat):Int))) (by omega) (cF_eq _) rfl (R_load_pp rfl rfl (R_sk rfl rfl rfl rfl rfl rfl rfl rfl rfl (R_e (W_ret ?_)))))))
  refine y1 _ _ ?_
  refine RetC_1 (resV_c (u:=(V.agg [(iV (((nth (f.kids) (0))).op)),(iV (((nth (f.kids) (0))).arg)),(V.sl (List.map cF (((nth (f.kids) (0))).kids)))])) rfl (@rfl Blk (bk 1 24 3 [[(iV (((nth (f.kids) (0))).op)),(iV (((nth (f.kids) (0))).arg)),(V.sl (List.map cF (((nth (f.kids) (0))).kids)))]])) (lB oB rfl rfl)) (fz_agg3 (fz_int ?_) (fz_int ?_) (fz_sl ?_ (fun _=>by simp)))
  · rw [mst_79 (f:=f) (by omega)]
  · rw [mst_79 (f:=f) (by omega)]
  · rw [mst_79 (f:=f) (by omega)]
 refine W_r (R_eql rfl rfl (R_mv rfl (R_e ?_)))
 refine W_if rfl (fun c11=>?_) fun c11=>?_
 ·
  refine W_r (R_fk rfl rfl (R_lk rfl rfl rfl rfl (R_idxu (i:=1) (@rfl V (V.sl (List.map cF (f.kids)))) (@rfl V (iV ((1:Nat):Int))) (by omega) (cF_eq _) rfl (R_load_pp rfl rfl (R_mv rfl (R_mv rfl (R_callk (ih (((nth (f.kids) (1)))) ((a)) ((o)) (Fm.sz_kid (by omega)) (hp.2 _ (by omega)) (Nat.le_trans (Nat.le_of_lt (Fm.sz_kid (by omega))) hz)) rfl ?_)))))))
  refine R_fk rfl rfl (R_lk rfl rfl rfl rfl (R_idxu (i:=0) (@rfl V (V.sl (List.map cF (f.kids)))) (@rfl V (iV ((0:Nat):Int))) (by omega) (cF_eq _) rfl (R_load_pp rfl rfl (R_mv rfl (R_mv rfl (R_callk (ih (((nth (f.kids) (0)))) ((a)) ((o)) (Fm.sz_kid (by omega)) (hp.2 _ (by omega)) (Nat.le_trans (Nat.le_of_lt (Fm.sz_kid (by omega))) hz)) rfl (R_lk rfl rfl rfl rfl ?_)))))))
  refine R_bslice rfl rfl (R_callk (mnode_pure ((5:Int)) ([(mst (((nth (f.kids) (0)))) ((a)) ((o))),f])) (evcons rfl (evcons (sl_F2 (x:=((mst (((nth (f.kids) (0)))) ((a)) ((o))))) (y:=f) rfl) evnil)) (R_bslice rfl rfl (R_callk (mnode_pure ((6:Int)) ([(mst (((nth (f.kids) (1)))) ((a)) ((o))),(Fm.nd (5:Int) (0:Int) [(mst (((nth (f.kids) (0)))) ((a)) ((o))),f])])) (evcons rfl (evcons (sl_F2 (x:=((mst (((nth (f.kids) (1)))) ((a)) ((o))))) (y:=((Fm.nd (5:Int) (0:Int) [(mst (((nth (f.kids) (0)))) ((a)) ((o))),f]))) rfl) evnil)) (R_sk rfl rfl rfl rfl rfl rfl rfl rfl rfl (R_e (W_ret (y1 _ _ ?_)))))))
  refine RetC_1 (resV_c (u:=(V.agg [(iV (((6:Int)))),(iV (0:Int)),(V.sl (List.map cF (([(mst (((nth (f.kids) (1)))) ((a)) ((o))),(Fm.nd (5:Int) (0:Int) [(mst (((nth (f.kids) (0)))) ((a)) ((o))),f])]))))])) rfl (@rfl Blk (bk 1 24 3 [[(iV (((6:Int)))),(iV (0:Int)),(V.sl (List.map cF (([(mst (((nth (f.kids) (1)))) ((a)) ((o))),(Fm.nd (5:Int) (0:Int) [(mst (((nth (f.kids) (0)))) ((a)) ((o))),f])]))))]])) (lB oB rfl rfl)) (fz_agg3 (fz_int ?_) (fz_int ?_) (fz_sl ?_ (fun _=>by simp)))
  · rw [mst_8 (f:=f) (by omega) (by omega)]; rfl
  · rw [mst_8 (f:=f) (by omega) (by omega)]; rfl
  · rw [mst_8 (f:=f) (by omega) (by omega)]; rfl
 refine W_r (R_eql rfl rfl (R_mv rfl (R_e ?_)))
 refine W_if rfl (fun c12=>?_) fun c12=>?_
 ·
  refine W_r (R_fk rfl rfl (R_lk rfl rfl rfl rfl (R_idxu (i:=1) (@rfl V (V.sl (List.map cF (f.kids)))) (@rfl V (iV ((1:Nat):Int))) (by omega) (cF_eq _) rfl (R_load_pp rfl rfl (R_mv rfl (R_mv rfl (R_callk (ih (((nth (f.kids) (1)))) ((a)) ((o)) (Fm.sz_kid (by omega)) (hp.2 _ (by omega)) (Nat.le_trans (Nat.le_of_lt (Fm.sz_kid (by omega))) hz)) rfl ?_)))))))
  refine R_fk rfl rfl (R_lk rfl rfl rfl rfl (R_idxu (i:=0) (@rfl V (V.sl (List.map cF (f.kids)))) (@rfl V (iV ((0:Nat):Int))) (by omega) (cF_eq _) rfl (R_load_pp rfl rfl (R_mv rfl (R_mv rfl (R_callk (ih (((nth (f.kids) (0)))) ((a)) ((o)) (Fm.sz_kid (by omega)) (hp.2 _ (by omega)) (Nat.le_trans (Nat.le_of_lt (Fm.sz_kid (by omega))) hz)) rfl (R_lk rfl rfl rfl rfl ?_)))))))
  refine R_bslice rfl rfl (R_callk (mnode_pure ((6:Int)) ([(mst (((nth (f.kids) (0)))) ((a)) ((o))),f])) (evcons rfl (evcons (sl_F2 (x:=((mst (((nth (f.kids) (0)))) ((a)) ((o))))) (y:=f) rfl) evnil)) (R_bslice rfl rfl (R_callk (mnode_pure ((5:Int)) ([(mst (((nth (f.kids) (1)))) ((a)) ((o))),(Fm.nd (6:Int) (0:Int) [(mst (((nth (f.kids) (0)))) ((a)) ((o))),f])])) (evcons rfl (evcons (sl_F2 (x:=((mst (((nth (f.kids) (1)))) ((a)) ((o))))) (y:=((Fm.nd (6:Int) (0:Int) [(mst (((nth (f.kids) (0)))) ((a)) ((o))),f]))) rfl) evnil)) (R_sk rfl rfl rfl rfl rfl rfl rfl rfl rfl (R_e (W_ret (y1 _ _ ?_)))))))
  refine RetC_1 (resV_c (u:=(V.agg [(iV (((5:Int)))),(iV (0:Int)),(V.sl (List.map cF (([(mst (((nth (f.kids) (1)))) ((a)) ((o))),(Fm.nd (6:Int) (0:Int) [(mst (((nth (f.kids) (0)))) ((a)) ((o))),f])]))))])) rfl (@rfl Blk (bk 1 24 3 [[(iV (((5:Int)))),(iV (0:Int)),(V.sl (List.map cF (([(mst (((nth (f.kids) (1)))) ((a)) ((o))),(Fm.nd (6:Int) (0:Int) [(mst (((nth (f.kids) (0)))) ((a)) ((o))),f])]))))]])) (lB oB rfl rfl)) (fz_agg3 (fz_int ?_) (fz_int ?_) (fz_sl ?_ (fun _=>by simp)))
  · rw [mst_10 (f:=f) (by omega) (by omega)]; rfl
  · rw [mst_10 (f:=f) (by omega) (by omega)]; rfl
  · rw [mst_10 (f:=f) (by omega) (by omega)]; rfl
 refine W_skip (n1 _ _ (.done (W_r (R_fk rfl rfl (R_lk rfl rfl rfl rfl (R_build rfl rfl (R_alloc (i:=8) (n:=0) (m:=3) rfl (congrArg Blk.ver rfl) rfl ?_)))))))
 refine R_sk rfl rfl rfl rfl rfl rfl rfl rfl rfl (R_e (W_seq_seq ?_))
 refine W_seq_g (fun T H=>T 1=(iV (a))∧T 2=(iV (o))∧T 6=(V.mp 6 1 0 0)∧T 8=(V.mp 8 1 0 0)∧T 107=(V.sl (List.map cF (f.kids)))∧T 108=(iV ((f.kids.length:Nat):Int))∧T 109=(iV (0:Int))∧H 3=(bk 1 24 3 [[(iV (f.op)),(iV (f.arg)),(V.sl (List.map cF (f.kids)))]])∧H 6=(bk 1 24 3 [[(iV (0:Int)),(iV (0:Int)),V.nilsl]])∧H 7=(⟨0,false,false,0,0,[]⟩:Blk)∧H 8=(bk 1 24 3 [[(iV (f.op)),(iV (0:Int)),V.nilsl]])∧H 10=(⟨0,false,false,0,0,[]⟩:Blk)∧H 708=(⟨0,false,false,0,0,[]⟩:Blk)∧True) ?_ ?_
 ·
  refine R_fk rfl rfl (R_lk rfl rfl rfl rfl (R_len rfl (R_mv rfl ?_)))
  exact R_nil ⟨rfl,rfl,rfl,rfl,rfl,rfl,rfl,rfl,rfl,rfl,rfl,rfl,rfl,trivial⟩
 intro T H ⟨t1,t2,t6,t8,t107,t108,t109,h3,h6,h7,h8,h10,h708,_⟩
 refine .lazyCell 708 24 3 8 0 2 [(iV (f.op)),(iV (0:Int)),V.nilsl] (by decide) (by rw [h8]; rfl) (by rw [h8]; rfl) rfl (.done ?_)
 refine fork_ (R:=fun T H=>T 1=(iV (a))∧T 2=(iV (o))∧T 6=(V.mp 6 1 0 0)∧T 8=(V.mp 8 1 0 0)∧T 107=(V.sl (List.map cF (f.kids)))∧T 108=(iV ((f.kids.length:Nat):Int))∧T 109=(iV (0:Int))∧H 3=(bk 1 24 3 [[(iV (f.op)),(iV (f.arg)),(V.sl (List.map cF (f.kids)))]])∧H 6=(bk 1 24 3 [[(iV (0:Int)),(iV (0:Int)),V.nilsl]])∧H 7=(⟨0,false,false,0,0,[]⟩:Blk)∧H 8=(bk 1 24 3 [[(iV (f.op)),(iV (0:Int)),(V.ms 708 1 0 (0))]])∧H 10=(⟨0,false,false,0,0,[]⟩:Blk)∧H 708=(bz 1 24 3 [])∧True) ⟨t1,t2,t6,t8,t107,t108,t109,((upd_ne _ _ (by decide)).trans ((upd_ne _ _ (by decide)).trans h3)),((upd_ne _ _ (by decide)).trans ((upd_ne _ _ (by decide)).trans h6)),((upd_ne _ _ (by decide)).trans ((upd_ne _ _ (by decide)).trans h7)),(by rw [upd_same,h8,(congrArg Blk.ver h708)]; rfl),((upd_ne _ _ (by decide)).trans ((upd_ne _ _ (by decide)).trans h10)),(by rw [upd_ne _ _ (by decide),upd_same,(congrArg Blk.ver h708)]),trivial⟩ ?_
 intro T H ⟨t1,t2,t6,t8,t107,t108,t109,h3,h6,h7,h8,h10,h708,_⟩
 refine W_seq_blockg fun Q13 n13 x13 y13 z13=>?_
 refine W_loop (fun mm T H=> ∃ (k:Nat) (w:Nat) (v10:Nat),mm=f.kids.length - k∧T 1=(iV (a))∧T 2=(iV (o))∧T 6=(V.mp 6 1 0 0)∧T 8=(V.mp 8 1 0 0)∧T 107=(V.sl (List.map cF (f.kids)))∧T 108=(iV ((f.kids.length:Nat):Int))∧T 109=(iV ((k:Nat):Int))∧H 3=(bk 1 24 3 [[(iV (f.op)),(iV (f.arg)),(V.sl (List.map cF (f.kids)))]])∧H 6=(bk 1 24 3 [[(iV (0:Int)),(iV (0:Int)),V.nilsl]])∧H 7=(⟨0,false,false,0,0,[]⟩:Blk)∧H 8=(bk 1 24 3 [[(iV (f.op)),(iV (0:Int)),(V.ms 708 w 0 (k))]])∧(H 10).ver=v10∧H 708=(bz w 24 3 (List.map cF ((f.kids.take k).map (fun g=>mst g a o))))∧(k≤f.kids.length)) ?_ ?_
 ·
  refine ⟨_,0,1,0,rfl,t1,t2,t6,t8,t107,t108,(Eq.trans t109 rfl),h3,h6,h7,h8,(congrArg Blk.ver h10),(Eq.trans h708 (by rfl)),?_⟩
  · omega
 intro mm T H ⟨k,w,v10,hmm,t1,t2,t6,t8,t107,t108,t109,h3,h6,h7,h8,h10,h708,hk⟩ Q14 p114 p214 p314
 unfold b24_0
 refine W_r (R_lss t109 t108 (R_e ?_))
 refine W_seq_if rfl (fun c15=>?_) fun c15=>?_
 ·
  refine W_seq_skip (W_seq_blockg fun Q16 n16 x16 y16 z16=>(W_r (R_idxu (i:=k) t107 t109 (by omega) (cF_eq _) rfl (R_load_pp rfl rfl (R_alloc (i:=10) (n:=v10) (m:=3) rfl h10 rfl (R_sk rfl rfl rfl rfl rfl rfl rfl rfl rfl (R_e ?_)))))))
  refine W_t (R_fk t8 h8 (R_lk rfl h8 rfl rfl (R_lk rfl rfl rfl rfl (R_mv t1 (R_mv t2 (R_callk (ih (((nth (f.kids) (k)))) ((a)) ((o)) (Fm.sz_kid (by omega)) (hp.2 _ (by omega)) (Nat.le_trans (Nat.le_of_lt (Fm.sz_kid (by omega))) hz)) rfl (R_bslice rfl rfl ?_)))))))
  refine R_append1 (l:=((f.kids.take k).map (fun g=>mst g a o))) (f:=cF) (x:=((mst (((nth (f.kids) (k)))) ((a)) ((o))))) (@rfl V (V.ms 708 w 0 (k))) h708 (by (simp; omega)) (row_F1 (x:=((mst (((nth (f.kids) (k)))) ((a)) ((o))))) (@rfl V (V.sl [[(iV ((mst (((nth (f.kids) (k)))) ((a)) ((o))).op)),(iV ((mst (((nth (f.kids) (k)))) ((a)) ((o))).arg)),(V.sl (List.map cF ((mst (((nth (f.kids) (k)))) ((a)) ((o))).kids)))]]))) (cF_len _) (cF_one _) (by omega) (by omega) (R_fk t8 h8 (R_sk rfl rfl rfl h8 rfl rfl rfl rfl rfl (R_e (n16 _ _ (.done (W_t (R_addN t109 (@rfl V (iV ((1:Nat):Int))) (by omega) ?_)))))))
  refine R_mv rfl (R_e ?_)
  refine p114 _ _ _ ?_ ⟨(k+1),(w+1),(v10+1),rfl,t1,t2,t6,t8,t107,t108,(Eq.trans (@rfl V (iV ((k+1:Nat):Int))) (by rfl)),h3,h6,h7,(Eq.trans (@rfl Blk (bk 1 24 3 [[(iV (f.op)),(iV (0:Int)),(V.ms 708 (w+1) 0 (k+1))]])) (by rfl)),(congrArg Blk.ver rfl),(Eq.trans (@rfl Blk (bz (w+1) 24 3 (List.map cF ((f.kids.take k).map (fun g=>mst g a o)++[(mst (((nth (f.kids) (k)))) ((a)) ((o)))])))) (by (rw [mapTake (by omega)]; done))),?_⟩
  · omega
  · omega
 refine W_seq_exit (p314 _ _ _ (x13 _ _ (.done (W_r (R_lk t8 h8 rfl rfl (R_sk t6 rfl rfl h6 rfl rfl rfl rfl rfl (R_e ?_)))))))
 refine W_ret ?_
 refine RetC_1 (resV_c (u:=(V.agg [(iV (f.op)),(iV (0:Int)),(V.ms 708 w 0 (k))])) t6 (@rfl Blk (bk 1 24 3 [[(iV (f.op)),(iV (0:Int)),(V.ms 708 w 0 (k))]])) (lB oB rfl rfl)) (fz_agg3 (fz_int ?_) (fz_int ?_) (fz_ms h708 (by simp) (l:=((f.kids.take k).map (fun g=>mst g a o))) rfl (by (simp; omega)) (fun _=>by simp) ?_))
 · rw [mst_n (f:=f) (by omega)]; rfl
 · rw [mst_n (f:=f) (by omega)]; rfl
 · rw [mst_n (f:=f) (by omega),show k=f.kids.length by omega,List.take_length]; rfl
theorem after_pure (f:Fm) (a o:Int) (hok:okF f=true) (hz:f.sz≤4096):PureC Tryd.prog 24 [(V.agg [(iV (f.op)),(iV (f.arg)),(V.sl (List.map cF (f.kids)))]),(iV (a)),(iV (o))] (V.agg [(iV ((mst f a o).op)),(iV ((mst f a o).arg)),(V.sl (List.map cF ((mst f a o).kids)))]):=by
  have key: ∀ (mm:Nat) (f:Fm) (a o:Int),f.sz < mm→okF f=true→f.sz≤4096→PureC Tryd.prog 24 [(V.agg [(iV (f.op)),(iV (f.arg)),(V.sl (List.map cF (f.kids)))]),(iV (a)),(iV (o))] (V.agg [(iV ((mst f a o).op)),(iV ((mst f a o).arg)),(V.sl (List.map cF ((mst f a o).kids)))]):=by
    intro mm
    induction mm with
    |zero=>intro f a o hlt; exact absurd hlt (Nat.not_lt_zero _)
    | succ mm ih =>
      intro f a o hlt hok hz
      exact after_pure_step f a o hok hz fun f2 a2 o2 hlt2=>ih f2 a2 o2 (by omega)
  exact key (f.sz+1) f a o (Nat.lt_succ_self _) hok hz
theorem mstep_pure (f:Fm) (a o:Int):PureC Tryd.prog 11 [(V.agg [(iV (f.op)),(iV (f.arg)),(V.sl (List.map cF (f.kids)))]),(iV (a)),(iV (o))] (V.tup [(V.agg [(iV ((stM f a o).1.op)),(iV ((stM f a o).1.arg)),(V.sl (List.map cF ((stM f a o).1.kids)))]),(iV ((stM f a o).2))]):=by
 refine pW Tryd.func11 s11_ok fun hB=>?_
 unfold s11
 dsimp only
 refine W_r (R_box (i:=3) (n:=0) (m:=3) (cs:=[(iV (f.op)),(iV (f.arg)),(V.sl (List.map cF (f.kids)))]) rfl (congrArg Blk.ver rfl) rfl rfl rfl (R_alloc (i:=6) (n:=0) (m:=3) rfl (congrArg Blk.ver rfl) rfl (R_mv rfl (R_e (W_seq_seq (W_r (R_lk rfl rfl rfl rfl ?_)))))))
 refine R_callk (fvalid_pure f) rfl (R_mv rfl (R_e (W_seq_seq (W_r (R_mv rfl (R_neq rfl rfl (R_e ?_)))))))
 refine W_seq_if rfl (fun c1=>?_) fun c1=>?_
 ·
  have d1:=stM_e (a:=a) (o:=o) c1
  refine W_seq_seq (W_r (R_build rfl rfl (R_mv rfl (R_sk rfl rfl rfl rfl rfl rfl rfl rfl rfl (R_mv rfl (R_e (W_seq_ret ?_)))))))
  refine RetC_2 (resV_c (u:=(V.agg [(iV (0:Int)),(iV (0:Int)),V.nilsl])) rfl (@rfl Blk (bk 1 24 3 [[(iV (0:Int)),(iV (0:Int)),V.nilsl]])) (lB oB rfl rfl)) (resV_t (@rfl V (iV (fval f)))) (fz_agg3 (fz_int ?_) (fz_int ?_) (fz_nil ?_)) (fz_int ?_)
  · rw [d1]; rfl
  · rw [d1]; rfl
  · rw [d1]; rfl
  · rw [d1]
 have d0:=c1
 refine W_seq_skip (W_seq_seq (W_r (R_mv rfl (R_lss rfl rfl (R_mv rfl ?_)))))
 refine Ops_seg 3 (fun T H=>T 1=(iV (a))∧T 2=(iV (o))∧T 3=(V.mp 3 1 0 0)∧T 6=(V.mp 6 1 0 0)∧T 22=(V.bool (decide (((a) < (0:Int))∨((64:Int)≤(a)))))∧H 3=(bk 1 24 3 [[(iV (f.op)),(iV (f.arg)),(V.sl (List.map cF (f.kids)))]])∧H 6=(bk 1 24 3 [[(iV (0:Int)),(iV (0:Int)),V.nilsl]])∧H 9=(⟨0,false,false,0,0,[]⟩:Blk)∧True) ?_ ?_
 ·
  by_cases g2:(a) < (0:Int)
  ·
   refine G_n (edT g2 rfl) (G_n (edT g2 rfl) (R_pickT (edT g2 rfl) rfl ?_))
   exact ⟨rfl,rfl,rfl,rfl,(dec_orT g2),rfl,rfl,rfl,trivial⟩
  ·
   refine G_yes (edF g2 rfl) (R_mv rfl (G_yes (edF g2 rfl) (R_geq rfl rfl (R_pickF (edF g2 rfl) rfl ?_))))
   exact ⟨rfl,rfl,rfl,rfl,(dec_orF g2),rfl,rfl,rfl,trivial⟩
 intro T H ⟨t1,t2,t3,t6,t22,h3,h6,h9,_⟩
 refine R_mv t22 ?_
 refine Ops_seg 3 (fun T H=>T 1=(iV (a))∧T 2=(iV (o))∧T 3=(V.mp 3 1 0 0)∧T 6=(V.mp 6 1 0 0)∧T 26=(V.bool (decide ((((a) < (0:Int))∨((64:Int)≤(a)))∨((o) < (0:Int)))))∧H 3=(bk 1 24 3 [[(iV (f.op)),(iV (f.arg)),(V.sl (List.map cF (f.kids)))]])∧H 6=(bk 1 24 3 [[(iV (0:Int)),(iV (0:Int)),V.nilsl]])∧H 9=(⟨0,false,false,0,0,[]⟩:Blk)∧True) ?_ ?_
 ·
  by_cases g3:((a) < (0:Int))∨((64:Int)≤(a))
  ·
   refine G_n (edT g3 rfl) (G_n (edT g3 rfl) (R_pickT (edT g3 rfl) rfl ?_))
   exact ⟨t1,t2,t3,t6,(dec_orT g3),h3,h6,h9,trivial⟩
  ·
   refine G_yes (edF g3 rfl) (R_mv t2 (G_yes (edF g3 rfl) (R_lss rfl rfl (R_pickF (edF g3 rfl) rfl ?_))))
   exact ⟨t1,t2,t3,t6,(dec_orF g3),h3,h6,h9,trivial⟩
 intro T H ⟨t1,t2,t3,t6,t26,h3,h6,h9,_⟩
 refine R_mv t26 ?_
 refine Ops_seg 3 (fun T H=>T 1=(iV (a))∧T 2=(iV (o))∧T 3=(V.mp 3 1 0 0)∧T 6=(V.mp 6 1 0 0)∧T 30=(V.bool (decide (((((a) < (0:Int))∨((64:Int)≤(a)))∨((o) < (0:Int)))∨((1048576:Int) < (o)))))∧H 3=(bk 1 24 3 [[(iV (f.op)),(iV (f.arg)),(V.sl (List.map cF (f.kids)))]])∧H 6=(bk 1 24 3 [[(iV (0:Int)),(iV (0:Int)),V.nilsl]])∧H 9=(⟨0,false,false,0,0,[]⟩:Blk)∧True) ?_ ?_
 ·
  by_cases g4:(((a) < (0:Int))∨((64:Int)≤(a)))∨((o) < (0:Int))
  ·
   refine G_n (edT g4 rfl) (G_n (edT g4 rfl) (R_pickT (edT g4 rfl) rfl ?_))
   exact ⟨t1,t2,t3,t6,(dec_orT g4),h3,h6,h9,trivial⟩
  ·
   refine G_yes (edF g4 rfl) (R_mv t2 (G_yes (edF g4 rfl) (R_gtr rfl rfl (R_pickF (edF g4 rfl) rfl ?_))))
   exact ⟨t1,t2,t3,t6,(dec_orF g4),h3,h6,h9,trivial⟩
 intro T H ⟨t1,t2,t3,t6,t30,h3,h6,h9,_⟩
 refine R_e ?_
 refine W_seq_if t30 (fun c5=>?_) fun c5=>?_
 ·
  have d1:=stM_r (a:=a) (o:=o) d0 (by omega)
  refine W_seq_seq (W_r (R_build rfl rfl (R_sk t6 rfl rfl h6 rfl rfl rfl rfl rfl (R_mv rfl (R_e (W_seq_ret ?_))))))
  refine RetC_2 (resV_c (u:=(V.agg [(iV (0:Int)),(iV (0:Int)),V.nilsl])) t6 (@rfl Blk (bk 1 24 3 [[(iV (0:Int)),(iV (0:Int)),V.nilsl]])) (lB oB rfl rfl)) (resV_t (@rfl V (iV (2:Int)))) (fz_agg3 (fz_int ?_) (fz_int ?_) (fz_nil ?_)) (fz_int ?_)
  · rw [d1]; rfl
  · rw [d1]; rfl
  · rw [d1]; rfl
  · rw [d1]
 have d2: ¬(a < 0∨64≤a∨o < 0∨1048576 < o):=by omega
 refine W_seq_skip (W_r (R_lk t3 h3 rfl rfl (R_callk (simplify_pure f) rfl (R_mv rfl (R_ext rfl rfl (R_ext rfl rfl (R_alloc (i:=9) (n:=0) (m:=3) rfl (congrArg Blk.ver h9) rfl ?_)))))))
 refine R_sk rfl rfl rfl rfl rfl rfl rfl rfl rfl (R_mv rfl (R_e (W_seq_seq (W_r (R_mv rfl (R_neq rfl rfl (R_e ?_)))))))
 refine W_seq_if rfl (fun c6=>?_) fun c6=>?_
 ·
  have d1:=stM_s d0 d2 c6
  refine W_seq_seq (W_r (R_build rfl rfl (R_mv rfl (R_sk t6 rfl rfl h6 rfl rfl rfl rfl rfl (R_mv rfl (R_e (W_seq_ret ?_)))))))
  refine RetC_2 (resV_c (u:=(V.agg [(iV (0:Int)),(iV (0:Int)),V.nilsl])) t6 (@rfl Blk (bk 1 24 3 [[(iV (0:Int)),(iV (0:Int)),V.nilsl]])) (lB oB rfl rfl)) (resV_t (@rfl V (iV ((simp_ f).2)))) (fz_agg3 (fz_int ?_) (fz_int ?_) (fz_nil ?_)) (fz_int ?_)
  · rw [d1]; rfl
  · rw [d1]; rfl
  · rw [d1]; rfl
  · rw [d1]
 have d1:=stM_g d0 d2 c6
 have v1:=simp_val c6
 have v2:=simp_nn d0 c6
 refine W_seq_skip (W_r (R_lk rfl rfl rfl rfl (R_mv t1 (R_mv t2 (R_callk (after_pure ((simp_ f).1) ((a)) ((o)) v2.1 (fval_sz v1)) rfl (R_callk (checked_pure ((mst ((simp_ f).1) ((a)) ((o)))) (mst_ok _ a o v2.1 v2.2).1 (mst_sz2 v2.1 (fval_sz v1))) rfl (R_ext rfl rfl ?_)))))))
 refine R_ext rfl rfl (R_sk t6 rfl rfl h6 rfl rfl rfl rfl rfl (R_mv rfl (R_e (W_ret ?_))))
 refine RetC_2 (resV_c (u:=(V.agg [(iV ((chk ((mst ((simp_ f).1) ((a)) ((o))))).1.op)),(iV ((chk ((mst ((simp_ f).1) ((a)) ((o))))).1.arg)),(V.sl (List.map cF ((chk ((mst ((simp_ f).1) ((a)) ((o))))).1.kids)))])) t6 (@rfl Blk (bk 1 24 3 [[(iV ((chk ((mst ((simp_ f).1) ((a)) ((o))))).1.op)),(iV ((chk ((mst ((simp_ f).1) ((a)) ((o))))).1.arg)),(V.sl (List.map cF ((chk ((mst ((simp_ f).1) ((a)) ((o))))).1.kids)))]])) (lB oB rfl rfl)) (resV_t (@rfl V (iV ((chk ((mst ((simp_ f).1) ((a)) ((o))))).2)))) (fz_agg3 (fz_int ?_) (fz_int ?_) (fz_sl ?_ (fun _=>by simp))) (fz_int ?_)
 · rw [d1]
 · rw [d1]
 · rw [d1]
 · rw [d1]
def s12:SF:=⟨12,[.tmp 2,.tmp 3],.seq (.reg [sO 1 (.box 24 3 (.t 0)),sO 2 (.mv (.c (.bool false))),qI 3 0]) (.seq (.seq (.reg [qL 5 3 1,sO 6 (.call false 21 [.t 5]),qM 4 6]) (.seq (.reg [qM 7 4,qC 8 .neq 7 0]) (.cond (.t 8) (.seq (.reg [qM 9 4,sO 2 (.mv (.c (.bool false))),qM 3 9]) (.ret)) (.skip)))) (.seq (.reg [qL 10 3 1,sO 11 (.call false 25 [.t 10]),qM 2 11,qI 3 0]) (.ret)))⟩
theorem s12_ok:slimF Tryd.prog ⟨[32,48,55,93,94,95,100],[],[],[]⟩ Tryd.f12=some s12:=by kernel_rfl
def r25_6:List SO:=[
 qF 10 2 1,
 ql 11 10,
 sO 12 (.idx 3 (.t 11) (.c (.int .i64 0))),
 qL 13 3 12,
 sO 14 (.call false 25 [.t 13]),
 sO 15 (.un .not (.t 14)),
 qM 2 15]
def r25_8:List SO:=[
 qF 18 2 1,
 ql 19 18,
 sO 20 (.call false 39 [.t 19,.c (.fn 25 [] [])]),
 qF 21 2 1,
 ql 22 21,
 qN 23 22,
 qP 24 .eql 20 23,
 qM 2 24]
def s25:SF:=⟨39,[.tmp 2],.seq (.reg [sO 1 (.box 24 3 (.t 0)),sO 2 (.mv (.c (.bool false)))]) (.seq (.seq (.reg [qF 3 0 1,ql 4 3]) (.block 0 (.seq (.seq (.reg [qC 6 .eql 4 1,qM 5 6]) (.cond (.t 5) (.skip) (.reg [qC 7 .eql 4 9,qM 5 7]))) (.cond (.t 5) (.seq (.reg [sO 2 (.mv (.c (.bool true)))]) (.ret)) (.seq (.reg [qC 9 .eql 4 4,qM 8 9]) (.cond (.t 8) (.seq (.reg r25_6) (.ret)) (.seq (.reg [qC 17 .eql 4 5,qM 16 17]) (.cond (.t 16) (.seq (.reg r25_8) (.ret)) (.seq (.reg [qC 26 .eql 4 6,qM 25 26]) (.cond (.t 25) (.seq (.reg [qF 27 2 1,ql 28 27,sO 29 (.call false 39 [.t 28,.c (.fn 25 [] [])]),qC 30 .gtr 29 0,qM 2 30]) (.ret)) (.seq (.seq (.reg [qC 32 .eql 4 8,qM 31 32]) (.cond (.t 31) (.skip) (.reg [qC 33 .eql 4 10,qM 31 33]))) (.cond (.t 31) (.seq (.reg [qF 34 2 1,ql 35 34,sO 36 (.idx 3 (.t 35) (.c (.int .i64 1))),qL 37 3 36,sO 38 (.call false 25 [.t 37]),qM 2 38]) (.ret)) (.skip))))))))))))) (.seq (.reg [sO 2 (.mv (.c (.bool false)))]) (.ret)))⟩
theorem s25_ok:slimF Tryd.prog ⟨[32,48,55,93,94,95,100],[],[],[]⟩ Tryd.f25=some s25:=by kernel_rfl
theorem ends_pure_step (f:Fm) (hf:okF f=true) (hz:f.sz≤4096) (ih: ∀ (g:Fm),g.sz < f.sz→okF g=true→g.sz≤4096→PureC Tryd.prog 25 [(V.agg [(iV (g.op)),(iV (g.arg)),(V.sl (List.map cF (g.kids)))])] (V.bool (sat t0 g 0))):PureC Tryd.prog 25 [(V.agg [(iV (f.op)),(iV (f.arg)),(V.sl (List.map cF (f.kids)))])] (V.bool (sat t0 f 0)):=by
 refine pW Tryd.func25 s25_ok fun hB=>?_
 unfold s25
 dsimp only
 have hp:=okF_parts hf
 have hr:=rgt_ok hp.1
 have hln:=f.sz_len
 refine W_r (R_box (i:=1) (n:=0) (m:=3) (cs:=[(iV (f.op)),(iV (f.arg)),(V.sl (List.map cF (f.kids)))]) rfl (congrArg Blk.ver rfl) rfl rfl rfl (R_mv rfl (R_e (W_seq_seq (W_r (R_fk rfl rfl (R_lk rfl rfl rfl rfl ?_)))))))
 refine R_e (W_seq_blockg fun Q1 n1 x1 y1 z1=>(W_seq_seq (W_r (R_eql rfl rfl (R_mv rfl (R_e ?_))))))
 refine W_seq_if rfl (fun c2=>?_) fun c2=>?_
 ·
  refine W_seq_skip ?_
  refine W_if rfl (fun c3=>?_) fun c3=>?_
  ·
   refine W_r (R_mv rfl (R_e (W_ret (y1 _ _ ?_))))
   refine Ret_1 (@rfl V (V.bool true)) (fz_bool ?_)
   · rw [end_y (by omega)]
  · exact (c3 c2).elim
 refine W_r (R_eql rfl rfl (R_mv rfl (R_e ?_)))
 refine W_if rfl (fun c4=>?_) fun c4=>?_
 ·
  refine W_r (R_mv rfl (R_e (W_ret (y1 _ _ ?_))))
  refine Ret_1 (@rfl V (V.bool true)) (fz_bool ?_)
  · rw [end_y (by omega)]
 refine W_r (R_eql rfl rfl (R_mv rfl (R_e ?_)))
 refine W_if rfl (fun c5=>?_) fun c5=>?_
 ·
  refine W_r (R_fk rfl rfl (R_lk rfl rfl rfl rfl (R_idxu (i:=0) (@rfl V (V.sl (List.map cF (f.kids)))) (@rfl V (iV ((0:Nat):Int))) (by omega) (cF_eq _) rfl (R_load_pp rfl rfl (R_callk (ih (((nth (f.kids) (0)))) (Fm.sz_kid (by omega)) (hp.2 _ (by omega)) (Nat.le_trans (Nat.le_of_lt (Fm.sz_kid (by omega))) hz)) rfl (R_notb rfl (R_mv rfl ?_)))))))
  refine R_e (W_ret (y1 _ _ ?_))
  refine Ret_1 (@rfl V (V.bool ((!sat t0 (((nth (f.kids) (0)))) 0)))) (fz_bool ?_)
  · rw [end_4 hf (by omega)]
 refine W_r (R_eql rfl rfl (R_mv rfl (R_e ?_)))
 refine W_if rfl (fun c6=>?_) fun c6=>?_
 ·
  refine W_r (R_fk rfl rfl (R_lk rfl rfl rfl rfl (R_callk (cntf_pure (fun g=>sat t0 g 0) f.kids 25 ([]) (by simp) (by simp) (fun k h=>ih (nth f.kids k) (Fm.sz_kid h) (hp.2 k h) (Nat.le_trans (Nat.le_of_lt (Fm.sz_kid h)) hz)) (by omega)) rfl (R_fk rfl rfl (R_lk rfl rfl rfl rfl (R_len rfl (R_eql rfl rfl ?_)))))))
  refine R_mv rfl (R_e (W_ret (y1 _ _ ?_)))
  refine Ret_1 (@rfl V (V.bool (decide (((cntP (fun g=>sat t0 g 0) f.kids:Nat):Int)=((f.kids.length:Nat):Int))))) (fz_bool ?_)
  · rw [end_5 (by omega),← cntP_all]
 refine W_r (R_eql rfl rfl (R_mv rfl (R_e ?_)))
 refine W_if rfl (fun c7=>?_) fun c7=>?_
 ·
  refine W_r (R_fk rfl rfl (R_lk rfl rfl rfl rfl (R_callk (cntf_pure (fun g=>sat t0 g 0) f.kids 25 ([]) (by simp) (by simp) (fun k h=>ih (nth f.kids k) (Fm.sz_kid h) (hp.2 k h) (Nat.le_trans (Nat.le_of_lt (Fm.sz_kid h)) hz)) (by omega)) rfl (R_gtr rfl rfl (R_mv rfl (R_e (W_ret ?_)))))))
  refine y1 _ _ ?_
  refine Ret_1 (@rfl V (V.bool (decide ((0:Int) < ((cntP (fun g=>sat t0 g 0) f.kids:Nat):Int))))) (fz_bool ?_)
  · rw [end_6 (by omega),← cntP_any]
 refine W_seq_seq (W_r (R_eql rfl rfl (R_mv rfl (R_e ?_))))
 refine W_seq_if rfl (fun c8=>?_) fun c8=>?_
 ·
  refine W_seq_skip ?_
  refine W_if rfl (fun c9=>?_) fun c9=>?_
  ·
   refine W_r (R_fk rfl rfl (R_lk rfl rfl rfl rfl (R_idxu (i:=1) (@rfl V (V.sl (List.map cF (f.kids)))) (@rfl V (iV ((1:Nat):Int))) (by omega) (cF_eq _) rfl (R_load_pp rfl rfl (R_callk (ih (((nth (f.kids) (1)))) (Fm.sz_kid (by omega)) (hp.2 _ (by omega)) (Nat.le_trans (Nat.le_of_lt (Fm.sz_kid (by omega))) hz)) rfl (R_mv rfl (R_e ?_)))))))
   refine W_ret (y1 _ _ ?_)
   refine Ret_1 (@rfl V (V.bool (sat t0 (((nth (f.kids) (1)))) 0))) (fz_bool ?_)
   · rw [end_u hf (by omega)]
  · exact (c9 c8).elim
 refine W_r (R_eql rfl rfl (R_mv rfl (R_e ?_)))
 refine W_if rfl (fun c10=>?_) fun c10=>?_
 ·
  refine W_r (R_fk rfl rfl (R_lk rfl rfl rfl rfl (R_idxu (i:=1) (@rfl V (V.sl (List.map cF (f.kids)))) (@rfl V (iV ((1:Nat):Int))) (by omega) (cF_eq _) rfl (R_load_pp rfl rfl (R_callk (ih (((nth (f.kids) (1)))) (Fm.sz_kid (by omega)) (hp.2 _ (by omega)) (Nat.le_trans (Nat.le_of_lt (Fm.sz_kid (by omega))) hz)) rfl (R_mv rfl (R_e ?_)))))))
  refine W_ret (y1 _ _ ?_)
  refine Ret_1 (@rfl V (V.bool (sat t0 (((nth (f.kids) (1)))) 0))) (fz_bool ?_)
  · rw [end_u hf (by omega)]
 refine W_skip (n1 _ _ (.done (W_r (R_mv rfl (R_e (W_ret ?_))))))
 refine Ret_1 (@rfl V (V.bool false)) (fz_bool ?_)
 · rw [end_n hf (by omega) (by omega) (by omega) (by omega) (by omega)]
theorem ends_pure (f:Fm) (hf:okF f=true) (hz:f.sz≤4096):PureC Tryd.prog 25 [(V.agg [(iV (f.op)),(iV (f.arg)),(V.sl (List.map cF (f.kids)))])] (V.bool (sat t0 f 0)):=by
  have key: ∀ (mm:Nat) (f:Fm),f.sz < mm→okF f=true→f.sz≤4096→PureC Tryd.prog 25 [(V.agg [(iV (f.op)),(iV (f.arg)),(V.sl (List.map cF (f.kids)))])] (V.bool (sat t0 f 0)):=by
    intro mm
    induction mm with
    |zero=>intro f hlt; exact absurd hlt (Nat.not_lt_zero _)
    | succ mm ih =>
      intro f hlt hf hz
      exact ends_pure_step f hf hz fun f2 hlt2=>ih f2 (by omega)
  exact key (f.sz+1) f (Nat.lt_succ_self _) hf hz
theorem mends_pure (f:Fm):PureC Tryd.prog 12 [(V.agg [(iV (f.op)),(iV (f.arg)),(V.sl (List.map cF (f.kids)))])] (V.tup [(V.bool (hoB t0 f)),(iV (hoE t0 f))]):=by
 refine pW Tryd.func12 s12_ok fun hB=>?_
 unfold s12
 dsimp only
 refine W_r (R_box (i:=1) (n:=0) (m:=3) (cs:=[(iV (f.op)),(iV (f.arg)),(V.sl (List.map cF (f.kids)))]) rfl (congrArg Blk.ver rfl) rfl rfl rfl (R_mv rfl (R_mv rfl (R_e (W_seq_seq (W_r (R_lk rfl rfl rfl rfl ?_)))))))
 refine R_callk (fvalid_pure f) rfl (R_mv rfl (R_e (W_seq_seq (W_r (R_mv rfl (R_neq rfl rfl (R_e ?_)))))))
 refine W_seq_if rfl (fun c1=>?_) fun c1=>?_
 ·
  have h0:hoE t0 f=fval f:=if_pos c1
  have hb0:hoB t0 f=false:=by unfold hoB; rw [h0,decide_eq_false (by omega)]; rfl
  refine W_seq_seq (W_r (R_mv rfl (R_mv rfl (R_mv rfl (R_e (W_seq_ret ?_))))))
  refine Ret_2 (@rfl V (V.bool false)) (@rfl V (iV (fval f))) (fz_bool ?_) (fz_int ?_)
  · rw [hb0]
  · omega
 have h1:fval f=0:=by omega
 have h0:hoE t0 f=0:=by unfold hoE; rw [if_neg (by omega),if_neg (by decide),if_neg (by decide)]
 have hb0:hoB t0 f=sat t0 f 0:=by unfold hoB; rw [h0]; rfl
 refine W_seq_skip (W_r (R_lk rfl rfl rfl rfl (R_callk (ends_pure f (fval_ok h1) (fval_sz h1)) rfl (R_mv rfl (R_mv rfl (R_e (W_ret ?_)))))))
 refine Ret_2 (@rfl V (V.bool (sat t0 f 0))) (@rfl V (iV (0:Int))) (fz_bool ?_) (fz_int ?_)
 · rw [hb0]
 · omega
def r15_4:List SO:=[
 qM 27 1,
 qC 28 .lss 27 1,
 qM 29 28,
 ⟨some (29,false),some 30,.mv (.t 1)⟩,
 ⟨some (29,false),some 31,.bin .gtr (.t 30) (.c (.int .i64 64))⟩,
 sO 32 (.pick (.t 29) (.c (.bool true)) (.t 31)),
 qM 33 32,
 ⟨some (33,false),some 34,.mv (.t 2)⟩,
 ⟨some (33,false),some 35,.bin .lss (.t 34) (.c (.int .i64 1))⟩,
 sO 36 (.pick (.t 33) (.c (.bool true)) (.t 35)),
 qM 37 36,
 ⟨some (37,false),some 38,.mv (.t 2)⟩,
 ⟨some (37,false),some 39,.mv (.t 1)⟩,
 ⟨some (37,false),some 40,.bin .quo (.c (.int .i64 1024)) (.t 39)⟩,
 ⟨some (37,false),some 41,.bin .gtr (.t 38) (.t 40)⟩,
 sO 42 (.pick (.t 37) (.c (.bool true)) (.t 41))]
def r15_6:List SO:=[
 qL 45 3 3,
 sO 46 (.call false 9 [.t 45]),
 qM 44 46,
 qE 47 44 0,
 qE 48 44 1,
 sO 9 (.alloc 24 [.int .i64 0,.int .i64 0,.nilsl]),
 sN (.store 3 (.t 9) (.t 47)),
 qM 10 48]
def r15_15:List SO:=[
 qF 69 3 11,
 ql 70 69,
 qM 71 12,
 qM 72 14,
 qA 73 3 71 72,
 qL 74 3 73,
 sO 75 (.call false 25 [.t 74]),
 sO 76 (.bslice 4 1 false [.bool false] 1 [(0,.t 75)]),
 sO 77 (.append 4 1 1 (.t 70) (.t 76)),
 qF 78 3 11,
 sN (.store 1 (.t 78) (.t 77))]
def r15_20:List SO:=[
 qM 88 12,
 qM 89 14,
 qA 90 3 88 89,
 qL 91 3 90,
 qM 92 16,
 qM 93 2,
 qP 94 .quo 92 93,
 qM 95 16,
 qM 96 2,
 qP 97 .rem 95 96,
 sO 98 (.call false 11 [.t 91,.t 94,.t 97]),
 qM 87 98,
 qE 99 87 0,
 qE 100 87 1,
 sO 17 (.alloc 24 [.int .i64 0,.int .i64 0,.nilsl]),
 sN (.store 3 (.t 17) (.t 99)),
 qM 18 100]
def r15_23:List SO:=[
 qM 106 13,
 qL 107 3 17,
 sO 108 (.call false 27 [.t 107]),
 sO 109 (.mlook 0 true (.int .i64 0) (.t 106) (.t 108)),
 qM 105 109,
 qE 110 105 0,
 qE 111 105 1,
 qM 19 110,
 qM 20 111]
def b15_1:SC:=.seq (.reg [qP 85 .lss 84 83]) (.seq (.cond (.t 85) (.skip) (.exit 2)) (.seq (.block 3 (.seq (.reg [qM 86 84,qM 16 86]) (.seq (.dreg [17] r15_20) (.seq (.seq (.reg [qM 101 18,qC 102 .neq 101 0]) (.cond (.t 102) (.seq (.reg [sO 103 (.build [.int .i64 0,.int .i64 0,.nilsl,.nilsl] []),qM 104 18,sN (.store 4 (.t 6) (.t 103)),qM 7 104]) (.ret)) (.skip))) (.seq (.reg r15_23) (.seq (.seq (.reg [qM 112 20,sO 113 (.un .not (.t 112))]) (.cond (.t 113) (.seq (.reg [qM 114 12,qN 115 114,qM 19 115]) (.seq (.seq (.reg [qM 116 19,qC 117 .geq 116 128]) (.cond (.t 117) (.seq (.reg [sO 118 (.build [.int .i64 0,.int .i64 0,.nilsl,.nilsl] []),sN (.store 4 (.t 6) (.t 118)),qI 7 11]) (.ret)) (.skip))) (.seq (.reg [qM 119 13,qL 120 3 17,sO 121 (.call false 27 [.t 120]),qM 122 19,sN (.mset 0 (.t 119) (.t 121) (.t 122))]) (.reg [qM 123 12,qL 124 3 17,sO 125 (.bslice 24 3 false [.int .i64 0,.int .i64 0,.nilsl] 1 [(0,.t 124)]),sO 126 (.append 24 3 40 (.t 123) (.t 125)),qM 12 126])))) (.skip))) (.reg [qM 127 15,qM 128 19,sO 129 (.bslice 3 1 false [.int .i64 0] 1 [(0,.t 128)]),sO 130 (.append 3 1 8 (.t 127) (.t 129)),qM 15 130]))))))) (.reg [qC 131 .add 84 1,qM 84 131])))
def r15_32:List SO:=[
 qF 132 2 11,
 ql 133 132,
 qM 134 15,
 sO 135 (.bslice 25 1 false [.nilsl] 1 [(0,.t 134)]),
 sO 136 (.append 25 1 24 (.t 133) (.t 135)),
 qF 137 2 11,
 sN (.store 1 (.t 137) (.t 136))]
def b15_0:SC:=.seq (.seq (.reg [qM 63 14,qM 64 12,qN 65 64,qP 66 .lss 63 65]) (.cond (.t 66) (.skip) (.exit 0))) (.seq (.block 1 (.seq (.reg r15_15) (.seq (.reg [qF 79 0 11,ql 80 79,sO 81 (.mks 3 1 8 [.int .i64 0] (.c (.int .i64 0)) (.t 80)),qM 15 81]) (.seq (.seq (.reg [qF 82 0 11,ql 83 82,qI 84 0]) (.block 2 (.loop b15_1))) (.reg r15_32))))) (.reg [qM 67 14,qC 68 .add 67 1,qM 14 68]))
def s15:SF:=⟨139,[.cell 6 true 4,.tmp 7],.seq (.reg [sO 3 (.box 24 3 (.t 0)),sO 6 (.alloc 45 [.int .i64 0,.int .i64 0,.nilsl,.nilsl]),qI 7 0]) (.seq (.seq (.reg [qL 21 3 3,sO 22 (.call false 21 [.t 21]),qM 8 22]) (.seq (.reg [qM 23 8,qC 24 .neq 23 0]) (.cond (.t 24) (.seq (.reg [sO 25 (.build [.int .i64 0,.int .i64 0,.nilsl,.nilsl] []),qM 26 8,sN (.store 4 (.t 6) (.t 25)),qM 7 26]) (.ret)) (.skip)))) (.seq (.seq (.reg r15_4) (.cond (.t 42) (.seq (.reg [sO 43 (.build [.int .i64 0,.int .i64 0,.nilsl,.nilsl] []),sN (.store 4 (.t 6) (.t 43)),qI 7 2]) (.ret)) (.skip))) (.seq (.reg r15_6) (.seq (.seq (.reg [qM 49 10,qC 50 .neq 49 0]) (.cond (.t 50) (.seq (.reg [sO 51 (.build [.int .i64 0,.int .i64 0,.nilsl,.nilsl] []),qM 52 10,sN (.store 4 (.t 6) (.t 51)),qM 7 52]) (.ret)) (.skip))) (.seq (.reg [qM 53 1,qM 54 2,qP 55 .mul 53 54,sO 56 (.build [.int .i64 0,.int .i64 0,.nilsl,.nilsl] [(0,1,.t 55)]),sO 11 (.alloc 45 [.int .i64 0,.int .i64 0,.nilsl,.nilsl]),sN (.store 4 (.t 11) (.t 56))]) (.seq (.reg [qL 57 3 9,sO 58 (.bslice 24 3 true [.int .i64 0,.int .i64 0,.nilsl] 1 [(0,.t 57)]),qM 12 58]) (.seq (.reg [sO 59 (.mkmap),qL 60 3 9,sO 61 (.call false 27 [.t 60]),sN (.mset 0 (.t 59) (.t 61) (.c (.int .i64 0))),qM 62 59,qM 13 62]) (.seq (.seq (.reg [qI 14 0]) (.block 0 (.loop b15_0))) (.seq (.reg [qL 138 4 11,sN (.store 4 (.t 6) (.t 138)),qI 7 0]) (.ret))))))))))⟩
theorem s15_ok:slimF Tryd.prog ⟨[32,48,55,93,94,95,100],[58],[],[]⟩ Tryd.f15=some s15:=by kernel_rfl
def r27_1:List SO:=[
 qF 6 0 1,
 ql 7 6,
 sO 8 (.call false 41 [.t 7]),
 sO 9 (.sbin .add (.t 8) (.c (.str [46]))),
 qF 10 1 1,
 ql 11 10,
 sO 12 (.call false 41 [.t 11]),
 sO 13 (.sbin .add (.t 9) (.t 12)),
 sO 14 (.sbin .add (.t 13) (.c (.str [40]))),
 qM 3 14]
def b27_0:SC:=.seq (.reg [qP 19 .lss 18 17]) (.seq (.cond (.t 19) (.skip) (.exit 0)) (.seq (.block 1 (.seq (.reg [qA 20 3 16 18,qL 21 3 20,sO 5 (.alloc 24 [.int .i64 0,.int .i64 0,.nilsl]),sN (.store 3 (.t 5) (.t 21))]) (.reg [qM 22 3,qL 23 3 5,sO 24 (.call false 27 [.t 23]),sO 25 (.sbin .add (.t 22) (.t 24)),qM 3 25]))) (.reg [qC 26 .add 18 1,qM 18 26])))
def s27:SF:=⟨29,[.tmp 2],.seq (.reg [sO 1 (.box 24 3 (.t 0)),sO 2 (.mv (.c (.str [])))]) (.seq (.reg r27_1) (.seq (.seq (.reg [qF 15 2 1,ql 16 15,qN 17 16,qI 18 0]) (.block 0 (.loop b27_0))) (.seq (.reg [qM 27 3,sO 28 (.sbin .add (.t 27) (.c (.str [41]))),qM 2 28]) (.ret))))⟩
theorem s27_ok:slimF Tryd.prog ⟨[32,48,55,93,94,95,100],[],[],[]⟩ Tryd.f27=some s27:=by kernel_rfl
end Go.Proofs.YteehaobohaecmaaDoor
namespace Go.Proofs.YteehaobohaecmaaDoor
open Go Go.Proofs Go.Shelf Go.Lib Go.Sort
theorem step_growN {x:Cx} (hx:Inv x) (k:Nat) (os:Array Obj):let y:Cx:={x with w:=grow (x.w.drewN k) os}; Inv y∧Frame x y:=by
  intro y
  have hlt: ∀ b,b < x.w.heap.size→y.w.heap[b]?=x.w.heap[b]?:=fun b hb=>by
    show (x.w.heap++os)[b]?=_
    exact Array.getElem?_append_left hb
  have hsz:x.w.heap.size≤y.w.heap.size:=by
    show _≤(x.w.heap++os).size
    rw [Array.size_append]; omega
  have hf:Frame x y:=by
    refine ⟨rfl,rfl,rfl,hsz,fun b hb _=>hlt b hb,fun _ h=>h,fun _ h=>.inl h,fun id=>⟨Nat.le_refl _,fun h _=>⟨h,rfl,rfl,fun _=>rfl,fun ho=>⟨rfl,?_⟩⟩⟩,fun _ h=>.inl ⟨h,rfl⟩,Nat.le_add_right _ _,fun _ _ _=>rfl⟩
    unfold rowSize
    rw [hlt _ (hx.lt ho)]
  refine ⟨⟨fun b hb=>Nat.lt_of_lt_of_le (hx.zlt b hb) hsz,hx.zown,fun id ho=>?_,hx.inj,hx.tab_of hf⟩,hf⟩
  obtain ⟨cc,h1,h2,h3,h4⟩:=hx.blk id ho
  exact ⟨cc,by rw [hlt _ (hx.lt ho)]; exact h1,h2,h3,fun r row j v hr hj=>(h4 r row j v hr hj).frame hx hf⟩
theorem itoa_pure {P:Program} {ρ:Go.Shelf.Ren} (L:LaysM.n171 P ρ) (hcf:callable P (ρ.f 171)) (hT:(ρ.g 17,p10C)∈tabs) (n:Int) (h0: -9223372036854775808≤n) (h1:n≤9223372036854775807):
    PureC P (ρ.f 171) [iV n] (.str (itoa n)):=by
  intro H
  refine ⟨hcf,fun x cs hxH hx hr=>?_⟩
  subst hxH
  obtain ⟨c0,rfl⟩: ∃ c0,cs=[c0]:=by
    have:=hr.1
    match cs with
    |[a]=>exact ⟨a,rfl⟩
    |[]=>simp at this
    |_::_::_=>simp at this
  have r0:R x (iV n) c0:=hr.2 0 _ rfl
  have hc0:c0=.int .i64 n:=by unfold iV at r0; cases r0; rfl
  subst hc0
  have htab : TabIs P x.w "internal/strconv.uint64pow10" .u64 pow10Tab := by
    obtain ⟨_,ty,m,h⟩:=hx.tab _ hT
    unfold TabIs World.var?
    rw [L.m17]
    simp only [Option.bind_some]
    rw [show x.w.heap[ρ.g 17]?=_ from h]
    rfl
  refine (Any.strconv_Itoa L n h0 h1 x.w htab).mono fun e w' h=>?_
  obtain ⟨rfl,k,os,rfl⟩:=h
  obtain ⟨g1,g2⟩:=step_growN hx k os
  exact ⟨_,{x with w:=grow (x.w.drewN k) os},rfl,rfl,rfl,g1,.str _,g2⟩
end Go.Proofs.YteehaobohaecmaaDoor
namespace Go.Proofs.YteehaobohaecmaaDoor
open Go Go.Proofs Go.Shelf
def itoRen41:Go.Shelf.Ren:=⟨fun|129=>72|171=>41|243=>50|246=>59|283=>74|284=>75|285=>76|286=>77|317=>87|318=>88|319=>89|320=>90|337=>98|338=>99|n=>n,fun|0=>0|2=>2|3=>3|4=>4|5=>5|9=>9|20=>20|37=>39|46=>94|51=>109|53=>111|171=>112|173=>114|212=>126|213=>127|232=>136|233=>137|n=>n,fun|17=>0|18=>1|19=>2|n=>n⟩
set_option maxRecDepth 100000 in
theorem itoLay41:LaysM.n171 Tryd.prog itoRen41:={
  mixed:=(by kernel_rfl),
  f129:=Tryd.func72.trans (congrArg some (by kernel_rfl)),
  f171:=Tryd.func41.trans (congrArg some (by kernel_rfl)),
  f243:=Tryd.func50.trans (congrArg some (by kernel_rfl)),
  f246:=Tryd.func59.trans (congrArg some (by kernel_rfl)),
  f283:=Tryd.func74.trans (congrArg some (by kernel_rfl)),
  f284:=Tryd.func75.trans (congrArg some (by kernel_rfl)),
  f285:=Tryd.func76.trans (congrArg some (by kernel_rfl)),
  f286:=Tryd.func77.trans (congrArg some (by kernel_rfl)),
  f317:=Tryd.func87.trans (congrArg some (by kernel_rfl)),
  f318:=Tryd.func88.trans (congrArg some (by kernel_rfl)),
  f319:=Tryd.func89.trans (congrArg some (by kernel_rfl)),
  f320:=Tryd.func90.trans (congrArg some (by kernel_rfl)),
  f337:=Tryd.func98.trans (congrArg some (by kernel_rfl)),
  f338:=Tryd.func99.trans (congrArg some (by kernel_rfl)),
  t0:=Tryd.underlying0,
  a0:=Tryd.isAgg0,
  z0:=Tryd.sizeOf0,
  v0:=Tryd.zeroValue0,
  t2:=Tryd.underlying2,
  a2:=Tryd.isAgg2,
  z2:=Tryd.sizeOf2,
  v2:=Tryd.zeroValue2,
  t3:=Tryd.underlying3,
  a3:=Tryd.isAgg3,
  z3:=Tryd.sizeOf3,
  v3:=Tryd.zeroValue3,
  t4:=Tryd.underlying4,
  a4:=Tryd.isAgg4,
  z4:=Tryd.sizeOf4,
  v4:=Tryd.zeroValue4,
  t5:=Tryd.underlying5,
  a5:=Tryd.isAgg5,
  z5:=Tryd.sizeOf5,
  v5:=Tryd.zeroValue5,
  t9:=Tryd.underlying9,
  a9:=Tryd.isAgg9,
  z9:=Tryd.sizeOf9,
  v9:=Tryd.zeroValue9,
  t20:=Tryd.underlying20,
  a20:=Tryd.isAgg20,
  z20:=Tryd.sizeOf20,
  v20:=Tryd.zeroValue20,
  t37:=Tryd.underlying39,
  a37:=Tryd.isAgg39,
  z37:=Tryd.sizeOf39,
  v37:=Tryd.zeroValue39,
  t46:=Tryd.underlying94,
  a46:=Tryd.isAgg94,
  z46:=Tryd.sizeOf94,
  v46:=Tryd.zeroValue94,
  t51:=Tryd.underlying109,
  a51:=Tryd.isAgg109,
  z51:=Tryd.sizeOf109,
  v51:=Tryd.zeroValue109,
  t53:=Tryd.underlying111,
  a53:=Tryd.isAgg111,
  z53:=Tryd.sizeOf111,
  v53:=Tryd.zeroValue111,
  t171:=Tryd.underlying112,
  a171:=Tryd.isAgg112,
  z171:=Tryd.sizeOf112,
  v171:=Tryd.zeroValue112,
  t173:=Tryd.underlying114,
  a173:=Tryd.isAgg114,
  z173:=Tryd.sizeOf114,
  v173:=Tryd.zeroValue114,
  t212:=Tryd.underlying126,
  a212:=Tryd.isAgg126,
  z212:=Tryd.sizeOf126,
  v212:=Tryd.zeroValue126,
  t213:=Tryd.underlying127,
  a213:=Tryd.isAgg127,
  z213:=Tryd.sizeOf127,
  t232:=Tryd.underlying136,
  a232:=Tryd.isAgg136,
  z232:=Tryd.sizeOf136,
  v232:=Tryd.zeroValue136,
  t233:=Tryd.underlying137,
  a233:=Tryd.isAgg137,
  z233:=Tryd.sizeOf137,
  v233:=Tryd.zeroValue137,
  g17:=(by kernel_rfl),
  g18:=(by kernel_rfl),
  g19:=(by kernel_rfl),
  i0:=(by kernel_rfl),
  i2:=(by kernel_rfl),
  i3:=(by kernel_rfl),
  i4:=(by kernel_rfl),
  i5:=(by kernel_rfl),
  i9:=(by kernel_rfl),
  i20:=(by kernel_rfl),
  i37:=(by kernel_rfl),
  i46:=(by kernel_rfl),
  i51:=(by kernel_rfl),
  i53:=(by kernel_rfl),
  i171:=(by kernel_rfl),
  i173:=(by kernel_rfl),
  i212:=(by kernel_rfl),
  i232:=(by kernel_rfl),
  i233:=(by kernel_rfl),
  m17:=(by kernel_rfl),
  m18:=(by kernel_rfl),
  m19:=(by kernel_rfl)}
theorem itoCall41:callable Tryd.prog 41:=⟨_,Tryd.func41,by kernel_rfl,by kernel_rfl⟩
theorem itoa41_pure (n:Int) (h0: -9223372036854775808≤n) (h1:n≤9223372036854775807):PureC Tryd.prog 41 [iV n] (.str (Lib.itoa n)):=itoa_pure itoLay41 itoCall41 (.head _) n h0 h1
end Go.Proofs.YteehaobohaecmaaDoor
namespace Go.Proofs.YteehaobohaecmaaDoor
open Go Go.Proofs
theorem key_pure_step (f:Fm) (hok:okF f=true) (hz:f.sz≤4096) (ih: ∀ (g:Fm),g.sz < f.sz→okF g=true→g.sz≤4096→PureC Tryd.prog 27 [(V.agg [(iV (g.op)),(iV (g.arg)),(V.sl (List.map cF (g.kids)))])] (V.str ((kyF g)))):PureC Tryd.prog 27 [(V.agg [(iV (f.op)),(iV (f.arg)),(V.sl (List.map cF (f.kids)))])] (V.str ((kyF f))):=by
 refine pW Tryd.func27 s27_ok fun hB=>?_
 unfold s27
 dsimp only
 have hp:=okF_parts hok
 have hr:=rgt_ok hp.1
 have hln:=f.sz_len
 have hi1:=itoa_len (n:=f.op) (by omega) (by omega)
 have hi2:=itoa_len (n:=f.arg) (by omega) (by omega)
 refine W_r (R_box (i:=1) (n:=0) (m:=3) (cs:=[(iV (f.op)),(iV (f.arg)),(V.sl (List.map cF (f.kids)))]) rfl (congrArg Blk.ver rfl) rfl rfl rfl (R_mv rfl (R_e (W_r (R_fk rfl rfl (R_lk rfl rfl rfl rfl (R_callk (itoa41_pure f.op (by omega) (by omega)) rfl ?_)))))))
 refine R_sadd (s:=((Lib.itoa f.op))) (t:=([46])) rfl rfl (by (simp only [List.length_append,List.length_cons,List.length_nil]; omega)) (R_fk rfl rfl (R_lk rfl rfl rfl rfl (R_callk (itoa41_pure f.arg (by omega) (by omega)) rfl (R_sadd (s:=((Lib.itoa f.op)++[46])) (t:=((Lib.itoa f.arg))) rfl rfl (by (simp only [List.length_append,List.length_cons,List.length_nil]; omega)) (R_sadd (s:=((Lib.itoa f.op)++[46]++(Lib.itoa f.arg))) (t:=([40])) rfl rfl (by (simp only [List.length_append,List.length_cons,List.length_nil]; omega)) (R_mv rfl (R_e ?_)))))))
 refine W_seq_seq (W_r (R_fk rfl rfl (R_lk rfl rfl rfl rfl (R_len rfl (R_mv rfl (R_e (W_seq_blockg fun Q1 n1 x1 y1 z1=>?_)))))))
 refine W_loop (fun mm T H=> ∃ (k:Nat) (v5:Nat),mm=f.kids.length - k∧T 3=(V.str (Lib.itoa f.op++[46]++Lib.itoa f.arg++[40]++kyL (f.kids.take k)))∧T 16=(V.sl (List.map cF (f.kids)))∧T 17=(iV ((f.kids.length:Nat):Int))∧T 18=(iV ((k:Nat):Int))∧H 1=(bk 1 24 3 [[(iV (f.op)),(iV (f.arg)),(V.sl (List.map cF (f.kids)))]])∧(H 5).ver=v5∧(k≤f.kids.length)) ?_ ?_
 ·
  refine ⟨_,0,0,rfl,(Eq.trans (@rfl V (V.str ((Lib.itoa f.op)++[46]++(Lib.itoa f.arg)++[40]))) (by simp [kyL])),rfl,rfl,(Eq.trans (@rfl V (iV (0:Int))) rfl),rfl,(congrArg Blk.ver rfl),?_⟩
  · omega
 intro mm T H ⟨k,v5,hmm,t3,t16,t17,t18,h1,h5,hk⟩ Q2 p12 p22 p32
 unfold b27_0
 have hq:=ky_bnd hok hz k
 have hq2:k < f.kids.length→(kyF (nth f.kids k)).length≤131072:=fun h=>kyT_len (hp.2 k h) (Nat.le_trans (Nat.le_of_lt (Fm.sz_kid h)) hz)
 refine W_r (R_lss t18 t17 (R_e ?_))
 refine W_seq_if rfl (fun c3=>?_) fun c3=>?_
 ·
  refine W_seq_skip (W_seq_blockg fun Q4 n4 x4 y4 z4=>(W_r (R_idxu (i:=k) t16 t18 (by omega) (cF_eq _) rfl (R_load_pp rfl rfl (R_alloc (i:=5) (n:=v5) (m:=3) rfl h5 rfl (R_sk rfl rfl rfl rfl rfl rfl rfl rfl rfl (R_e ?_)))))))
  refine W_t (R_mv t3 (R_lk rfl rfl rfl rfl (R_callk (ih (((nth (f.kids) (k)))) (Fm.sz_kid (by omega)) (hp.2 _ (by omega)) (Nat.le_trans (Nat.le_of_lt (Fm.sz_kid (by omega))) hz)) rfl (R_sadd (s:=(Lib.itoa f.op++[46]++Lib.itoa f.arg++[40]++kyL (f.kids.take k))) (t:=((kyF (((nth (f.kids) (k))))))) rfl rfl (by (simp only [List.length_append,List.length_cons,List.length_nil]; omega)) (R_mv rfl (R_e (n4 _ _ ?_)))))))
  refine .done (W_t (R_addN t18 (@rfl V (iV ((1:Nat):Int))) (by omega) (R_mv rfl (R_e ?_))))
  refine p12 _ _ _ ?_ ⟨(k+1),(v5+1),rfl,(Eq.trans (@rfl V (V.str (Lib.itoa f.op++[46]++Lib.itoa f.arg++[40]++kyL (f.kids.take k)++(kyF (((nth (f.kids) (k)))))))) (by (rw [kyL_step (by omega),← List.append_assoc]; done))),t16,t17,(Eq.trans (@rfl V (iV ((k+1:Nat):Int))) (by rfl)),h1,(congrArg Blk.ver rfl),?_⟩
  · omega
  · omega
 refine W_seq_exit (p32 _ _ _ (x1 _ _ (.done (W_r (R_mv t3 (R_sadd (s:=(Lib.itoa f.op++[46]++Lib.itoa f.arg++[40]++kyL (f.kids.take k))) (t:=([41])) rfl rfl (by (simp only [List.length_append,List.length_cons,List.length_nil]; omega)) (R_mv rfl ?_)))))))
 refine R_e (W_ret ?_)
 refine Ret_1 (@rfl V (V.str (Lib.itoa f.op++[46]++Lib.itoa f.arg++[40]++kyL (f.kids.take k)++[41]))) (fz_canon (by simp) ?_)
 · rw [kyF_eq,show k=f.kids.length by omega,List.take_length]; simp [List.append_assoc]
theorem key_pure (f:Fm) (hok:okF f=true) (hz:f.sz≤4096):PureC Tryd.prog 27 [(V.agg [(iV (f.op)),(iV (f.arg)),(V.sl (List.map cF (f.kids)))])] (V.str ((kyF f))):=by
  have key: ∀ (mm:Nat) (f:Fm),f.sz < mm→okF f=true→f.sz≤4096→PureC Tryd.prog 27 [(V.agg [(iV (f.op)),(iV (f.arg)),(V.sl (List.map cF (f.kids)))])] (V.str ((kyF f))):=by
    intro mm
    induction mm with
    |zero=>intro f hlt; exact absurd hlt (Nat.not_lt_zero _)
    | succ mm ih =>
      intro f hlt hok hz
      exact key_pure_step f hok hz fun f2 hlt2=>ih f2 (by omega)
  exact key (f.sz+1) f (Nat.lt_succ_self _) hok hz
end Go.Proofs.YteehaobohaecmaaDoor
namespace Go.Proofs.YteehaobohaecmaaDoor
open Go Go.Proofs
attribute [local irreducible] mksV
theorem atm_pure (f:Fm) (i o:Int):PureC Tryd.prog 15 [(V.agg [(iV (f.op)),(iV (f.arg)),(V.sl (List.map cF (f.kids)))]),(iV (i)),(iV (o))] (V.tup [(V.agg [(iV ((atm f i o).1.inp)),(iV ((atm f i o).1.st)),(intss ((atm f i o).1.nx)),(V.sl (List.map cB ((atm f i o).1.ac)))]),(iV ((atm f i o).2))]):=by
 refine pW Tryd.func15 s15_ok fun hB=>?_
 unfold s15
 dsimp only
 refine W_r (R_box (i:=3) (n:=0) (m:=3) (cs:=[(iV (f.op)),(iV (f.arg)),(V.sl (List.map cF (f.kids)))]) rfl (congrArg Blk.ver rfl) rfl rfl rfl (R_alloc (i:=6) (n:=0) (m:=4) rfl (congrArg Blk.ver rfl) rfl (R_mv rfl (R_e (W_seq_seq (W_r (R_lk rfl rfl rfl rfl ?_)))))))
 refine R_callk (fvalid_pure f) rfl (R_mv rfl (R_e (W_seq_seq (W_r (R_mv rfl (R_neq rfl rfl (R_e ?_)))))))
 refine W_seq_if rfl (fun c1=>?_) fun c1=>?_
 ·
  have d1:=atm_e (i:=i) (o:=o) c1
  refine W_seq_seq (W_r (R_build rfl rfl (R_mv rfl (R_sk rfl rfl rfl rfl rfl rfl rfl rfl rfl (R_mv rfl (R_e (W_seq_ret ?_)))))))
  refine RetC_2 (resV_c (u:=(V.agg [(iV (0:Int)),(iV (0:Int)),V.nilsl,V.nilsl])) rfl (@rfl Blk (bk 1 45 4 [[(iV (0:Int)),(iV (0:Int)),V.nilsl,V.nilsl]])) (lB oB rfl rfl)) (resV_t (@rfl V (iV (fval f)))) (fz_aggL (mcons (fz_int ?_) (mcons (fz_int ?_) (mcons (fz_nil ?_) (mcons (fz_nil ?_) rfl))))) (fz_int ?_)
  · rw [d1]; try rfl
  · rw [d1]; try rfl
  · rw [d1]; try rfl
  · rw [d1]; try rfl
  · rw [d1]; try rfl
 have d0:=c1
 refine W_seq_skip (W_seq_seq (W_r (R_mv rfl (R_lss rfl rfl (R_mv rfl ?_)))))
 refine Ops_seg 3 (fun T H=>T 1=(iV (i))∧T 2=(iV (o))∧T 3=(V.mp 3 1 0 0)∧T 6=(V.mp 6 1 0 0)∧T 32=(V.bool (decide (((i) < (1:Int))∨((64:Int) < (i)))))∧H 3=(bk 1 24 3 [[(iV (f.op)),(iV (f.arg)),(V.sl (List.map cF (f.kids)))]])∧H 6=(bk 1 45 4 [[(iV (0:Int)),(iV (0:Int)),V.nilsl,V.nilsl]])∧H 9=(⟨0,false,false,0,0,[]⟩:Blk)∧H 11=(⟨0,false,false,0,0,[]⟩:Blk)∧H 17=(⟨0,false,false,0,0,[]⟩:Blk)∧H 58=(⟨0,false,false,0,0,[]⟩:Blk)∧H 59=(⟨0,false,false,0,0,[]⟩:Blk)∧H 81=(⟨0,false,false,0,0,[]⟩:Blk)∧H 811=(⟨0,false,false,0,0,[]⟩:Blk)∧H 812=(⟨0,false,false,0,0,[]⟩:Blk)∧True) ?_ ?_
 ·
  by_cases g2:(i) < (1:Int)
  ·
   refine G_n (edT g2 rfl) (G_n (edT g2 rfl) (R_pickT (edT g2 rfl) rfl ?_))
   exact ⟨rfl,rfl,rfl,rfl,(dec_orT g2),rfl,rfl,rfl,rfl,rfl,rfl,rfl,rfl,rfl,rfl,trivial⟩
  ·
   refine G_yes (edF g2 rfl) (R_mv rfl (G_yes (edF g2 rfl) (R_gtr rfl rfl (R_pickF (edF g2 rfl) rfl ?_))))
   exact ⟨rfl,rfl,rfl,rfl,(dec_orF g2),rfl,rfl,rfl,rfl,rfl,rfl,rfl,rfl,rfl,rfl,trivial⟩
 intro T H ⟨t1,t2,t3,t6,t32,h3,h6,h9,h11,h17,h58,h59,h81,h811,h812,_⟩
 refine R_mv t32 ?_
 refine Ops_seg 3 (fun T H=>T 1=(iV (i))∧T 2=(iV (o))∧T 3=(V.mp 3 1 0 0)∧T 6=(V.mp 6 1 0 0)∧T 36=(V.bool (decide ((((i) < (1:Int))∨((64:Int) < (i)))∨((o) < (1:Int)))))∧H 3=(bk 1 24 3 [[(iV (f.op)),(iV (f.arg)),(V.sl (List.map cF (f.kids)))]])∧H 6=(bk 1 45 4 [[(iV (0:Int)),(iV (0:Int)),V.nilsl,V.nilsl]])∧H 9=(⟨0,false,false,0,0,[]⟩:Blk)∧H 11=(⟨0,false,false,0,0,[]⟩:Blk)∧H 17=(⟨0,false,false,0,0,[]⟩:Blk)∧H 58=(⟨0,false,false,0,0,[]⟩:Blk)∧H 59=(⟨0,false,false,0,0,[]⟩:Blk)∧H 81=(⟨0,false,false,0,0,[]⟩:Blk)∧H 811=(⟨0,false,false,0,0,[]⟩:Blk)∧H 812=(⟨0,false,false,0,0,[]⟩:Blk)∧True) ?_ ?_
 ·
  by_cases g3:((i) < (1:Int))∨((64:Int) < (i))
  ·
   refine G_n (edT g3 rfl) (G_n (edT g3 rfl) (R_pickT (edT g3 rfl) rfl ?_))
   exact ⟨t1,t2,t3,t6,(dec_orT g3),h3,h6,h9,h11,h17,h58,h59,h81,h811,h812,trivial⟩
  ·
   refine G_yes (edF g3 rfl) (R_mv t2 (G_yes (edF g3 rfl) (R_lss rfl rfl (R_pickF (edF g3 rfl) rfl ?_))))
   exact ⟨t1,t2,t3,t6,(dec_orF g3),h3,h6,h9,h11,h17,h58,h59,h81,h811,h812,trivial⟩
 intro T H ⟨t1,t2,t3,t6,t36,h3,h6,h9,h11,h17,h58,h59,h81,h811,h812,_⟩
 refine R_mv t36 ?_
 refine Ops_seg 5 (fun T H=>T 1=(iV (i))∧T 2=(iV (o))∧T 3=(V.mp 3 1 0 0)∧T 6=(V.mp 6 1 0 0)∧T 42=(V.bool (decide (((((i) < (1:Int))∨((64:Int) < (i)))∨((o) < (1:Int)))∨(((1024 / (((i)).toNat):Nat):Int) < (o)))))∧H 3=(bk 1 24 3 [[(iV (f.op)),(iV (f.arg)),(V.sl (List.map cF (f.kids)))]])∧H 6=(bk 1 45 4 [[(iV (0:Int)),(iV (0:Int)),V.nilsl,V.nilsl]])∧H 9=(⟨0,false,false,0,0,[]⟩:Blk)∧H 11=(⟨0,false,false,0,0,[]⟩:Blk)∧H 17=(⟨0,false,false,0,0,[]⟩:Blk)∧H 58=(⟨0,false,false,0,0,[]⟩:Blk)∧H 59=(⟨0,false,false,0,0,[]⟩:Blk)∧H 81=(⟨0,false,false,0,0,[]⟩:Blk)∧H 811=(⟨0,false,false,0,0,[]⟩:Blk)∧H 812=(⟨0,false,false,0,0,[]⟩:Blk)∧True) ?_ ?_
 ·
  by_cases g4:(((i) < (1:Int))∨((64:Int) < (i)))∨((o) < (1:Int))
  ·
   refine G_n (edT g4 rfl) (G_n (edT g4 rfl) (G_n (edT g4 rfl) (G_n (edT g4 rfl) (R_pickT (edT g4 rfl) rfl ?_))))
   exact ⟨t1,t2,t3,t6,(dec_orT g4),h3,h6,h9,h11,h17,h58,h59,h81,h811,h812,trivial⟩
  ·
   refine G_yes (edF g4 rfl) (R_mv t2 (G_yes (edF g4 rfl) (R_mv t1 (G_yes (edF g4 rfl) (R_quoN (m:=1024) (n:=(((i)).toNat)) (@rfl V (iV ((1024:Nat):Int))) (Eq.trans (@rfl V (iV (i))) (iv_toNat (by omega))) (by omega) (by omega) (G_yes (edF g4 rfl) (R_gtr rfl rfl ?_)))))))
   refine R_pickF (edF g4 rfl) rfl ?_
   exact ⟨t1,t2,t3,t6,(dec_orF g4),h3,h6,h9,h11,h17,h58,h59,h81,h811,h812,trivial⟩
 intro T H ⟨t1,t2,t3,t6,t42,h3,h6,h9,h11,h17,h58,h59,h81,h811,h812,_⟩
 refine R_e ?_
 refine W_seq_if t42 (fun c5=>?_) fun c5=>?_
 ·
  have d1:=atm_r (i:=i) (o:=o) d0 (by omega)
  refine W_seq_seq (W_r (R_build rfl rfl (R_sk t6 rfl rfl h6 rfl rfl rfl rfl rfl (R_mv rfl (R_e (W_seq_ret ?_))))))
  refine RetC_2 (resV_c (u:=(V.agg [(iV (0:Int)),(iV (0:Int)),V.nilsl,V.nilsl])) t6 (@rfl Blk (bk 1 45 4 [[(iV (0:Int)),(iV (0:Int)),V.nilsl,V.nilsl]])) (lB oB rfl rfl)) (resV_t (@rfl V (iV (2:Int)))) (fz_aggL (mcons (fz_int ?_) (mcons (fz_int ?_) (mcons (fz_nil ?_) (mcons (fz_nil ?_) rfl))))) (fz_int ?_)
  · rw [d1]; try rfl
  · rw [d1]; try rfl
  · rw [d1]; try rfl
  · rw [d1]; try rfl
  · rw [d1]; try rfl
 have d2: ¬(i < 1∨64 < i∨o < 1∨((1024 / i.toNat:Nat):Int) < o):=by omega
 have io:=io_bnd d2
 refine W_seq_skip (W_r (R_lk t3 h3 rfl rfl (R_callk (simplify_pure f) rfl (R_mv rfl (R_ext rfl rfl (R_ext rfl rfl (R_alloc (i:=9) (n:=0) (m:=3) rfl (congrArg Blk.ver h9) rfl ?_)))))))
 refine R_sk rfl rfl rfl rfl rfl rfl rfl rfl rfl (R_mv rfl (R_e (W_seq_seq (W_r (R_mv rfl (R_neq rfl rfl (R_e ?_)))))))
 refine W_seq_if rfl (fun c6=>?_) fun c6=>?_
 ·
  have d1:=atm_s d0 d2 c6
  refine W_seq_seq (W_r (R_build rfl rfl (R_mv rfl (R_sk t6 rfl rfl h6 rfl rfl rfl rfl rfl (R_mv rfl (R_e (W_seq_ret ?_)))))))
  refine RetC_2 (resV_c (u:=(V.agg [(iV (0:Int)),(iV (0:Int)),V.nilsl,V.nilsl])) t6 (@rfl Blk (bk 1 45 4 [[(iV (0:Int)),(iV (0:Int)),V.nilsl,V.nilsl]])) (lB oB rfl rfl)) (resV_t (@rfl V (iV ((simp_ f).2)))) (fz_aggL (mcons (fz_int ?_) (mcons (fz_int ?_) (mcons (fz_nil ?_) (mcons (fz_nil ?_) rfl))))) (fz_int ?_)
  · rw [d1]; try rfl
  · rw [d1]; try rfl
  · rw [d1]; try rfl
  · rw [d1]; try rfl
  · rw [d1]; try rfl
 have d3:=c6
 have v0:=simp_val c6
 refine W_seq_skip (W_r (R_mv t1 (R_mv t2 (R_mul rfl rfl (by omega) (by omega) (R_build rfl rfl (R_alloc (i:=11) (n:=0) (m:=4) rfl (congrArg Blk.ver h11) rfl (R_sk rfl rfl rfl rfl rfl rfl rfl rfl rfl ?_)))))))
 refine R_e (W_r (R_lk rfl rfl rfl rfl (R_bslice_own (i:=58) (n:=0) (qs:=[(0,(V.agg [(iV ((simp_ f).1.op)),(iV ((simp_ f).1.arg)),(V.sl (List.map cF ((simp_ f).1.kids)))]))]) (rows:=[[(iV ((simp_ f).1.op)),(iV ((simp_ f).1.arg)),(V.sl (List.map cF ((simp_ f).1.kids)))]]) rfl (congrArg Blk.ver h58) (mcons (congrArg (fun v=>(0,v)) rfl) rfl) rfl (R_mv rfl (R_e ?_)))))
 refine W_seq_regc (fun T H=>T 2=(iV (o))∧T 6=(V.mp 6 1 0 0)∧T 11=(V.mp 11 1 0 0)∧T 12=(V.ms 58 1 0 (1))∧T 13=(V.mm 59 1)∧H 3=(bk 1 24 3 [[(iV (f.op)),(iV (f.arg)),(V.sl (List.map cF (f.kids)))]])∧H 6=(bk 1 45 4 [[(iV (0:Int)),(iV (0:Int)),V.nilsl,V.nilsl]])∧H 9=(bk 1 24 3 [[(iV ((simp_ f).1.op)),(iV ((simp_ f).1.arg)),(V.sl (List.map cF ((simp_ f).1.kids)))]])∧H 11=(bk 1 45 4 [[(iV ((i)*(o))),(iV (0:Int)),V.nilsl,V.nilsl]])∧H 17=(⟨0,false,false,0,0,[]⟩:Blk)∧H 58=(bk 1 24 3 [[(iV ((simp_ f).1.op)),(iV ((simp_ f).1.arg)),(V.sl (List.map cF ((simp_ f).1.kids)))]])∧H 59=(bz 1 mapH 2 (entT (esA [(simp_ f).1] 0)))∧H 81=(⟨0,false,false,0,0,[]⟩:Blk)∧H 811=(⟨0,false,false,0,0,[]⟩:Blk)∧H 812=(⟨0,false,false,0,0,[]⟩:Blk)∧True) ?_ ?_
 ·
  refine R_mkmap (i:=59) (n:=0) (rows:=entT (esA [] 0)) rfl (congrArg Blk.ver h59) rfl (R_lk rfl rfl rfl rfl (R_callk (key_pure ((simp_ f).1) (fval_ok v0) (fval_sz v0)) rfl (R_mset (B':=(bz 1 mapH 2 (entT (esA [(simp_ f).1] 0)))) (@rfl V (V.mm 59 1)) (@rfl V (V.str ((kyF ((simp_ f).1))))) (@rfl V (iV (0:Int))) (@rfl Blk (bz 1 mapH 2 (entT (esA [] 0)))) (set_es (l:=[]) (g:=(simp_ f).1) (Nat.not_lt_zero _)) (R_mv rfl (R_mv rfl ?_)))))
  exact R_nil ⟨t2,t6,rfl,rfl,rfl,h3,h6,rfl,rfl,h17,rfl,rfl,h81,h811,h812,trivial⟩
 intro T H ⟨t2,t6,t11,t12,t13,h3,h6,h9,h11,h17,h58,h59,h81,h811,h812,_⟩
 refine W_seq_seq ?_
 refine W_seq_g (fun T H=>T 2=(iV (o))∧T 6=(V.mp 6 1 0 0)∧T 11=(V.mp 11 1 0 0)∧T 12=(V.ms 58 1 0 (1))∧T 13=(V.mm 59 1)∧T 14=(iV (0:Int))∧H 3=(bk 1 24 3 [[(iV (f.op)),(iV (f.arg)),(V.sl (List.map cF (f.kids)))]])∧H 6=(bk 1 45 4 [[(iV (0:Int)),(iV (0:Int)),V.nilsl,V.nilsl]])∧H 9=(bk 1 24 3 [[(iV ((simp_ f).1.op)),(iV ((simp_ f).1.arg)),(V.sl (List.map cF ((simp_ f).1.kids)))]])∧H 11=(bk 1 45 4 [[(iV ((i)*(o))),(iV (0:Int)),V.nilsl,V.nilsl]])∧H 17=(⟨0,false,false,0,0,[]⟩:Blk)∧H 58=(bk 1 24 3 [[(iV ((simp_ f).1.op)),(iV ((simp_ f).1.arg)),(V.sl (List.map cF ((simp_ f).1.kids)))]])∧H 59=(bz 1 mapH 2 (entT (esA [(simp_ f).1] 0)))∧H 81=(⟨0,false,false,0,0,[]⟩:Blk)∧H 811=(⟨0,false,false,0,0,[]⟩:Blk)∧H 812=(⟨0,false,false,0,0,[]⟩:Blk)∧True) ?_ ?_
 ·
  refine R_mv rfl ?_
  exact R_nil ⟨t2,t6,t11,t12,t13,rfl,h3,h6,h9,h11,h17,h58,h59,h81,h811,h812,trivial⟩
 intro T H ⟨t2,t6,t11,t12,t13,t14,h3,h6,h9,h11,h17,h58,h59,h81,h811,h812,_⟩
 refine .lazyCell 812 25 1 11 0 2 [(iV ((i)*(o))),(iV (0:Int)),V.nilsl,V.nilsl] (by decide) (by rw [h11]; rfl) (by rw [h11]; rfl) rfl (fork_ (R:=fun T H=>T 2=(iV (o))∧T 6=(V.mp 6 1 0 0)∧T 11=(V.mp 11 1 0 0)∧T 12=(V.ms 58 1 0 (1))∧T 13=(V.mm 59 1)∧T 14=(iV (0:Int))∧H 3=(bk 1 24 3 [[(iV (f.op)),(iV (f.arg)),(V.sl (List.map cF (f.kids)))]])∧H 6=(bk 1 45 4 [[(iV (0:Int)),(iV (0:Int)),V.nilsl,V.nilsl]])∧H 9=(bk 1 24 3 [[(iV ((simp_ f).1.op)),(iV ((simp_ f).1.arg)),(V.sl (List.map cF ((simp_ f).1.kids)))]])∧H 11=(bk 1 45 4 [[(iV ((i)*(o))),(iV (0:Int)),(V.ms 812 1 0 (0)),V.nilsl]])∧H 17=(⟨0,false,false,0,0,[]⟩:Blk)∧H 58=(bk 1 24 3 [[(iV ((simp_ f).1.op)),(iV ((simp_ f).1.arg)),(V.sl (List.map cF ((simp_ f).1.kids)))]])∧H 59=(bz 1 mapH 2 (entT (esA [(simp_ f).1] 0)))∧H 81=(⟨0,false,false,0,0,[]⟩:Blk)∧H 811=(⟨0,false,false,0,0,[]⟩:Blk)∧H 812=(bz 1 25 1 [])∧True) ⟨t2,t6,t11,t12,t13,t14,((upd_ne _ _ (by decide)).trans ((upd_ne _ _ (by decide)).trans h3)),((upd_ne _ _ (by decide)).trans ((upd_ne _ _ (by decide)).trans h6)),((upd_ne _ _ (by decide)).trans ((upd_ne _ _ (by decide)).trans h9)),(by rw [upd_same,h11,(congrArg Blk.ver h812)]; rfl),((upd_ne _ _ (by decide)).trans ((upd_ne _ _ (by decide)).trans h17)),((upd_ne _ _ (by decide)).trans ((upd_ne _ _ (by decide)).trans h58)),((upd_ne _ _ (by decide)).trans ((upd_ne _ _ (by decide)).trans h59)),((upd_ne _ _ (by decide)).trans ((upd_ne _ _ (by decide)).trans h81)),((upd_ne _ _ (by decide)).trans ((upd_ne _ _ (by decide)).trans h811)),(by rw [upd_ne _ _ (by decide),upd_same,(congrArg Blk.ver h812)]),trivial⟩ ?_)
 intro T H ⟨t2,t6,t11,t12,t13,t14,h3,h6,h9,h11,h17,h58,h59,h81,h811,h812,_⟩
 refine .lazyCell 811 4 1 11 0 3 [(iV ((i)*(o))),(iV (0:Int)),(V.ms 812 1 0 (0)),V.nilsl] (by decide) (by rw [h11]; rfl) (by rw [h11]; rfl) rfl (.done ?_)
 refine fork_ (R:=fun T H=>T 2=(iV (o))∧T 6=(V.mp 6 1 0 0)∧T 11=(V.mp 11 1 0 0)∧T 12=(V.ms 58 1 0 (1))∧T 13=(V.mm 59 1)∧T 14=(iV (0:Int))∧H 3=(bk 1 24 3 [[(iV (f.op)),(iV (f.arg)),(V.sl (List.map cF (f.kids)))]])∧H 6=(bk 1 45 4 [[(iV (0:Int)),(iV (0:Int)),V.nilsl,V.nilsl]])∧H 9=(bk 1 24 3 [[(iV ((simp_ f).1.op)),(iV ((simp_ f).1.arg)),(V.sl (List.map cF ((simp_ f).1.kids)))]])∧H 11=(bk 1 45 4 [[(iV ((i)*(o))),(iV (0:Int)),(V.ms 812 1 0 (0)),(V.ms 811 1 0 (0))]])∧H 17=(⟨0,false,false,0,0,[]⟩:Blk)∧H 58=(bk 1 24 3 [[(iV ((simp_ f).1.op)),(iV ((simp_ f).1.arg)),(V.sl (List.map cF ((simp_ f).1.kids)))]])∧H 59=(bz 1 mapH 2 (entT (esA [(simp_ f).1] 0)))∧H 81=(⟨0,false,false,0,0,[]⟩:Blk)∧H 811=(bz 1 4 1 [])∧H 812=(bz 1 25 1 [])∧True) ⟨t2,t6,t11,t12,t13,t14,((upd_ne _ _ (by decide)).trans ((upd_ne _ _ (by decide)).trans h3)),((upd_ne _ _ (by decide)).trans ((upd_ne _ _ (by decide)).trans h6)),((upd_ne _ _ (by decide)).trans ((upd_ne _ _ (by decide)).trans h9)),(by rw [upd_same,h11,(congrArg Blk.ver h811)]; rfl),((upd_ne _ _ (by decide)).trans ((upd_ne _ _ (by decide)).trans h17)),((upd_ne _ _ (by decide)).trans ((upd_ne _ _ (by decide)).trans h58)),((upd_ne _ _ (by decide)).trans ((upd_ne _ _ (by decide)).trans h59)),((upd_ne _ _ (by decide)).trans ((upd_ne _ _ (by decide)).trans h81)),(by rw [upd_ne _ _ (by decide),upd_same,(congrArg Blk.ver h811)]),((upd_ne _ _ (by decide)).trans ((upd_ne _ _ (by decide)).trans h812)),trivial⟩ ?_
 intro T H ⟨t2,t6,t11,t12,t13,t14,h3,h6,h9,h11,h17,h58,h59,h81,h811,h812,_⟩
 refine W_seq_blockg fun Q7 n7 x7 y7 z7=>?_
 refine W_loop (fun mm T H=> ∃ (s:Nat) (l:List Fm) (nx:List (List Int)) (ac:List Bool) (v:Nat) (v1:Nat) (v2:Nat) (v17:Nat) (v81:Nat),mm=129 - s∧T 2=(iV (o))∧T 6=(V.mp 6 1 0 0)∧T 11=(V.mp 11 1 0 0)∧T 12=(V.ms 58 v 0 (l.length))∧T 13=(V.mm 59 1)∧T 14=(iV ((s:Nat):Int))∧H 3=(bk 1 24 3 [[(iV (f.op)),(iV (f.arg)),(V.sl (List.map cF (f.kids)))]])∧H 6=(bk 1 45 4 [[(iV (0:Int)),(iV (0:Int)),V.nilsl,V.nilsl]])∧H 9=(bk 1 24 3 [[(iV ((simp_ f).1.op)),(iV ((simp_ f).1.arg)),(V.sl (List.map cF ((simp_ f).1.kids)))]])∧H 11=(bk 1 45 4 [[(iV ((i)*(o))),(iV (0:Int)),(V.ms 812 v1 0 (nx.length)),(V.ms 811 v2 0 (ac.length))]])∧((H 17).ver=v17∧(H 17).live=false)∧H 58=(bk v 24 3 (List.map cF (l)))∧H 59=(bz 1 mapH 2 (entT (esA l 0)))∧((H 81).ver=v81∧(H 81).live=false)∧H 811=(bz v2 4 1 (List.map cB (ac)))∧H 812=(bz v1 25 1 (List.map cL (nx)))∧(s≤l.length)∧(l.length≤128)∧(nx.length=s∧ac.length=s)∧(∀ g∈l,fval g=0)∧(atmS (simp_ f).1 (i*o).toNat o.toNat=aOut (i*o).toNat o.toNat (129 - s) s l nx ac)) ?_ ?_
 ·
  refine ⟨_,0,[(simp_ f).1],[],[],1,1,1,0,0,rfl,t2,t6,t11,(Eq.trans t12 (by rfl)),t13,(Eq.trans t14 rfl),h3,h6,h9,(Eq.trans h11 (by rfl)),⟨(congrArg Blk.ver h17),congrArg Blk.live h17⟩,(Eq.trans h58 (by (simp [cF_eq]; done))),(Eq.trans h59 (by rfl)),⟨(congrArg Blk.ver h81),congrArg Blk.live h81⟩,(Eq.trans h811 (by rfl)),(Eq.trans h812 (by rfl)),?_,?_,?_,?_,?_⟩
  · exact Nat.zero_le _
  · show 1≤128; decide
  · exact ⟨rfl,rfl⟩
  · exact fun g hg=>by rw [List.mem_singleton.1 hg]; exact v0
  · rfl
 intro mm T H ⟨s,l,nx,ac,v,v1,v2,v17,v81,hmm,t2,t6,t11,t12,t13,t14,h3,h6,h9,h11,h17,h58,h59,h81,h811,h812,hs,hl,hn,hv,hc⟩ Q8 p18 p28 p38
 unfold b15_0
 refine W_seq_seq (W_r (R_mv t14 (R_mv t12 (R_len_ms rfl h58 (by simp) (R_lss rfl rfl (R_e ?_))))))
 refine W_seq_if rfl (fun c9=>?_) fun c9=>?_
 ·
  refine W_seq_skip (W_seq_blockg fun Q10 n10 x10 y10 z10=>(W_r (R_fk t11 h11 (R_lk rfl h11 rfl rfl (R_mv t12 (R_mv t14 (R_idx_ms0 (i:=s) (@rfl V (V.ms 58 v 0 (l.length))) (@rfl V (iV ((s:Nat):Int))) h58 oB rfl (by omega) ?_)))))))
  refine R_load_mp (v:=(V.agg [(iV (((nth (l) (s))).op)),(iV (((nth (l) (s))).arg)),(V.sl (List.map cF (((nth (l) (s))).kids)))])) rfl h58 (ldB_map (by omega) (by (rw [cF_eq]; rfl))) (R_callk (ends_pure (((nth (l) (s)))) (fval_ok (hv _ (nth_mem (by omega)))) (fval_sz (hv _ (nth_mem (by omega))))) rfl (R_bslice rfl rfl (R_append1 (l:=ac) (f:=cB) (x:=(sat t0 (((nth (l) (s)))) 0)) (@rfl V (V.ms 811 v2 0 (ac.length))) h811 (by rfl) (@rfl V (V.sl [[(V.bool (sat t0 (((nth (l) (s)))) 0))]])) rfl rfl (by omega) (by omega) (R_fk t11 h11 (R_sk rfl rfl rfl h11 rfl rfl rfl rfl rfl (R_e (W_r ?_)))))))
  refine R_fk t11 rfl (R_lk rfl rfl rfl rfl (R_mksm (i:=81) (n:=v81) (m:=0) (q:=(((i)*(o)).toNat)) (f:=cI) (x:=0) rfl (h81).1 (@rfl V (iV (0:Int))) (Eq.trans (@rfl V (iV ((i)*(o)))) (congrArg (V.int .i64) (by omega))) rfl (by omega) (by omega) (by omega) (R_mv rfl (R_e (W_seq_seq (W_r (R_fk t11 rfl ?_)))))))
  refine R_lk rfl rfl rfl rfl (R_mv rfl (R_e (W_seq_blockg fun Q11 n11 x11 y11 z11=>?_)))
  refine W_loop (fun mm T H=> ∃ (k:Nat) (l2:List Fm) (r:List Int) (w:Nat) (q:Nat) (v17:Nat),mm=(i*o).toNat - k∧T 2=(iV (o))∧T 6=(V.mp 6 1 0 0)∧T 11=(V.mp 11 1 0 0)∧T 12=(V.ms 58 w 0 (l2.length))∧T 13=(V.mm 59 1)∧T 14=(iV ((s:Nat):Int))∧T 15=(V.ms 81 q 0 (r.length))∧T 83=(iV ((i)*(o)))∧T 84=(iV ((k:Nat):Int))∧H 3=(bk 1 24 3 [[(iV (f.op)),(iV (f.arg)),(V.sl (List.map cF (f.kids)))]])∧H 6=(bk 1 45 4 [[(iV (0:Int)),(iV (0:Int)),V.nilsl,V.nilsl]])∧H 9=(bk 1 24 3 [[(iV ((simp_ f).1.op)),(iV ((simp_ f).1.arg)),(V.sl (List.map cF ((simp_ f).1.kids)))]])∧H 11=(bk 1 45 4 [[(iV ((i)*(o))),(iV (0:Int)),(V.ms 812 v1 0 (nx.length)),(V.ms 811 (v2+1) 0 (ac.length+1))]])∧((H 17).ver=v17∧(H 17).live=false)∧H 58=(bk w 24 3 (List.map cF (l2)))∧H 59=(bz 1 mapH 2 (entT (esA l2 0)))∧H 81=(bk q 3 1 (List.map cI (r)))∧H 811=(bz (v2+1) 4 1 (List.map cB (ac++[sat t0 (((nth (l) (s)))) 0])))∧H 812=(bz v1 25 1 (List.map cL (nx)))∧(k≤(i*o).toNat)∧(r.length=k)∧(s < l2.length)∧(l2.length≤128)∧(nth l2 s=nth l s)∧(∀ g∈l2,fval g=0)∧(aRow (nth l s) o.toNat (i*o).toNat 0 l []=aRow (nth l2 s) o.toNat ((i*o).toNat - k) k l2 r)) ?_ ?_
  ·
   refine ⟨_,0,l,[],v,(v81+1),v17,rfl,t2,t6,t11,t12,t13,t14,(Eq.trans (@rfl V (V.ms 81 (v81+1) 0 (0))) (by rfl)),rfl,(Eq.trans (@rfl V (iV (0:Int))) rfl),h3,h6,h9,rfl,h17,h58,h59,(Eq.trans (@rfl Blk (bk (v81+1) 3 1 (List.map cI (List.replicate 0 0)))) (by rfl)),rfl,h812,?_,?_,?_,?_,?_,?_,?_⟩
   · omega
   · rfl
   · omega
   · omega
   · rfl
   · exact hv
   · rfl
  intro mm T H ⟨k,l2,r,w,q,v17,hmm,t2,t6,t11,t12,t13,t14,t15,t83,t84,h3,h6,h9,h11,h17,h58,h59,h81,h811,h812,hk,hr,hs2,hl2,he,hv2,hc2⟩ Q12 p112 p212 p312
  unfold b15_1
  refine W_r (R_lss t84 t83 (R_e ?_))
  refine W_seq_if rfl (fun c13=>?_) fun c13=>?_
  ·
   refine W_seq_skip (W_seq_blockg fun Q14 n14 x14 y14 z14=>(W_r (R_mv t84 (R_mv rfl (R_e (W_d (by exact (lateC (h17).2 lateN)) (R_mv t12 ?_)))))))
   refine R_mv t14 (R_idx_ms0 (i:=s) (@rfl V (V.ms 58 w 0 (l2.length))) (@rfl V (iV ((s:Nat):Int))) h58 oB rfl (by omega) (R_load_mp (v:=(V.agg [(iV (((nth (l2) (s))).op)),(iV (((nth (l2) (s))).arg)),(V.sl (List.map cF (((nth (l2) (s))).kids)))])) rfl h58 (ldB_map (by omega) (by (rw [cF_eq]; rfl))) (R_mv rfl (R_mv t2 (R_quoN (m:=k) (n:=(((o)).toNat)) rfl (Eq.trans (@rfl V (iV (o))) (iv_toNat (by omega))) (by omega) (by omega) (R_mv rfl (R_mv t2 ?_)))))))
   refine R_remN (m:=k) (n:=(((o)).toNat)) rfl (Eq.trans (@rfl V (iV (o))) (iv_toNat (by omega))) (by omega) (by omega) (R_callk (mstep_pure (((nth (l2) (s)))) (((k / (((o)).toNat):Nat):Int)) (((k % (((o)).toNat):Nat):Int))) rfl (R_mv rfl (R_ext rfl rfl (R_ext rfl rfl (R_alloc (i:=17) (n:=v17) (m:=3) rfl (h17).1 rfl (R_sk rfl rfl rfl rfl rfl rfl rfl rfl rfl (R_mv rfl ?_)))))))
   refine R_e (W_seq_seq (W_r (R_mv rfl (R_neq rfl rfl (R_e ?_)))))
   refine W_seq_if rfl (fun c15=>?_) fun c15=>?_
   ·
    have d1:=atm_x d0 d2 d3 (hc.trans (aOut_err (by omega) hl (hc2.trans (aRow_err (by omega) c15)) c15)) c15
    refine W_seq_seq (W_r (R_build rfl rfl (R_mv rfl (R_sk t6 rfl rfl h6 rfl rfl rfl rfl rfl (R_mv rfl (R_e (W_seq_ret ?_)))))))
    refine y14 _ _ (p212 _ _ (y11 _ _ (y10 _ _ (p28 _ _ (y7 _ _ ?_)))))
    refine RetC_2 (resV_c (u:=(V.agg [(iV (0:Int)),(iV (0:Int)),V.nilsl,V.nilsl])) t6 (@rfl Blk (bk 1 45 4 [[(iV (0:Int)),(iV (0:Int)),V.nilsl,V.nilsl]])) (lB oB rfl rfl)) (resV_t (@rfl V (iV ((stM (((nth (l2) (s)))) (((k / (((o)).toNat):Nat):Int)) (((k % (((o)).toNat):Nat):Int))).2)))) (fz_aggL (mcons (fz_int ?_) (mcons (fz_int ?_) (mcons (fz_nil ?_) (mcons (fz_nil ?_) rfl))))) (fz_int ?_)
    · rw [d1]; try rfl
    · rw [d1]; try rfl
    · rw [d1]; try rfl
    · rw [d1]; try rfl
    · rw [d1]; try rfl
   have e1:=c15
   have x1:=stM_val c15
   refine W_seq_skip (W_r (R_mv t13 (R_lk rfl rfl rfl rfl (R_callk (key_pure ((stM (((nth (l2) (s)))) (((k / (((o)).toNat):Nat):Int)) (((k % (((o)).toNat):Nat):Int))).1) (fval_ok x1) (fval_sz x1)) rfl (R_mlook (z:=(iV (0:Int))) (u:=(iV ((lkV l2 (stM (nth l2 s) ((k / o.toNat:Nat):Int) ((k % o.toNat:Nat):Int)).1)))) (f:=decide (plc l2 (stM (nth l2 s) ((k / o.toNat:Nat):Int) ((k % o.toNat:Nat):Int)).1 < l2.length)) (@rfl V (V.mm 59 1)) (@rfl V (V.str ((kyF ((stM (((nth (l2) (s)))) (((k / (((o)).toNat):Nat):Int)) (((k % (((o)).toNat):Nat):Int))).1))))) h59 (look_es) (R_mv rfl (R_ext rfl rfl ?_)))))))
   refine R_ext rfl rfl (R_mv rfl (R_mv rfl (R_e (W_seq_seq (W_r (R_mv rfl (R_not rfl ?_)))))))
   refine R_e ?_
   refine W_seq_if rfl (fun c16=>?_) fun c16=>?_
   ·
    have e2:=c16
    refine W_seq_seq (W_r (R_mv t12 (R_len_ms rfl h58 (by simp) (R_mv rfl (R_e (W_seq_seq (W_seq_seq ?_)))))))
    refine W_r (R_mv rfl (R_geq rfl rfl (R_e ?_)))
    refine W_seq_if rfl (fun c17=>?_) fun c17=>?_
    ·
     have d1:=atm_x d0 d2 d3 (hc.trans (aOut_err (by omega) hl (hc2.trans (aRow_lim (by omega) e1 e2 (by omega))) (by decide))) (by decide)
     refine W_seq_seq ?_
     refine W_seq_regc (fun T H=>T 6=(V.mp 6 1 0 0)∧T 7=(iV (11:Int))∧H 3=(bk 1 24 3 [[(iV (f.op)),(iV (f.arg)),(V.sl (List.map cF (f.kids)))]])∧H 6=(bk 1 45 4 [[(iV (0:Int)),(iV (0:Int)),V.nilsl,V.nilsl]])∧H 9=(bk 1 24 3 [[(iV ((simp_ f).1.op)),(iV ((simp_ f).1.arg)),(V.sl (List.map cF ((simp_ f).1.kids)))]])∧H 11=(bk 1 45 4 [[(iV ((i)*(o))),(iV (0:Int)),(V.ms 812 v1 0 (nx.length)),(V.ms 811 (v2+1) 0 (ac.length+1))]])∧H 17=(bk (v17+1) 24 3 [[(iV ((stM (((nth (l2) (s)))) (((k / (((o)).toNat):Nat):Int)) (((k % (((o)).toNat):Nat):Int))).1.op)),(iV ((stM (((nth (l2) (s)))) (((k / (((o)).toNat):Nat):Int)) (((k % (((o)).toNat):Nat):Int))).1.arg)),(V.sl (List.map cF ((stM (((nth (l2) (s)))) (((k / (((o)).toNat):Nat):Int)) (((k % (((o)).toNat):Nat):Int))).1.kids)))]])∧H 58=(bk w 24 3 (List.map cF (l2)))∧H 59=(bz 1 mapH 2 (entT (esA l2 0)))∧H 81=(bk q 3 1 (List.map cI (r)))∧H 811=(bz (v2+1) 4 1 (List.map cB (ac++[sat t0 (((nth (l) (s)))) 0])))∧H 812=(bz v1 25 1 (List.map cL (nx)))∧True) ?_ ?_
     ·
      refine R_build rfl rfl (R_sk t6 rfl rfl h6 rfl rfl rfl rfl rfl (R_mv rfl ?_))
      exact R_nil ⟨t6,rfl,h3,rfl,h9,h11,rfl,h58,h59,h81,h811,h812,trivial⟩
     intro T H ⟨t6,t7,h3,h6,h9,h11,h17,h58,h59,h81,h811,h812,_⟩
     refine W_seq_ret (y14 _ _ (p212 _ _ (y11 _ _ (y10 _ _ (p28 _ _ (y7 _ _ ?_))))))
     refine RetC_2 (resV_c (u:=(V.agg [(iV (0:Int)),(iV (0:Int)),V.nilsl,V.nilsl])) t6 h6 (lB oB rfl rfl)) (resV_t t7) (fz_aggL (mcons (fz_int ?_) (mcons (fz_int ?_) (mcons (fz_nil ?_) (mcons (fz_nil ?_) rfl))))) (fz_int ?_)
     · rw [d1]; try rfl
     · rw [d1]; try rfl
     · rw [d1]; try rfl
     · rw [d1]; try rfl
     · rw [d1]; try rfl
    have e3: ¬128≤l2.length:=by omega
    refine W_seq_skip (W_seq_seq ?_)
    refine W_seq_regc (fun T H=>T 2=(iV (o))∧T 6=(V.mp 6 1 0 0)∧T 11=(V.mp 11 1 0 0)∧T 12=(V.ms 58 w 0 (l2.length))∧T 13=(V.mm 59 1)∧T 14=(iV ((s:Nat):Int))∧T 15=(V.ms 81 q 0 (r.length))∧T 17=(V.mp 17 (v17+1) 0 0)∧T 19=(iV ((l2.length:Nat):Int))∧T 83=(iV ((i)*(o)))∧T 84=(iV ((k:Nat):Int))∧H 3=(bk 1 24 3 [[(iV (f.op)),(iV (f.arg)),(V.sl (List.map cF (f.kids)))]])∧H 6=(bk 1 45 4 [[(iV (0:Int)),(iV (0:Int)),V.nilsl,V.nilsl]])∧H 9=(bk 1 24 3 [[(iV ((simp_ f).1.op)),(iV ((simp_ f).1.arg)),(V.sl (List.map cF ((simp_ f).1.kids)))]])∧H 11=(bk 1 45 4 [[(iV ((i)*(o))),(iV (0:Int)),(V.ms 812 v1 0 (nx.length)),(V.ms 811 (v2+1) 0 (ac.length+1))]])∧H 17=(bk (v17+1) 24 3 [[(iV ((stM (((nth (l2) (s)))) (((k / (((o)).toNat):Nat):Int)) (((k % (((o)).toNat):Nat):Int))).1.op)),(iV ((stM (((nth (l2) (s)))) (((k / (((o)).toNat):Nat):Int)) (((k % (((o)).toNat):Nat):Int))).1.arg)),(V.sl (List.map cF ((stM (((nth (l2) (s)))) (((k / (((o)).toNat):Nat):Int)) (((k % (((o)).toNat):Nat):Int))).1.kids)))]])∧H 58=(bk w 24 3 (List.map cF (l2)))∧H 59=(bz 1 mapH 2 (entT (esA (l2++[(stM (nth l2 s) ((k / o.toNat:Nat):Int) ((k % o.toNat:Nat):Int)).1]) 0)))∧H 81=(bk q 3 1 (List.map cI (r)))∧H 811=(bz (v2+1) 4 1 (List.map cB (ac++[sat t0 (((nth (l) (s)))) 0])))∧H 812=(bz v1 25 1 (List.map cL (nx)))∧True) ?_ ?_
    ·
     refine R_mv t13 (R_lk rfl rfl rfl rfl (R_callk (key_pure ((stM (((nth (l2) (s)))) (((k / (((o)).toNat):Nat):Int)) (((k % (((o)).toNat):Nat):Int))).1) (fval_ok x1) (fval_sz x1)) rfl (R_mv rfl (R_mset (B':=(bz 1 mapH 2 (entT (esA (l2++[(stM (nth l2 s) ((k / o.toNat:Nat):Int) ((k % o.toNat:Nat):Int)).1]) 0)))) (@rfl V (V.mm 59 1)) (@rfl V (V.str ((kyF ((stM (((nth (l2) (s)))) (((k / (((o)).toNat):Nat):Int)) (((k % (((o)).toNat):Nat):Int))).1))))) (@rfl V (iV ((l2.length:Nat):Int))) h59 (set_es e2) ?_))))
     exact R_nil ⟨t2,t6,t11,t12,t13,t14,t15,rfl,rfl,t83,t84,h3,h6,h9,h11,rfl,h58,rfl,h81,h811,h812,trivial⟩
    intro T H ⟨t2,t6,t11,t12,t13,t14,t15,t17,t19,t83,t84,h3,h6,h9,h11,h17,h58,h59,h81,h811,h812,_⟩
    refine W_r (R_mv t12 (R_lk t17 h17 rfl rfl (R_bslice rfl rfl (R_append1 (l:=l2) (f:=cF) (x:=((stM (((nth (l2) (s)))) (((k / (((o)).toNat):Nat):Int)) (((k % (((o)).toNat):Nat):Int))).1)) (@rfl V (V.ms 58 w 0 (l2.length))) h58 (by rfl) (row_F1 (x:=((stM (((nth (l2) (s)))) (((k / (((o)).toNat):Nat):Int)) (((k % (((o)).toNat):Nat):Int))).1)) (@rfl V (V.sl [[(iV ((stM (((nth (l2) (s)))) (((k / (((o)).toNat):Nat):Int)) (((k % (((o)).toNat):Nat):Int))).1.op)),(iV ((stM (((nth (l2) (s)))) (((k / (((o)).toNat):Nat):Int)) (((k % (((o)).toNat):Nat):Int))).1.arg)),(V.sl (List.map cF ((stM (((nth (l2) (s)))) (((k / (((o)).toNat):Nat):Int)) (((k % (((o)).toNat):Nat):Int))).1.kids)))]]))) (cF_len _) (cF_one _) (by omega) (by omega) (R_mv rfl (R_e (W_t ?_)))))))
    refine R_mv t15 (R_mv t19 (R_bslice rfl rfl (R_append1 (l:=r) (f:=cI) (x:=(((l2.length:Nat):Int))) (@rfl V (V.ms 81 q 0 (r.length))) h81 (by rfl) (@rfl V (V.sl [[(iV ((l2.length:Nat):Int))]])) rfl rfl (by omega) (by omega) (R_mv rfl (R_e (n14 _ _ (fork_ (R:=fun T H=>T 2=(iV (o))∧T 6=(V.mp 6 1 0 0)∧T 11=(V.mp 11 1 0 0)∧T 12=(V.ms 58 (w+1) 0 (l2.length+1))∧T 13=(V.mm 59 1)∧T 14=(iV ((s:Nat):Int))∧T 15=(V.ms 81 (q+1) 0 (r.length+1))∧T 83=(iV ((i)*(o)))∧T 84=(iV ((k:Nat):Int))∧H 3=(bk 1 24 3 [[(iV (f.op)),(iV (f.arg)),(V.sl (List.map cF (f.kids)))]])∧H 6=(bk 1 45 4 [[(iV (0:Int)),(iV (0:Int)),V.nilsl,V.nilsl]])∧H 9=(bk 1 24 3 [[(iV ((simp_ f).1.op)),(iV ((simp_ f).1.arg)),(V.sl (List.map cF ((simp_ f).1.kids)))]])∧H 11=(bk 1 45 4 [[(iV ((i)*(o))),(iV (0:Int)),(V.ms 812 v1 0 (nx.length)),(V.ms 811 (v2+1) 0 (ac.length+1))]])∧H 17=(bk (v17+1) 24 3 [[(iV ((stM (((nth (l2) (s)))) (((k / (((o)).toNat):Nat):Int)) (((k % (((o)).toNat):Nat):Int))).1.op)),(iV ((stM (((nth (l2) (s)))) (((k / (((o)).toNat):Nat):Int)) (((k % (((o)).toNat):Nat):Int))).1.arg)),(V.sl (List.map cF ((stM (((nth (l2) (s)))) (((k / (((o)).toNat):Nat):Int)) (((k % (((o)).toNat):Nat):Int))).1.kids)))]])∧H 58=(bk (w+1) 24 3 (List.map cF (l2++[(stM (((nth (l2) (s)))) (((k / (((o)).toNat):Nat):Int)) (((k % (((o)).toNat):Nat):Int))).1])))∧H 59=(bz 1 mapH 2 (entT (esA (l2++[(stM (nth l2 s) ((k / o.toNat:Nat):Int) ((k % o.toNat:Nat):Int)).1]) 0)))∧H 81=(bk (q+1) 3 1 (List.map cI (r++[((l2.length:Nat):Int)])))∧H 811=(bz (v2+1) 4 1 (List.map cB (ac++[sat t0 (((nth (l) (s)))) 0])))∧H 812=(bz v1 25 1 (List.map cL (nx)))∧True) ⟨t2,t6,t11,(@rfl V (V.ms 58 (w+1) 0 (l2.length+1))),t13,t14,(@rfl V (V.ms 81 (q+1) 0 (r.length+1))),t83,t84,h3,h6,h9,h11,h17,rfl,h59,rfl,h811,h812,trivial⟩ ?_)))))))
    intro T H ⟨t2,t6,t11,t12,t13,t14,t15,t83,t84,h3,h6,h9,h11,h17,h58,h59,h81,h811,h812,_⟩
    refine .freeze 17 (.done ?_)
    refine fork_ (R:=fun T H=>T 2=(iV (o))∧T 6=(V.mp 6 1 0 0)∧T 11=(V.mp 11 1 0 0)∧T 12=(V.ms 58 (w+1) 0 (l2.length+1))∧T 13=(V.mm 59 1)∧T 14=(iV ((s:Nat):Int))∧T 15=(V.ms 81 (q+1) 0 (r.length+1))∧T 83=(iV ((i)*(o)))∧T 84=(iV ((k:Nat):Int))∧H 3=(bk 1 24 3 [[(iV (f.op)),(iV (f.arg)),(V.sl (List.map cF (f.kids)))]])∧H 6=(bk 1 45 4 [[(iV (0:Int)),(iV (0:Int)),V.nilsl,V.nilsl]])∧H 9=(bk 1 24 3 [[(iV ((simp_ f).1.op)),(iV ((simp_ f).1.arg)),(V.sl (List.map cF ((simp_ f).1.kids)))]])∧H 11=(bk 1 45 4 [[(iV ((i)*(o))),(iV (0:Int)),(V.ms 812 v1 0 (nx.length)),(V.ms 811 (v2+1) 0 (ac.length+1))]])∧((H 17).ver=v17+1∧(H 17).live=false)∧H 58=(bk (w+1) 24 3 (List.map cF (l2++[(stM (((nth (l2) (s)))) (((k / (((o)).toNat):Nat):Int)) (((k % (((o)).toNat):Nat):Int))).1])))∧H 59=(bz 1 mapH 2 (entT (esA (l2++[(stM (nth l2 s) ((k / o.toNat:Nat):Int) ((k % o.toNat:Nat):Int)).1]) 0)))∧H 81=(bk (q+1) 3 1 (List.map cI (r++[((l2.length:Nat):Int)])))∧H 811=(bz (v2+1) 4 1 (List.map cB (ac++[sat t0 (((nth (l) (s)))) 0])))∧H 812=(bz v1 25 1 (List.map cL (nx)))∧True) ⟨(fzT_q t2 rfl),(fzT_q t6 rfl),(fzT_q t11 rfl),(fzT_q t12 (fzq_other (by decide))),(fzT_q t13 rfl),(fzT_q t14 rfl),(fzT_q t15 (fzq_other (by decide))),(fzT_q t83 rfl),(fzT_q t84 rfl),(kill_ne h3 (by decide)),(kill_ne h6 (by decide)),(kill_ne h9 (by decide)),(kill_ne h11 (by decide)),(kill_self (congrArg Blk.ver h17)),(kill_ne h58 (by decide)),(kill_ne h59 (by decide)),(kill_ne h81 (by decide)),(kill_ne h811 (by decide)),(kill_ne h812 (by decide)),trivial⟩ ?_
    intro T H ⟨t2,t6,t11,t12,t13,t14,t15,t83,t84,h3,h6,h9,h11,h17,h58,h59,h81,h811,h812,_⟩
    refine W_t (R_addN t84 (@rfl V (iV ((1:Nat):Int))) (by omega) (R_mv rfl (R_e ?_)))
    refine p112 _ _ _ ?_ ⟨(k+1),(l2++[(stM (((nth (l2) (s)))) (((k / (((o)).toNat):Nat):Int)) (((k % (((o)).toNat):Nat):Int))).1]),(r++[((l2.length:Nat):Int)]),(w+1),(q+1),(v17+1),rfl,t2,t6,t11,(Eq.trans t12 (by simp)),t13,t14,(Eq.trans t15 (by simp)),t83,(Eq.trans (@rfl V (iV ((k+1:Nat):Int))) (by rfl)),h3,h6,h9,h11,h17,(Eq.trans h58 (by rfl)),(Eq.trans h59 (by rfl)),(Eq.trans h81 (by rfl)),h811,h812,?_,?_,?_,?_,?_,?_,?_⟩
    · omega
    · omega
    · rw [List.length_append,hr]; rfl
    · first|omega|(rw [List.length_append]; omega)
    · first|omega|(rw [List.length_append]; simp; omega)
    · first|exact he|(rw [nth_snoc hs2]; exact he)
    · first|exact hv2|exact val_snoc hv2 x1
    · first|exact hc2.trans (aRow_old (by omega) e1 e2)|(rw [nth_snoc hs2]; exact hc2.trans ((aRow_new (by omega) (by rw [← he] at*; exact e1) e2 e3).trans rfl))|(rw [nth_snoc hs2]; exact hc2.trans (aRow_new (by omega) e1 e2 e3))
   have e2:=Decidable.of_not_not c16
   refine W_seq_skip (W_t (R_mv t15 (R_mv rfl (R_bslice rfl rfl (R_append1 (l:=r) (f:=cI) (x:=(((lkV l2 (stM (nth l2 s) ((k / o.toNat:Nat):Int) ((k % o.toNat:Nat):Int)).1)))) (@rfl V (V.ms 81 q 0 (r.length))) h81 (by rfl) (@rfl V (V.sl [[(iV ((lkV l2 (stM (nth l2 s) ((k / o.toNat:Nat):Int) ((k % o.toNat:Nat):Int)).1)))]])) rfl rfl (by omega) (by omega) (R_mv rfl (R_e ?_)))))))
   refine n14 _ _ (fork_ (R:=fun T H=>T 2=(iV (o))∧T 6=(V.mp 6 1 0 0)∧T 11=(V.mp 11 1 0 0)∧T 12=(V.ms 58 w 0 (l2.length))∧T 13=(V.mm 59 1)∧T 14=(iV ((s:Nat):Int))∧T 15=(V.ms 81 (q+1) 0 (r.length+1))∧T 83=(iV ((i)*(o)))∧T 84=(iV ((k:Nat):Int))∧H 3=(bk 1 24 3 [[(iV (f.op)),(iV (f.arg)),(V.sl (List.map cF (f.kids)))]])∧H 6=(bk 1 45 4 [[(iV (0:Int)),(iV (0:Int)),V.nilsl,V.nilsl]])∧H 9=(bk 1 24 3 [[(iV ((simp_ f).1.op)),(iV ((simp_ f).1.arg)),(V.sl (List.map cF ((simp_ f).1.kids)))]])∧H 11=(bk 1 45 4 [[(iV ((i)*(o))),(iV (0:Int)),(V.ms 812 v1 0 (nx.length)),(V.ms 811 (v2+1) 0 (ac.length+1))]])∧H 17=(bk (v17+1) 24 3 [[(iV ((stM (((nth (l2) (s)))) (((k / (((o)).toNat):Nat):Int)) (((k % (((o)).toNat):Nat):Int))).1.op)),(iV ((stM (((nth (l2) (s)))) (((k / (((o)).toNat):Nat):Int)) (((k % (((o)).toNat):Nat):Int))).1.arg)),(V.sl (List.map cF ((stM (((nth (l2) (s)))) (((k / (((o)).toNat):Nat):Int)) (((k % (((o)).toNat):Nat):Int))).1.kids)))]])∧H 58=(bk w 24 3 (List.map cF (l2)))∧H 59=(bz 1 mapH 2 (entT (esA l2 0)))∧H 81=(bk (q+1) 3 1 (List.map cI (r++[((lkV l2 (stM (nth l2 s) ((k / o.toNat:Nat):Int) ((k % o.toNat:Nat):Int)).1))])))∧H 811=(bz (v2+1) 4 1 (List.map cB (ac++[sat t0 (((nth (l) (s)))) 0])))∧H 812=(bz v1 25 1 (List.map cL (nx)))∧True) ⟨t2,t6,t11,t12,t13,t14,(@rfl V (V.ms 81 (q+1) 0 (r.length+1))),t83,t84,h3,h6,h9,h11,rfl,h58,h59,rfl,h811,h812,trivial⟩ ?_)
   intro T H ⟨t2,t6,t11,t12,t13,t14,t15,t83,t84,h3,h6,h9,h11,h17,h58,h59,h81,h811,h812,_⟩
   refine .freeze 17 (.done ?_)
   refine fork_ (R:=fun T H=>T 2=(iV (o))∧T 6=(V.mp 6 1 0 0)∧T 11=(V.mp 11 1 0 0)∧T 12=(V.ms 58 w 0 (l2.length))∧T 13=(V.mm 59 1)∧T 14=(iV ((s:Nat):Int))∧T 15=(V.ms 81 (q+1) 0 (r.length+1))∧T 83=(iV ((i)*(o)))∧T 84=(iV ((k:Nat):Int))∧H 3=(bk 1 24 3 [[(iV (f.op)),(iV (f.arg)),(V.sl (List.map cF (f.kids)))]])∧H 6=(bk 1 45 4 [[(iV (0:Int)),(iV (0:Int)),V.nilsl,V.nilsl]])∧H 9=(bk 1 24 3 [[(iV ((simp_ f).1.op)),(iV ((simp_ f).1.arg)),(V.sl (List.map cF ((simp_ f).1.kids)))]])∧H 11=(bk 1 45 4 [[(iV ((i)*(o))),(iV (0:Int)),(V.ms 812 v1 0 (nx.length)),(V.ms 811 (v2+1) 0 (ac.length+1))]])∧((H 17).ver=v17+1∧(H 17).live=false)∧H 58=(bk w 24 3 (List.map cF (l2)))∧H 59=(bz 1 mapH 2 (entT (esA l2 0)))∧H 81=(bk (q+1) 3 1 (List.map cI (r++[((lkV l2 (stM (nth l2 s) ((k / o.toNat:Nat):Int) ((k % o.toNat:Nat):Int)).1))])))∧H 811=(bz (v2+1) 4 1 (List.map cB (ac++[sat t0 (((nth (l) (s)))) 0])))∧H 812=(bz v1 25 1 (List.map cL (nx)))∧True) ⟨(fzT_q t2 rfl),(fzT_q t6 rfl),(fzT_q t11 rfl),(fzT_q t12 (fzq_other (by decide))),(fzT_q t13 rfl),(fzT_q t14 rfl),(fzT_q t15 (fzq_other (by decide))),(fzT_q t83 rfl),(fzT_q t84 rfl),(kill_ne h3 (by decide)),(kill_ne h6 (by decide)),(kill_ne h9 (by decide)),(kill_ne h11 (by decide)),(kill_self (congrArg Blk.ver h17)),(kill_ne h58 (by decide)),(kill_ne h59 (by decide)),(kill_ne h81 (by decide)),(kill_ne h811 (by decide)),(kill_ne h812 (by decide)),trivial⟩ ?_
   intro T H ⟨t2,t6,t11,t12,t13,t14,t15,t83,t84,h3,h6,h9,h11,h17,h58,h59,h81,h811,h812,_⟩
   refine W_t (R_addN t84 (@rfl V (iV ((1:Nat):Int))) (by omega) (R_mv rfl (R_e ?_)))
   refine p112 _ _ _ ?_ ⟨(k+1),l2,(r++[((lkV l2 (stM (nth l2 s) ((k / o.toNat:Nat):Int) ((k % o.toNat:Nat):Int)).1))]),w,(q+1),(v17+1),rfl,t2,t6,t11,t12,t13,t14,(Eq.trans t15 (by simp)),t83,(Eq.trans (@rfl V (iV ((k+1:Nat):Int))) (by rfl)),h3,h6,h9,h11,h17,h58,h59,(Eq.trans h81 (by rfl)),h811,h812,?_,?_,?_,?_,?_,?_,?_⟩
   · omega
   · omega
   · rw [List.length_append,hr]; rfl
   · first|omega|(rw [List.length_append]; omega)
   · first|omega|(rw [List.length_append]; simp; omega)
   · first|exact he|(rw [nth_snoc hs2]; exact he)
   · first|exact hv2|exact val_snoc hv2 x1
   · first|exact hc2.trans (aRow_old (by omega) e1 e2)|(rw [nth_snoc hs2]; exact hc2.trans ((aRow_new (by omega) (by rw [← he] at*; exact e1) e2 e3).trans rfl))|(rw [nth_snoc hs2]; exact hc2.trans (aRow_new (by omega) e1 e2 e3))
  have hr0:=hc2.trans (aRow_end (by omega))
  refine W_seq_exit (p312 _ _ _ (x11 _ _ (fork_ (R:=fun T H=>T 2=(iV (o))∧T 6=(V.mp 6 1 0 0)∧T 11=(V.mp 11 1 0 0)∧T 12=(V.ms 58 w 0 (l2.length))∧T 13=(V.mm 59 1)∧T 14=(iV ((s:Nat):Int))∧T 15=(V.ms 81 q 0 (r.length))∧T 83=(iV ((i)*(o)))∧T 84=(iV ((k:Nat):Int))∧T 85=(V.bool (decide (((k:Nat):Int) < ((i)*(o)))))∧H 3=(bk 1 24 3 [[(iV (f.op)),(iV (f.arg)),(V.sl (List.map cF (f.kids)))]])∧H 6=(bk 1 45 4 [[(iV (0:Int)),(iV (0:Int)),V.nilsl,V.nilsl]])∧H 9=(bk 1 24 3 [[(iV ((simp_ f).1.op)),(iV ((simp_ f).1.arg)),(V.sl (List.map cF ((simp_ f).1.kids)))]])∧H 11=(bk 1 45 4 [[(iV ((i)*(o))),(iV (0:Int)),(V.ms 812 v1 0 (nx.length)),(V.ms 811 (v2+1) 0 (ac.length+1))]])∧((H 17).ver=v17∧(H 17).live=false)∧H 58=(bk w 24 3 (List.map cF (l2)))∧H 59=(bz 1 mapH 2 (entT (esA l2 0)))∧H 81=(bk q 3 1 (List.map cI (r)))∧H 811=(bz (v2+1) 4 1 (List.map cB (ac++[sat t0 (((nth (l) (s)))) 0])))∧H 812=(bz v1 25 1 (List.map cL (nx)))∧True) ⟨t2,t6,t11,t12,t13,t14,t15,t83,t84,(@rfl V (V.bool (decide (((k:Nat):Int) < ((i)*(o)))))),h3,h6,h9,h11,h17,h58,h59,h81,h811,h812,trivial⟩ ?_)))
  intro T H ⟨t2,t6,t11,t12,t13,t14,t15,t83,t84,t85,h3,h6,h9,h11,h17,h58,h59,h81,h811,h812,_⟩
  refine .freeze 81 (.done ?_)
  refine fork_ (R:=fun T H=>T 2=(iV (o))∧T 6=(V.mp 6 1 0 0)∧T 11=(V.mp 11 1 0 0)∧T 12=(V.ms 58 w 0 (l2.length))∧T 13=(V.mm 59 1)∧T 14=(iV ((s:Nat):Int))∧T 15=(ints r)∧T 83=(iV ((i)*(o)))∧T 84=(iV ((k:Nat):Int))∧T 85=(V.bool (decide (((k:Nat):Int) < ((i)*(o)))))∧H 3=(bk 1 24 3 [[(iV (f.op)),(iV (f.arg)),(V.sl (List.map cF (f.kids)))]])∧H 6=(bk 1 45 4 [[(iV (0:Int)),(iV (0:Int)),V.nilsl,V.nilsl]])∧H 9=(bk 1 24 3 [[(iV ((simp_ f).1.op)),(iV ((simp_ f).1.arg)),(V.sl (List.map cF ((simp_ f).1.kids)))]])∧H 11=(bk 1 45 4 [[(iV ((i)*(o))),(iV (0:Int)),(V.ms 812 v1 0 (nx.length)),(V.ms 811 (v2+1) 0 (ac.length+1))]])∧((H 17).ver=v17∧(H 17).live=false)∧H 58=(bk w 24 3 (List.map cF (l2)))∧H 59=(bz 1 mapH 2 (entT (esA l2 0)))∧((H 81).ver=q∧(H 81).live=false)∧H 811=(bz (v2+1) 4 1 (List.map cB (ac++[sat t0 (((nth (l) (s)))) 0])))∧H 812=(bz v1 25 1 (List.map cL (nx)))∧True) ⟨(fzT_q t2 rfl),(fzT_q t6 rfl),(fzT_q t11 rfl),(fzT_q t12 (fzq_other (by decide))),(fzT_q t13 rfl),(fzT_q t14 rfl),(fzT_q t15 (fzq_own h81 (by simp) (l:=r) rfl (by rfl))),(fzT_q t83 rfl),(fzT_q t84 rfl),(fzT_q t85 rfl),(kill_ne h3 (by decide)),(kill_ne h6 (by decide)),(kill_ne h9 (by decide)),(kill_ne h11 (by decide)),(kill_dead h17),(kill_ne h58 (by decide)),(kill_ne h59 (by decide)),(kill_self (congrArg Blk.ver h81)),(kill_ne h811 (by decide)),(kill_ne h812 (by decide)),trivial⟩ ?_
  intro T H ⟨t2,t6,t11,t12,t13,t14,t15,t83,t84,t85,h3,h6,h9,h11,h17,h58,h59,h81,h811,h812,_⟩
  refine W_t (R_fk t11 h11 (R_lk rfl h11 rfl rfl (R_mv t15 (R_bslice rfl rfl (R_append1 (l:=nx) (f:=cL) (x:=r) (@rfl V (V.ms 812 v1 0 (nx.length))) h812 (by rfl) (@rfl V (V.sl [[(ints r)]])) rfl rfl (by omega) (by omega) (R_fk t11 h11 (R_sk rfl rfl rfl h11 rfl rfl rfl rfl rfl ?_)))))))
  refine R_e (n10 _ _ (.done (W_t (R_mv t14 (R_addN rfl (@rfl V (iV ((1:Nat):Int))) (by omega) (R_mv rfl (R_e ?_)))))))
  refine p18 _ _ _ ?_ ⟨(s+1),l2,(nx++[r]),(ac++[sat t0 (nth l s) 0]),w,(v1+1),(v2+1),v17,q,rfl,t2,t6,t11,t12,t13,(Eq.trans (@rfl V (iV ((s+1:Nat):Int))) (by rfl)),h3,h6,h9,(Eq.trans (@rfl Blk (bk 1 45 4 [[(iV ((i)*(o))),(iV (0:Int)),(V.ms 812 (v1+1) 0 (nx.length+1)),(V.ms 811 (v2+1) 0 (ac.length+1))]])) (by (simp [cF_eq]; done))),h17,h58,h59,h81,(Eq.trans h811 (by rfl)),(Eq.trans (@rfl Blk (bz (v1+1) 25 1 (List.map cL (nx++[r])))) (by rfl)),?_,?_,?_,?_,?_⟩
  · omega
  · omega
  · exact hl2
  · exact ⟨by rw [List.length_append,hn.1]; rfl,by rw [List.length_append,hn.2]; rfl⟩
  · exact hv2
  · exact hc.trans (aOut_go (by omega) hl hr0)
 have d9:=atm_g d0 d2 d3 (hc.trans (aOut_end (by omega)))
 refine W_seq_exit (p38 _ _ _ (x7 _ _ (.done (W_r (R_lk t11 h11 rfl rfl (R_sk t6 rfl rfl h6 rfl rfl rfl rfl rfl (R_mv rfl ?_)))))))
 refine R_e (W_ret ?_)
 refine RetC_2 (resV_c (u:=(V.agg [(iV ((i)*(o))),(iV (0:Int)),(V.ms 812 v1 0 (nx.length)),(V.ms 811 v2 0 (ac.length))])) t6 (@rfl Blk (bk 1 45 4 [[(iV ((i)*(o))),(iV (0:Int)),(V.ms 812 v1 0 (nx.length)),(V.ms 811 v2 0 (ac.length))]])) (lB oB rfl rfl)) (resV_t (@rfl V (iV (0:Int)))) (fz_aggL (mcons (fz_int ?_) (mcons (fz_int ?_) (mcons (fz_ms h812 (by simp) (l:=nx) rfl (by rfl) (fun _=>by simp) ?_) (mcons (fz_ms h811 (by simp) (l:=ac) rfl (by rfl) (fun _=>by simp) ?_) rfl))))) (fz_int ?_)
 · rw [d9]; try rfl
 · rw [d9]; try rfl
 · rw [d9]; try rfl
 · rw [d9]; try rfl
 · rw [d9]; try rfl
end Go.Proofs.YteehaobohaecmaaDoor
namespace Go.Proofs.YteehaobohaecmaaDoor
open Go Go.Proofs
def r16_1:List SO:=[
 qF 6 0 2,
 ql 7 6,
 qF 8 0 3,
 ql 9 8,
 qP 10 .neq 7 9,
 qM 11 10,
 ⟨some (11,false),some 12,.fld 1 (.t 2)⟩,
 ⟨some (11,false),some 13,.load false 1 (.t 12)⟩,
 ⟨some (11,false),some 14,.fld 1 (.t 3)⟩,
 ⟨some (11,false),some 15,.load false 1 (.t 14)⟩,
 ⟨some (11,false),some 16,.bin .neq (.t 13) (.t 15)⟩,
 sO 17 (.pick (.t 11) (.c (.bool true)) (.t 16)),
 qM 18 17,
 ⟨some (18,false),some 19,.fld 2 (.t 2)⟩,
 ⟨some (18,false),some 20,.load false 1 (.t 19)⟩,
 ⟨some (18,false),some 21,.fld 2 (.t 3)⟩,
 ⟨some (18,false),some 22,.load false 1 (.t 21)⟩,
 ⟨some (18,false),some 23,.call false 28 [.t 20,.t 22]⟩,
 ⟨some (18,false),some 24,.un .not (.t 23)⟩,
 sO 25 (.pick (.t 18) (.c (.bool true)) (.t 24)),
 qM 26 25,
 ⟨some (26,false),some 27,.fld 3 (.t 2)⟩,
 ⟨some (26,false),some 28,.load false 1 (.t 27)⟩,
 ⟨some (26,false),some 29,.len (.t 28)⟩,
 ⟨some (26,false),some 30,.fld 3 (.t 3)⟩,
 ⟨some (26,false),some 31,.load false 1 (.t 30)⟩,
 ⟨some (26,false),some 32,.len (.t 31)⟩,
 ⟨some (26,false),some 33,.bin .neq (.t 29) (.t 32)⟩,
 sO 34 (.pick (.t 26) (.c (.bool true)) (.t 33))]
def r16_6:List SO:=[
 qF 42 3 2,
 ql 43 42,
 qM 44 5,
 qA 45 1 43 44,
 ql 46 45,
 qF 47 3 3,
 ql 48 47,
 qM 49 5,
 qA 50 1 48 49,
 ql 51 50,
 sO 52 (.bbin .neq (.t 46) (.t 51))]
def b16_0:SC:=.seq (.seq (.reg [qM 35 5,qF 36 3 2,ql 37 36,qN 38 37,qP 39 .lss 35 38]) (.cond (.t 39) (.skip) (.exit 0))) (.seq (.block 1 (.seq (.reg r16_6) (.cond (.t 52) (.seq (.reg [sO 4 (.mv (.c (.bool false)))]) (.ret)) (.skip)))) (.reg [qM 40 5,qC 41 .add 40 1,qM 5 41]))
def s16:SF:=⟨53,[.tmp 4],.seq (.reg [sO 2 (.box 45 4 (.t 0)),sO 3 (.box 45 4 (.t 1)),sO 4 (.mv (.c (.bool false)))]) (.seq (.seq (.reg r16_1) (.cond (.t 34) (.seq (.reg [sO 4 (.mv (.c (.bool false)))]) (.ret)) (.skip))) (.seq (.seq (.reg [qI 5 0]) (.block 0 (.loop b16_0))) (.seq (.reg [sO 4 (.mv (.c (.bool true)))]) (.ret))))⟩
theorem s16_ok:slimF Tryd.prog ⟨[32,48,55,93,94,95,100],[],[],[]⟩ Tryd.f16=some s16:=by kernel_rfl
def r28_6:List SO:=[
 qM 17 0,
 qM 18 5,
 qA 19 1 17 18,
 ql 20 19,
 qM 21 1,
 qM 22 5,
 qA 23 1 21 22,
 ql 24 23,
 sO 25 (.call false 42 [.t 20,.t 24]),
 sO 26 (.un .not (.t 25))]
def b28_0:SC:=.seq (.seq (.reg [qM 11 5,qM 12 0,qN 13 12,qP 14 .lss 11 13]) (.cond (.t 14) (.skip) (.exit 0))) (.seq (.block 1 (.seq (.reg r28_6) (.cond (.t 26) (.seq (.reg [sO 4 (.mv (.c (.bool false)))]) (.ret)) (.skip)))) (.reg [qM 15 5,qC 16 .add 15 1,qM 5 16]))
def s28:SF:=⟨27,[.tmp 4],.seq (.reg [sO 4 (.mv (.c (.bool false)))]) (.seq (.seq (.reg [qM 6 0,qN 7 6,qM 8 1,qN 9 8,qP 10 .neq 7 9]) (.cond (.t 10) (.seq (.reg [sO 4 (.mv (.c (.bool false)))]) (.ret)) (.skip))) (.seq (.seq (.reg [qI 5 0]) (.block 0 (.loop b28_0))) (.seq (.reg [sO 4 (.mv (.c (.bool true)))]) (.ret))))⟩
theorem s28_ok:slimF Tryd.prog ⟨[32,48,55,93,94,95,100],[],[],[]⟩ Tryd.f28=some s28:=by kernel_rfl
def r42_1:List SO:=[
 qM 5 0,
 qN 6 5,
 qM 7 1,
 qN 8 7,
 qP 9 .eql 6 8,
 qM 10 9,
 ⟨some (10,true),some 11,.mv (.t 0)⟩,
 ⟨some (10,true),some 12,.mv (.t 1)⟩,
 ⟨some (10,true),some 13,.call false 51 [.t 11,.t 12]⟩,
 ⟨some (10,true),some 14,.mv (.t 0)⟩,
 ⟨some (10,true),some 15,.len (.t 14)⟩,
 ⟨some (10,true),some 16,.bin .eql (.t 13) (.t 15)⟩,
 sO 17 (.pick (.t 10) (.t 16) (.c (.bool false))),
 qM 4 17]
def s42:SF:=⟨18,[.tmp 4],.seq (.reg [sO 4 (.mv (.c (.bool false)))]) (.seq (.reg r42_1) (.ret))⟩
theorem s42_ok:slimF Tryd.prog ⟨[32,48,55,93,94,95,100],[],[],[]⟩ Tryd.f42=some s42:=by kernel_rfl
def r51_2:List SO:=[
 qM 6 5,
 qM 7 0,
 qN 8 7,
 qP 9 .lss 6 8,
 qM 10 9,
 ⟨some (10,true),some 11,.mv (.t 5)⟩,
 ⟨some (10,true),some 12,.mv (.t 1)⟩,
 ⟨some (10,true),some 13,.len (.t 12)⟩,
 ⟨some (10,true),some 14,.bin .lss (.t 11) (.t 13)⟩,
 sO 15 (.pick (.t 10) (.t 14) (.c (.bool false))),
 qM 16 15,
 ⟨some (16,true),some 17,.mv (.t 0)⟩,
 ⟨some (16,true),some 18,.mv (.t 5)⟩,
 ⟨some (16,true),some 19,.idx 1 (.t 17) (.t 18)⟩,
 ⟨some (16,true),some 20,.load false 1 (.t 19)⟩,
 ⟨some (16,true),some 21,.mv (.t 1)⟩,
 ⟨some (16,true),some 22,.mv (.t 5)⟩,
 ⟨some (16,true),some 23,.idx 1 (.t 21) (.t 22)⟩,
 ⟨some (16,true),some 24,.load false 1 (.t 23)⟩,
 ⟨some (16,true),some 25,.bin .eql (.t 20) (.t 24)⟩,
 sO 26 (.pick (.t 16) (.t 25) (.c (.bool false)))]
def b51_0:SC:=.seq (.seq (.reg r51_2) (.cond (.t 26) (.skip) (.exit 0))) (.block 1 (.reg [qM 27 5,qC 28 .add 27 1,qM 5 28]))
def s51:SF:=⟨30,[.tmp 4],.seq (.reg [qI 4 0]) (.seq (.reg [qI 5 0]) (.seq (.block 0 (.loop b51_0)) (.seq (.reg [qM 29 5,qM 4 29]) (.ret))))⟩
theorem s51_ok:slimF Tryd.prog ⟨[32,48,55,93,94,95,100],[],[],[]⟩ Tryd.f51=some s51:=by kernel_rfl
theorem rcommon_pure (a b:List Int):PureC Tryd.prog 51 [(ints a),(ints b)] (iV ((cmn a b:Nat):Int)):=by
 refine pW Tryd.func51 s51_ok fun hB=>?_
 unfold s51
 dsimp only
 refine W_r (R_mv rfl (R_e (W_r (R_mv rfl (R_e (W_seq_blockg fun Q1 n1 x1 y1 z1=>?_))))))
 refine W_loop (fun mm T H=> ∃ (k:Nat),mm=a.length - k∧T 0=(ints a)∧T 1=(ints b)∧T 5=(iV ((k:Nat):Int))∧(k≤a.length)∧(k≤cmn a b)) ?_ ?_
 ·
  refine ⟨_,0,rfl,rfl,rfl,(Eq.trans (@rfl V (iV (0:Int))) rfl),?_,?_⟩
  · omega
  · exact Nat.zero_le _
 intro mm T H ⟨k,hmm,t0,t1,t5,hk,hc⟩ Q2 p12 p22 p32
 unfold b51_0
 refine W_seq_seq (W_r (R_mv t5 (R_mv t0 (R_len rfl (R_lss rfl rfl (R_mv rfl ?_))))))
 refine Ops_seg 5 (fun T H=>T 0=(ints a)∧T 1=(ints b)∧T 5=(iV ((k:Nat):Int))∧T 15=(V.bool (decide ((((k:Nat):Int) < ((a.length:Nat):Int))∧(((k:Nat):Int) < ((b.length:Nat):Int)))))∧True) ?_ ?_
 ·
  by_cases g3:((k:Nat):Int) < ((a.length:Nat):Int)
  ·
   refine G_yes (edT g3 rfl) (R_mv t5 (G_yes (edT g3 rfl) (R_mv t1 (G_yes (edT g3 rfl) (R_len rfl (G_yes (edT g3 rfl) (R_lss rfl rfl ?_)))))))
   refine R_pickT (edT g3 rfl) rfl ?_
   exact ⟨t0,t1,t5,(dec_andT g3),trivial⟩
  ·
   refine G_n (edF g3 rfl) (G_n (edF g3 rfl) (G_n (edF g3 rfl) (G_n (edF g3 rfl) (R_pickF (edF g3 rfl) rfl ?_))))
   exact ⟨t0,t1,t5,(dec_andF g3),trivial⟩
 intro T H ⟨t0,t1,t5,t15,_⟩
 refine R_mv t15 ?_
 refine Ops_seg 10 (fun T H=>T 0=(ints a)∧T 1=(ints b)∧T 5=(iV ((k:Nat):Int))∧T 26=(V.bool (decide (((((k:Nat):Int) < ((a.length:Nat):Int))∧(((k:Nat):Int) < ((b.length:Nat):Int)))∧(((nth (a) (k)))=((nth (b) (k)))))))∧True) ?_ ?_
 ·
  by_cases g4:(((k:Nat):Int) < ((a.length:Nat):Int))∧(((k:Nat):Int) < ((b.length:Nat):Int))
  ·
   refine G_yes (edT g4 rfl) (R_mv t0 (G_yes (edT g4 rfl) (R_mv t5 (G_yes (edT g4 rfl) (R_idx (i:=k) (@rfl V (ints a)) (@rfl V (iV ((k:Nat):Int))) (by omega) rfl (G_yes (edT g4 rfl) (R_load_pp rfl rfl ?_)))))))
   refine G_yes (edT g4 rfl) (R_mv t1 (G_yes (edT g4 rfl) (R_mv t5 (G_yes (edT g4 rfl) (R_idx (i:=k) (@rfl V (ints b)) (@rfl V (iV ((k:Nat):Int))) (by omega) rfl (G_yes (edT g4 rfl) (R_load_pp rfl rfl ?_)))))))
   refine G_yes (edT g4 rfl) (R_eql rfl rfl (R_pickT (edT g4 rfl) rfl ?_))
   exact ⟨t0,t1,t5,(dec_andT g4),trivial⟩
  ·
   refine G_n (edF g4 rfl) (G_n (edF g4 rfl) (G_n (edF g4 rfl) (G_n (edF g4 rfl) (G_n (edF g4 rfl) (G_n (edF g4 rfl) (G_n (edF g4 rfl) (G_n (edF g4 rfl) ?_)))))))
   refine G_n (edF g4 rfl) (R_pickF (edF g4 rfl) rfl ?_)
   exact ⟨t0,t1,t5,(dec_andF g4),trivial⟩
 intro T H ⟨t0,t1,t5,t26,_⟩
 refine R_e ?_
 refine W_seq_if t26 (fun c5=>?_) fun c5=>?_
 ·
  refine W_seq_skip (W_block fun Q6 n6 x6 y6 z6=>(W_t (R_mv t5 (R_addN rfl (@rfl V (iV ((1:Nat):Int))) (by omega) (R_mv rfl (R_e (n6 _ _ ?_)))))))
  refine p12 _ _ _ ?_ ⟨(k+1),rfl,t0,t1,(Eq.trans (@rfl V (iV ((k+1:Nat):Int))) (by rfl)),?_,?_⟩
  · omega
  · omega
  · exact cmn_next hc (by omega) (by omega) (by omega)
 refine W_seq_exit (p32 _ _ _ (x1 _ _ (.done (W_r (R_mv t5 (R_mv rfl (R_e ?_)))))))
 refine W_ret ?_
 refine Ret_1 (@rfl V (iV ((k:Nat):Int))) (fz_int ?_)
 · rw [cmn_at hc (by omega)]
end Go.Proofs.YteehaobohaecmaaDoor
namespace Go.Proofs.YteehaobohaecmaaDoor
theorem same_dec (a b:List Int):decide ((a.length:Int)=(b.length:Int)∧(cmn a b:Int)=(a.length:Int))=decide (a=b):=by
  have h:=cmn_spec a b
  refine decide_eq_decide.2 ⟨fun ⟨e1,e2⟩=>nth_ext (by omega) fun j hj=>h.2.2.1 j (by omega),fun e=>?_⟩
  subst e
  have:cmn a a=a.length:=by
    rcases Nat.lt_or_ge (cmn a a) a.length with q|q
    · exact (h.2.2.2 q q rfl).elim
    · omega
  exact ⟨rfl,by omega⟩
end Go.Proofs.YteehaobohaecmaaDoor
namespace Go.Proofs.YteehaobohaecmaaDoor
open Go Go.Proofs
theorem rsame1_pure (a b:List Int):PureC Tryd.prog 42 [(ints a),(ints b)] (V.bool (decide (a=b))):=by
 refine pW Tryd.func42 s42_ok fun hB=>?_
 unfold s42
 dsimp only
 refine W_r (R_mv rfl (R_e (W_r (R_mv rfl (R_len rfl (R_mv rfl (R_len rfl ?_)))))))
 refine R_eql rfl rfl (R_mv rfl ?_)
 refine Ops_seg 7 (fun T H=>T 17=(V.bool (decide ((((a.length:Nat):Int)=((b.length:Nat):Int))∧(((cmn a b:Nat):Int)=((a.length:Nat):Int)))))∧True) ?_ ?_
 ·
  by_cases g1:((a.length:Nat):Int)=((b.length:Nat):Int)
  ·
   refine G_yes (edT g1 rfl) (R_mv rfl (G_yes (edT g1 rfl) (R_mv rfl (G_yes (edT g1 rfl) ?_))))
   have q2:=cmn_l a b
   have q3:=cmn_r a b
   refine R_callk (rcommon_pure a b) rfl (G_yes (edT g1 rfl) (R_mv rfl (G_yes (edT g1 rfl) (R_len rfl (G_yes (edT g1 rfl) (R_eql rfl rfl (R_pickT (edT g1 rfl) rfl ?_)))))))
   exact ⟨(dec_andT g1),trivial⟩
  ·
   refine G_n (edF g1 rfl) (G_n (edF g1 rfl) (G_n (edF g1 rfl) (G_n (edF g1 rfl) (G_n (edF g1 rfl) (G_n (edF g1 rfl) (R_pickF (edF g1 rfl) rfl ?_))))))
   exact ⟨(dec_andF g1),trivial⟩
 intro T H ⟨t17,_⟩
 refine R_mv t17 (R_e (W_ret ?_))
 refine Ret_1 (@rfl V (V.bool (decide ((((a.length:Nat):Int)=((b.length:Nat):Int))∧(((cmn a b:Nat):Int)=((a.length:Nat):Int)))))) (fz_bool ?_)
 · exact same_dec a b
theorem swords_pure (a b:List (List Int)):PureC Tryd.prog 28 [(intss a),(intss b)] (V.bool (decide (a=b))):=by
 refine pW Tryd.func28 s28_ok fun hB=>?_
 unfold s28
 dsimp only
 refine W_r (R_mv rfl (R_e (W_seq_seq (W_r (R_mv rfl (R_len rfl (R_mv rfl ?_)))))))
 refine R_len rfl (R_neq rfl rfl (R_e ?_))
 refine W_seq_if rfl (fun c1=>?_) fun c1=>?_
 ·
  refine W_seq_seq (W_r (R_mv rfl (R_e (W_seq_ret ?_))))
  refine Ret_1 (@rfl V (V.bool false)) (fz_bool ?_)
  · exact (decide_eq_false (fun e=>by subst e; omega)).symm
 refine W_seq_skip (W_seq_seq (W_r (R_mv rfl (R_e (W_seq_blockg fun Q2 n2 x2 y2 z2=>?_)))))
 refine W_loop (fun mm T H=> ∃ (k:Nat),mm=a.length - k∧T 0=(intss a)∧T 1=(intss b)∧T 5=(iV ((k:Nat):Int))∧(k≤a.length)∧(a.length=b.length)∧(∀ j,j < k→nth a j=nth b j)) ?_ ?_
 ·
  refine ⟨_,0,rfl,rfl,rfl,(Eq.trans (@rfl V (iV (0:Int))) rfl),?_,?_,?_⟩
  · omega
  · omega
  · intro j hj; omega
 intro mm T H ⟨k,hmm,t0,t1,t5,hk,hl,hc⟩ Q3 p13 p23 p33
 unfold b28_0
 refine W_seq_seq (W_r (R_mv t5 (R_mv t0 (R_len rfl (R_lss rfl rfl (R_e ?_))))))
 refine W_seq_if rfl (fun c4=>?_) fun c4=>?_
 ·
  refine W_seq_skip (W_seq_blockg fun Q5 n5 x5 y5 z5=>(W_r (R_mv t0 (R_mv t5 (R_idx (i:=k) (@rfl V (intss a)) (@rfl V (iV ((k:Nat):Int))) (by omega) rfl (R_load_pp rfl rfl (R_mv t1 ?_)))))))
  refine R_mv t5 (R_idx (i:=k) (@rfl V (intss b)) (@rfl V (iV ((k:Nat):Int))) (by omega) rfl (R_load_pp rfl rfl (R_callk (rsame1_pure ((nth (a) (k))) ((nth (b) (k)))) rfl (R_not rfl (R_e ?_)))))
  refine W_if rfl (fun c6=>?_) fun c6=>?_
  ·
   have d1:=c6
   refine W_r (R_mv rfl (R_e (W_ret (y5 _ _ (p23 _ _ (y2 _ _ ?_))))))
   refine Ret_1 (@rfl V (V.bool false)) (fz_bool ?_)
   · exact (decide_eq_false (fun e=>d1 (by subst e; rfl))).symm
  have d1:=Decidable.not_not.1 c6
  refine W_skip (n5 _ _ (.done (W_t (R_mv t5 (R_addN rfl (@rfl V (iV ((1:Nat):Int))) (by omega) (R_mv rfl (R_e ?_)))))))
  refine p13 _ _ _ ?_ ⟨(k+1),rfl,t0,t1,(Eq.trans (@rfl V (iV ((k+1:Nat):Int))) (by rfl)),?_,?_,?_⟩
  · omega
  · omega
  · omega
  · intro j hj
    by_cases e:j=k
    · subst e; exact d1
    · exact hc j (by omega)
 refine W_seq_exit (p33 _ _ _ (x2 _ _ (.done (W_r (R_mv rfl (R_e (W_ret ?_)))))))
 refine Ret_1 (@rfl V (V.bool true)) (fz_bool ?_)
 · exact (decide_eq_true (nth_ext hl fun j hj=>hc j (by omega))).symm
theorem dfsame_pure (a b:Df):PureC Tryd.prog 16 [(V.agg [(iV (a.inp)),(iV (a.st)),(intss a.nx),(V.sl (List.map cB (a.ac)))]),(V.agg [(iV (b.inp)),(iV (b.st)),(intss b.nx),(V.sl (List.map cB (b.ac)))])] (V.bool (decide (a=b))):=by
 refine pW Tryd.func16 s16_ok fun hB=>?_
 unfold s16
 dsimp only
 refine W_r (R_box (i:=2) (n:=0) (m:=4) (cs:=[(iV (a.inp)),(iV (a.st)),(intss a.nx),(V.sl (List.map cB (a.ac)))]) rfl (congrArg Blk.ver rfl) rfl rfl rfl (R_box (i:=3) (n:=0) (m:=4) (cs:=[(iV (b.inp)),(iV (b.st)),(intss b.nx),(V.sl (List.map cB (b.ac)))]) rfl (congrArg Blk.ver rfl) rfl rfl rfl (R_mv rfl (R_e (W_seq_seq (W_r (R_fk rfl rfl ?_)))))))
 refine R_lk rfl rfl rfl rfl (R_fk rfl rfl (R_lk rfl rfl rfl rfl (R_neq rfl rfl (R_mv rfl ?_))))
 refine Ops_seg 6 (fun T H=>T 2=(V.mp 2 1 0 0)∧T 3=(V.mp 3 1 0 0)∧T 17=(V.bool (decide (((a.inp)≠(b.inp))∨((a.st)≠(b.st)))))∧H 2=(bk 1 45 4 [[(iV (a.inp)),(iV (a.st)),(intss a.nx),(V.sl (List.map cB (a.ac)))]])∧H 3=(bk 1 45 4 [[(iV (b.inp)),(iV (b.st)),(intss b.nx),(V.sl (List.map cB (b.ac)))]])∧True) ?_ ?_
 ·
  by_cases g1:(a.inp)≠(b.inp)
  ·
   refine G_n (edT g1 rfl) (G_n (edT g1 rfl) (G_n (edT g1 rfl) (G_n (edT g1 rfl) (G_n (edT g1 rfl) (R_pickT (edT g1 rfl) rfl ?_)))))
   exact ⟨rfl,rfl,(dec_orT g1),rfl,rfl,trivial⟩
  ·
   refine G_yes (edF g1 rfl) (R_fk rfl rfl (G_yes (edF g1 rfl) (R_lk rfl rfl rfl rfl (G_yes (edF g1 rfl) (R_fk rfl rfl (G_yes (edF g1 rfl) (R_lk rfl rfl rfl rfl ?_)))))))
   refine G_yes (edF g1 rfl) (R_neq rfl rfl (R_pickF (edF g1 rfl) rfl ?_))
   exact ⟨rfl,rfl,(dec_orF g1),rfl,rfl,trivial⟩
 intro T H ⟨t2,t3,t17,h2,h3,_⟩
 refine R_mv t17 ?_
 refine Ops_seg 7 (fun T H=>T 2=(V.mp 2 1 0 0)∧T 3=(V.mp 3 1 0 0)∧T 25=(V.bool (decide ((((a.inp)≠(b.inp))∨((a.st)≠(b.st)))∨(¬(a.nx=b.nx)))))∧H 2=(bk 1 45 4 [[(iV (a.inp)),(iV (a.st)),(intss a.nx),(V.sl (List.map cB (a.ac)))]])∧H 3=(bk 1 45 4 [[(iV (b.inp)),(iV (b.st)),(intss b.nx),(V.sl (List.map cB (b.ac)))]])∧True) ?_ ?_
 ·
  by_cases g2:((a.inp)≠(b.inp))∨((a.st)≠(b.st))
  ·
   refine G_n (edT g2 rfl) (G_n (edT g2 rfl) (G_n (edT g2 rfl) (G_n (edT g2 rfl) (G_n (edT g2 rfl) (G_n (edT g2 rfl) (R_pickT (edT g2 rfl) rfl ?_))))))
   exact ⟨t2,t3,(dec_orT g2),h2,h3,trivial⟩
  ·
   refine G_yes (edF g2 rfl) (R_fk t2 h2 (G_yes (edF g2 rfl) (R_lk rfl h2 rfl rfl (G_yes (edF g2 rfl) (R_fk t3 h3 (G_yes (edF g2 rfl) (R_lk rfl h3 rfl rfl ?_)))))))
   refine G_yes (edF g2 rfl) (R_callk (swords_pure a.nx b.nx) rfl (G_yes (edF g2 rfl) (R_not rfl (R_pickF (edF g2 rfl) rfl ?_))))
   exact ⟨t2,t3,(dec_orF g2),h2,h3,trivial⟩
 intro T H ⟨t2,t3,t25,h2,h3,_⟩
 refine R_mv t25 ?_
 refine Ops_seg 8 (fun T H=>T 2=(V.mp 2 1 0 0)∧T 3=(V.mp 3 1 0 0)∧T 34=(V.bool (decide (((((a.inp)≠(b.inp))∨((a.st)≠(b.st)))∨(¬(a.nx=b.nx)))∨(((a.ac.length:Nat):Int)≠((b.ac.length:Nat):Int)))))∧H 2=(bk 1 45 4 [[(iV (a.inp)),(iV (a.st)),(intss a.nx),(V.sl (List.map cB (a.ac)))]])∧H 3=(bk 1 45 4 [[(iV (b.inp)),(iV (b.st)),(intss b.nx),(V.sl (List.map cB (b.ac)))]])∧True) ?_ ?_
 ·
  by_cases g3:(((a.inp)≠(b.inp))∨((a.st)≠(b.st)))∨(¬(a.nx=b.nx))
  ·
   refine G_n (edT g3 rfl) (G_n (edT g3 rfl) (G_n (edT g3 rfl) (G_n (edT g3 rfl) (G_n (edT g3 rfl) (G_n (edT g3 rfl) (G_n (edT g3 rfl) (R_pickT (edT g3 rfl) rfl ?_)))))))
   exact ⟨t2,t3,(dec_orT g3),h2,h3,trivial⟩
  ·
   refine G_yes (edF g3 rfl) (R_fk t2 h2 (G_yes (edF g3 rfl) (R_lk rfl h2 rfl rfl (G_yes (edF g3 rfl) (R_len rfl (G_yes (edF g3 rfl) (R_fk t3 h3 ?_)))))))
   refine G_yes (edF g3 rfl) (R_lk rfl h3 rfl rfl (G_yes (edF g3 rfl) (R_len rfl (G_yes (edF g3 rfl) (R_neq rfl rfl (R_pickF (edF g3 rfl) rfl ?_))))))
   exact ⟨t2,t3,(dec_orF g3),h2,h3,trivial⟩
 intro T H ⟨t2,t3,t34,h2,h3,_⟩
 refine R_e ?_
 refine W_seq_if t34 (fun c4=>?_) fun c4=>?_
 ·
  have d1:=c4
  refine W_seq_seq (W_r (R_mv rfl (R_e (W_seq_ret ?_))))
  refine Ret_1 (@rfl V (V.bool false)) (fz_bool ?_)
  · exact (decide_eq_false fun e=>by subst e; simp at d1).symm
 have d1:=c4
 refine W_seq_skip (W_seq_seq (W_r (R_mv rfl (R_e (W_seq_blockg fun Q5 n5 x5 y5 z5=>?_)))))
 refine W_loop (fun mm T H=> ∃ (k:Nat),mm=a.ac.length - k∧T 2=(V.mp 2 1 0 0)∧T 3=(V.mp 3 1 0 0)∧T 5=(iV ((k:Nat):Int))∧H 2=(bk 1 45 4 [[(iV (a.inp)),(iV (a.st)),(intss a.nx),(V.sl (List.map cB (a.ac)))]])∧H 3=(bk 1 45 4 [[(iV (b.inp)),(iV (b.st)),(intss b.nx),(V.sl (List.map cB (b.ac)))]])∧(k≤a.ac.length)∧(a.ac.length=b.ac.length)∧(∀ j,j < k→nth a.ac j=nth b.ac j)) ?_ ?_
 ·
  refine ⟨_,0,rfl,t2,t3,(Eq.trans (@rfl V (iV (0:Int))) rfl),h2,h3,?_,?_,?_⟩
  · omega
  · omega
  · intro j hj; omega
 intro mm T H ⟨k,hmm,t2,t3,t5,h2,h3,hk,hl,hc⟩ Q6 p16 p26 p36
 unfold b16_0
 refine W_seq_seq (W_r (R_mv t5 (R_fk t2 h2 (R_lk rfl h2 rfl rfl (R_len rfl (R_lss rfl rfl (R_e ?_)))))))
 refine W_seq_if rfl (fun c7=>?_) fun c7=>?_
 ·
  refine W_seq_skip (W_seq_blockg fun Q8 n8 x8 y8 z8=>(W_r (R_fk t2 h2 (R_lk rfl h2 rfl rfl (R_mv t5 (R_idx (i:=k) (@rfl V (V.sl (List.map cB (a.ac)))) (@rfl V (iV ((k:Nat):Int))) (by omega) rfl (R_load_pp rfl rfl ?_)))))))
  refine R_fk t3 h3 (R_lk rfl h3 rfl rfl (R_mv t5 (R_idx (i:=k) (@rfl V (V.sl (List.map cB (b.ac)))) (@rfl V (iV ((k:Nat):Int))) (by omega) rfl (R_load_pp rfl rfl (R_bneq (x:=((nth (a.ac) (k)))) (y:=((nth (b.ac) (k)))) rfl rfl (R_e ?_))))))
  refine W_ifb rfl (fun c9=>?_) (fun c9=>?_)
  ·
   have d2:nth a.ac k≠nth b.ac k:=by have q:=c9; simpa using q
   refine W_r (R_mv rfl (R_e (W_ret (y8 _ _ (p26 _ _ (y5 _ _ ?_))))))
   refine Ret_1 (@rfl V (V.bool false)) (fz_bool ?_)
   · exact (decide_eq_false fun e=>by subst e; exact d2 rfl).symm
  have d2:nth a.ac k=nth b.ac k:=by have q:=c9; simpa using q
  refine W_skip (n8 _ _ (.done (W_t (R_mv t5 (R_addN rfl (@rfl V (iV ((1:Nat):Int))) (by omega) (R_mv rfl (R_e ?_)))))))
  refine p16 _ _ _ ?_ ⟨(k+1),rfl,t2,t3,(Eq.trans (@rfl V (iV ((k+1:Nat):Int))) (by rfl)),h2,h3,?_,?_,?_⟩
  · omega
  · omega
  · omega
  · intro j hj
    by_cases e:j=k
    · subst e; exact d2
    · exact hc j (by omega)
 refine W_seq_exit (p36 _ _ _ (x5 _ _ (.done (W_r (R_mv rfl (R_e (W_ret ?_)))))))
 refine Ret_1 (@rfl V (V.bool true)) (fz_bool ?_)
 · exact (decide_eq_true (df_eq (by omega) (by omega) (Decidable.of_not_not fun q=>d1 (.inl (.inr q))) hl fun j hj=>hc j (by omega))).symm
def s18:SF:=⟨11,[.cell 6 true 3],.seq (.reg [sO 6 (.alloc 24 [.int .i64 0,.int .i64 0,.nilsl])]) (.seq (.reg [qM 7 0,qM 8 1,qM 9 2,sO 10 (.build [.int .i64 0,.int .i64 0,.nilsl] [(0,1,.t 7),(1,1,.t 8),(2,1,.t 9)]),sN (.store 3 (.t 6) (.t 10))]) (.ret))⟩
theorem s18_ok:slimF Tryd.prog ⟨[32,48,55,93,94,95,100],[],[],[]⟩ Tryd.f18=some s18:=by kernel_rfl
theorem lnode_pure (o a:Int) (l:List Fm):PureC Tryd.prog 18 [(iV (o)),(iV (a)),(V.sl (List.map cF (l)))] (V.agg [(iV (o)),(iV (a)),(V.sl (List.map cF (l)))]):=by
 refine pW Tryd.func18 s18_ok fun hB=>?_
 unfold s18
 dsimp only
 refine W_r (R_alloc (i:=6) (n:=0) (m:=3) rfl (congrArg Blk.ver rfl) rfl (R_e (W_r (R_mv rfl (R_mv rfl (R_mv rfl (R_build rfl rfl ?_)))))))
 refine R_sk rfl rfl rfl rfl rfl rfl rfl rfl rfl (R_e (W_ret ?_))
 refine RetC_1 (resV_c (u:=(V.agg [(iV (o)),(iV (a)),(V.sl (List.map cF (l)))])) rfl (@rfl Blk (bk 1 24 3 [[(iV (o)),(iV (a)),(V.sl (List.map cF (l)))]])) (lB oB rfl rfl)) (fz_canon (by simp) rfl)
def s19:SF:=⟨4,[.cell 0 true 3],.seq (.reg [sO 0 (.alloc 24 [.int .i64 0,.int .i64 0,.nilsl])]) (.seq (.reg [sO 1 (.call false 18 [.c (.int .i64 1),.c (.int .i64 0),.c (.nilsl)]),sO 2 (.bslice 24 3 false [.int .i64 0,.int .i64 0,.nilsl] 1 [(0,.t 1)]),sO 3 (.call false 18 [.c (.int .i64 4),.c (.int .i64 0),.t 2]),sN (.store 3 (.t 0) (.t 3))]) (.ret))⟩
theorem s19_ok:slimF Tryd.prog ⟨[32,48,55,93,94,95,100],[],[],[]⟩ Tryd.f19=some s19:=by kernel_rfl
theorem lno_pure:PureC Tryd.prog 19 [] (V.agg [(iV (4:Int)),(iV (0:Int)),(V.sl (List.map cF ([Fm.nd 1 0 []])))]):=by
 refine pW Tryd.func19 s19_ok fun hB=>?_
 unfold s19
 dsimp only
 refine W_r (R_alloc (i:=0) (n:=0) (m:=3) rfl (congrArg Blk.ver rfl) rfl (R_e (W_r (R_call (evcons (@rfl V (iV (1:Int))) (evcons (@rfl V (iV (0:Int))) (evcons (@rfl V V.nilsl) evnil))) (lnode_pure ((1:Int)) ((0:Int)) ([])) (mcons (fzv_canon 6 _ (by simp [-List.map_take,-List.map_drop,-List.map_append,-List.map_reverse])) (mcons (fzv_canon 6 _ (by simp [-List.map_take,-List.map_drop,-List.map_append,-List.map_reverse])) (mcons (by rfl) rfl))) (by simp [-List.map_take,-List.map_drop,-List.map_append,-List.map_reverse]) (Or.inl (by simp [-List.map_take,-List.map_drop,-List.map_append,-List.map_reverse])) (R_bslice rfl rfl (R_callk (lnode_pure ((4:Int)) ((0:Int)) ([(Fm.nd (1:Int) (0:Int) [])])) (evcons rfl (evcons rfl (evcons (sl_F1 (x:=((Fm.nd (1:Int) (0:Int) []))) rfl) evnil))) (R_sk rfl rfl rfl rfl rfl rfl rfl rfl rfl ?_)))))))
 refine R_e (W_ret ?_)
 refine RetC_1 (resV_c (u:=(V.agg [(iV (((4:Int)))),(iV (((0:Int)))),(V.sl (List.map cF (([(Fm.nd (1:Int) (0:Int) [])]))))])) rfl (@rfl Blk (bk 1 24 3 [[(iV (((4:Int)))),(iV (((0:Int)))),(V.sl (List.map cF (([(Fm.nd (1:Int) (0:Int) [])]))))]])) (lB oB rfl rfl)) (fz_agg3 (fz_int ?_) (fz_int ?_) (fz_sl ?_ (fun _=>by simp)))
 · first|rfl|omega|simp_all
 · first|rfl|omega|simp_all
 · first|rfl|omega|simp_all
end Go.Proofs.YteehaobohaecmaaDoor
namespace Go.Proofs.YteehaobohaecmaaDoor
open Go Go.Proofs
set_option maxRecDepth 20000
theorem aw_a:PureC Tryd.prog 9 [(V.agg [(iV (6:Int)),(iV (0:Int)),(V.sl (List.map cF ([Fm.nd 5 0 [Fm.nd 2 1 [],Fm.nd 1 0 []],Fm.nd 2 0 [],Fm.nd 5 0 [Fm.nd 2 0 [],Fm.nd 7 0 [Fm.nd 1 0 []]]])))])] (V.tup [(V.agg [(iV (6:Int)),(iV (0:Int)),(V.sl (List.map cF ([Fm.nd 2 0 [],Fm.nd 2 1 []])))]),(iV (0:Int))]):=by
  have h:=simplify_pure (Fm.nd 6 0 [Fm.nd 5 0 [Fm.nd 2 1 [],Fm.nd 1 0 []],Fm.nd 2 0 [],Fm.nd 5 0 [Fm.nd 2 0 [],Fm.nd 7 0 [Fm.nd 1 0 []]]])
  rw [show simp_ (Fm.nd 6 0 [Fm.nd 5 0 [Fm.nd 2 1 [],Fm.nd 1 0 []],Fm.nd 2 0 [],Fm.nd 5 0 [Fm.nd 2 0 [],Fm.nd 7 0 [Fm.nd 1 0 []]]])=((Fm.nd 6 0 [Fm.nd 2 0 [],Fm.nd 2 1 []]),0) from by decide+kernel] at h
  exact h
theorem aw_b:PureC Tryd.prog 11 [(V.agg [(iV (10:Int)),(iV (0:Int)),(V.sl (List.map cF ([Fm.nd 4 0 [Fm.nd 1 0 []],Fm.nd 6 0 [Fm.nd 4 0 [Fm.nd 2 0 []],Fm.nd 3 1 []]])))]),iV 0,iV 1] (V.tup [(V.agg [(iV (10:Int)),(iV (0:Int)),(V.sl (List.map cF ([Fm.nd 4 0 [Fm.nd 1 0 []],Fm.nd 6 0 [Fm.nd 3 1 [],Fm.nd 4 0 [Fm.nd 2 0 []]]])))]),(iV (0:Int))]):=by
  have h:=mstep_pure (Fm.nd 10 0 [Fm.nd 4 0 [Fm.nd 1 0 []],Fm.nd 6 0 [Fm.nd 4 0 [Fm.nd 2 0 []],Fm.nd 3 1 []]]) 0 1
  rw [show stM (Fm.nd 10 0 [Fm.nd 4 0 [Fm.nd 1 0 []],Fm.nd 6 0 [Fm.nd 4 0 [Fm.nd 2 0 []],Fm.nd 3 1 []]]) 0 1=((Fm.nd 10 0 [Fm.nd 4 0 [Fm.nd 1 0 []],Fm.nd 6 0 [Fm.nd 3 1 [],Fm.nd 4 0 [Fm.nd 2 0 []]]]),0) from by decide+kernel] at h
  exact h
theorem aw_c:PureC Tryd.prog 11 [(V.agg [(iV (10:Int)),(iV (0:Int)),(V.sl (List.map cF ([Fm.nd 4 0 [Fm.nd 1 0 []],Fm.nd 6 0 [Fm.nd 4 0 [Fm.nd 2 0 []],Fm.nd 3 1 []]])))]),iV 0,iV 0] (V.tup [(V.agg [(iV (4:Int)),(iV (0:Int)),(V.sl (List.map cF ([Fm.nd 1 0 []])))]),(iV (0:Int))]):=by
  have h:=mstep_pure (Fm.nd 10 0 [Fm.nd 4 0 [Fm.nd 1 0 []],Fm.nd 6 0 [Fm.nd 4 0 [Fm.nd 2 0 []],Fm.nd 3 1 []]]) 0 0
  rw [show stM (Fm.nd 10 0 [Fm.nd 4 0 [Fm.nd 1 0 []],Fm.nd 6 0 [Fm.nd 4 0 [Fm.nd 2 0 []],Fm.nd 3 1 []]]) 0 0=((Fm.nd 4 0 [Fm.nd 1 0 []]),0) from by decide+kernel] at h
  exact h
theorem aw_d:PureC Tryd.prog 15 [(V.agg [(iV (10:Int)),(iV (0:Int)),(V.sl (List.map cF ([Fm.nd 4 0 [Fm.nd 1 0 []],Fm.nd 6 0 [Fm.nd 4 0 [Fm.nd 2 0 []],Fm.nd 3 1 []]])))]),iV 2,iV 3] (V.tup [(V.agg [(iV (6:Int)),(iV (0:Int)),(intss ([[1,0,1,0,0,0],[1,1,1,1,1,1]])),(V.sl (List.map cB ([true,false])))]),(iV (0:Int))]):=by
  have h:=atm_pure (Fm.nd 10 0 [Fm.nd 4 0 [Fm.nd 1 0 []],Fm.nd 6 0 [Fm.nd 4 0 [Fm.nd 2 0 []],Fm.nd 3 1 []]]) 2 3
  rw [show atm (Fm.nd 10 0 [Fm.nd 4 0 [Fm.nd 1 0 []],Fm.nd 6 0 [Fm.nd 4 0 [Fm.nd 2 0 []],Fm.nd 3 1 []]]) 2 3=(⟨6,0,[[1,0,1,0,0,0],[1,1,1,1,1,1]],[true,false]⟩,0) from by decide+kernel] at h
  exact h
theorem aw_e:PureC Tryd.prog 12 [(V.agg [(iV (9:Int)),(iV (0:Int)),(V.sl (List.map cF ([Fm.nd 4 0 [Fm.nd 1 0 []]])))])] (V.tup [(V.bool true),(iV (0:Int))]):=by
  have h:=mends_pure (Fm.nd 9 0 [Fm.nd 4 0 [Fm.nd 1 0 []]])
  rw [show hoB t0 (Fm.nd 9 0 [Fm.nd 4 0 [Fm.nd 1 0 []]])=true from by decide+kernel,show hoE t0 (Fm.nd 9 0 [Fm.nd 4 0 [Fm.nd 1 0 []]])=0 from by decide+kernel] at h
  exact h
theorem aw_f:PureC Tryd.prog 12 [(V.agg [(iV (7:Int)),(iV (0:Int)),(V.sl (List.map cF ([Fm.nd 1 0 []])))])] (V.tup [(V.bool false),(iV (0:Int))]):=by
  have h:=mends_pure (Fm.nd 7 0 [Fm.nd 1 0 []])
  rw [show hoB t0 (Fm.nd 7 0 [Fm.nd 1 0 []])=false from by decide+kernel,show hoE t0 (Fm.nd 7 0 [Fm.nd 1 0 []])=0 from by decide+kernel] at h
  exact h
abbrev w7_13:=(Fm.nd (2:Int) (0:Int) [])
abbrev w7_18:=(Fm.nd (2:Int) (1:Int) [])
abbrev w7_15:=(sameF (⟨((6:Int)),((0:Int)),([Fm.nd 2 0 [],Fm.nd 2 1 []])⟩:Fm) (⟨((((6:Int)))),((((0:Int)))),(([w7_13,w7_18]))⟩:Fm))
abbrev w7_19:=(Fm.nd (3:Int) (1:Int) [])
abbrev w7_17:=(Fm.nd (4:Int) (0:Int) [w7_13])
abbrev w7_2:=([(Fm.nd (4:Int) (0:Int) [Fm.nd 1 0 []]),(Fm.nd (6:Int) (0:Int) [w7_19,w7_17])])
abbrev w7_7:=((((w7_15&&decide ((0:Int)=(0:Int))))&&(sameF (⟨((10:Int)),((0:Int)),([Fm.nd 4 0 [Fm.nd 1 0 []],Fm.nd 6 0 [Fm.nd 3 1 [],Fm.nd 4 0 [Fm.nd 2 0 []]]])⟩:Fm) (⟨((((10:Int)))),((((0:Int)))),(w7_2)⟩:Fm))))
abbrev w7_0:=((((w7_7&&decide ((0:Int)=(0:Int))))&&(sameF (⟨((4:Int)),((0:Int)),([Fm.nd 1 0 []])⟩:Fm) (⟨((4:Int)),((0:Int)),([Fm.nd 1 0 []])⟩:Fm))))
abbrev w7_1:=(bk 1 24 3 [[(iV (((10:Int)))),(iV (((0:Int)))),(V.sl (List.map cF (([(Fm.nd (4:Int) (0:Int) [Fm.nd 1 0 []]),(Fm.nd (6:Int) (0:Int) [w7_17,w7_19])]))))]])
abbrev w7_3:=((((w7_0&&decide ((0:Int)=(0:Int))))&&decide ((⟨((6:Int)),((0:Int)),([[1,0,1,0,0,0],[1,1,1,1,1,1]]),([true,false])⟩:Df)=(⟨((6:Int)),((0:Int)),([[1,0,1,0,0,0],[1,1,1,1,1,1]]),([true,false])⟩:Df))))
abbrev w7_4:=(bk 1 24 3 [[(iV (10:Int)),(iV (0:Int)),(V.sl (List.map cF ([Fm.nd 4 0 [Fm.nd 1 0 []],Fm.nd 6 0 [Fm.nd 3 1 [],Fm.nd 4 0 [Fm.nd 2 0 []]]])))]])
abbrev w7_5:=(bk 1 45 4 [[(iV (6:Int)),(iV (0:Int)),(intss ([[1,0,1,0,0,0],[1,1,1,1,1,1]])),(V.sl (List.map cB ([true,false])))]])
abbrev w7_6:=(bk 1 24 3 [[(iV (6:Int)),(iV (0:Int)),(V.sl (List.map cF ([Fm.nd 2 0 [],Fm.nd 2 1 []])))]])
abbrev w7_8:=(bk 1 24 3 [[(iV (((2:Int)))),(iV (((0:Int)))),(V.sl (List.map cF (([]))))]])
abbrev w7_9:=(bk 1 24 3 [[(iV (((2:Int)))),(iV (((1:Int)))),(V.sl (List.map cF (([]))))]])
abbrev w7_10:=(bk 1 24 3 [[(iV (((1:Int)))),(iV (((0:Int)))),(V.sl (List.map cF (([]))))]])
abbrev w7_11:=(bk 1 24 3 [[(iV (4:Int)),(iV (0:Int)),(V.sl (List.map cF ([Fm.nd 1 0 []])))]])
abbrev w7_12:=(bk 1 24 3 [[(iV (((10:Int)))),(iV (((0:Int)))),(V.sl (List.map cF (w7_2)))]])
abbrev w7_14:=((((((w7_3&&decide ((0:Int)=(0:Int))))||false))&&decide ((0:Int)=(0:Int))))
abbrev w7_16:=(Fm.nd (1:Int) (0:Int) [])
theorem aw46_pure:PureC Tryd.prog 7 [] (V.bool true):=by
 refine pW Tryd.func7 s7_ok fun hB=>?_
 unfold s7
 dsimp only
 refine W_r (R_mv rfl (R_e (W_r (R_call (evcons (@rfl V (iV (2:Int))) (evcons (@rfl V (iV (0:Int))) (evcons (@rfl V V.nilsl) evnil))) (lnode_pure ((2:Int)) ((0:Int)) ([])) (mcons (fzv_canon 6 _ (by simp [-List.map_take,-List.map_drop,-List.map_append,-List.map_reverse])) (mcons (fzv_canon 6 _ (by simp [-List.map_take,-List.map_drop,-List.map_append,-List.map_reverse])) (mcons (by rfl) rfl))) (by simp [-List.map_take,-List.map_drop,-List.map_append,-List.map_reverse]) (Or.inl (by simp [-List.map_take,-List.map_drop,-List.map_append,-List.map_reverse])) (R_call (evcons (@rfl V (iV (2:Int))) (evcons (@rfl V (iV (1:Int))) (evcons (@rfl V V.nilsl) evnil))) (lnode_pure ((2:Int)) ((1:Int)) ([])) (mcons (fzv_canon 6 _ (by simp [-List.map_take,-List.map_drop,-List.map_append,-List.map_reverse])) (mcons (fzv_canon 6 _ (by simp [-List.map_take,-List.map_drop,-List.map_append,-List.map_reverse])) (mcons (by rfl) rfl))) (by simp [-List.map_take,-List.map_drop,-List.map_append,-List.map_reverse]) (Or.inl (by simp [-List.map_take,-List.map_drop,-List.map_append,-List.map_reverse])) (R_call (evcons (@rfl V (iV (1:Int))) (evcons (@rfl V (iV (0:Int))) (evcons (@rfl V V.nilsl) evnil))) (lnode_pure ((1:Int)) ((0:Int)) ([])) (mcons (fzv_canon 6 _ (by simp [-List.map_take,-List.map_drop,-List.map_append,-List.map_reverse])) (mcons (fzv_canon 6 _ (by simp [-List.map_take,-List.map_drop,-List.map_append,-List.map_reverse])) (mcons (by rfl) rfl))) (by simp [-List.map_take,-List.map_drop,-List.map_append,-List.map_reverse]) (Or.inl (by simp [-List.map_take,-List.map_drop,-List.map_append,-List.map_reverse])) (R_alloc (i:=1) (n:=0) (m:=3) rfl (congrArg Blk.ver rfl) rfl ?_)))))))
 refine R_alloc (i:=2) (n:=0) (m:=3) rfl (congrArg Blk.ver rfl) rfl (R_alloc (i:=3) (n:=0) (m:=3) rfl (congrArg Blk.ver rfl) rfl (R_sk rfl rfl rfl rfl rfl rfl rfl rfl rfl (R_sk rfl rfl rfl rfl rfl rfl rfl rfl rfl (R_sk rfl rfl rfl rfl rfl rfl rfl rfl rfl (R_e (W_d (by exact (lateC rfl lateN)) (R_lk rfl rfl rfl rfl ?_)))))))
 refine R_lk rfl rfl rfl rfl (R_bslice rfl rfl (R_callk (lnode_pure ((5:Int)) ((0:Int)) ([w7_18,w7_16])) (evcons rfl (evcons rfl (evcons (sl_F2 (x:=(w7_18)) (y:=(w7_16)) rfl) evnil))) (R_lk rfl rfl rfl rfl (R_lk rfl rfl rfl rfl (R_lk rfl rfl rfl rfl (R_bslice rfl rfl (R_callk (lnode_pure ((7:Int)) ((0:Int)) ([w7_16])) (evcons rfl (evcons rfl (evcons (sl_F1 (x:=(w7_16)) rfl) evnil))) ?_)))))))
 refine R_bslice rfl rfl (R_callk (lnode_pure ((5:Int)) ((0:Int)) ([w7_13,(Fm.nd (7:Int) (0:Int) [w7_16])])) (evcons rfl (evcons rfl (evcons (sl_F2 (x:=(w7_13)) (y:=((Fm.nd (7:Int) (0:Int) [w7_16]))) rfl) evnil))) (R_bslice rfl rfl (R_callk (lnode_pure ((6:Int)) ((0:Int)) ([(Fm.nd (5:Int) (0:Int) [w7_18,w7_16]),w7_13,(Fm.nd (5:Int) (0:Int) [w7_13,(Fm.nd (7:Int) (0:Int) [w7_16])])])) (evcons rfl (evcons rfl (evcons (sl_F3 (x:=((Fm.nd (5:Int) (0:Int) [w7_18,w7_16]))) (y:=(w7_13)) (z:=((Fm.nd (5:Int) (0:Int) [w7_13,(Fm.nd (7:Int) (0:Int) [w7_16])]))) rfl) evnil))) (R_callk (aw_a) rfl (R_mv rfl (R_ext rfl rfl (R_ext rfl rfl ?_)))))))
 refine R_alloc (i:=4) (n:=0) (m:=3) rfl (congrArg Blk.ver rfl) rfl (R_sk rfl rfl rfl rfl rfl rfl rfl rfl rfl (R_mv rfl (R_e ?_)))
 refine W_seq_dregc (fun T H=>T 1=(V.mp 1 1 0 0)∧T 2=(V.mp 2 1 0 0)∧T 3=(V.mp 3 1 0 0)∧T 4=(V.mp 4 1 0 0)∧T 5=(iV (0:Int))∧T 6=(V.mp 6 1 0 0)∧H 1=w7_8∧H 2=w7_9∧H 3=w7_10∧H 4=w7_6∧H 6=w7_1∧H 7=(⟨0,false,false,0,0,[]⟩:Blk)∧H 8=(⟨0,false,false,0,0,[]⟩:Blk)∧H 10=(⟨0,false,false,0,0,[]⟩:Blk)∧H 12=(⟨0,false,false,0,0,[]⟩:Blk)∧True) (by exact (lateC rfl lateN)) ?_ ?_
 ·
  refine R_callk (lno_pure) rfl (R_lk rfl rfl rfl rfl (R_bslice rfl rfl (R_callk (lnode_pure ((4:Int)) ((0:Int)) ([w7_13])) (evcons rfl (evcons rfl (evcons (sl_F1 (x:=(w7_13)) rfl) evnil))) (R_call (evcons (@rfl V (iV (3:Int))) (evcons (@rfl V (iV (1:Int))) (evcons (@rfl V V.nilsl) evnil))) (lnode_pure ((3:Int)) ((1:Int)) ([])) (mcons (fzv_canon 6 _ (by simp [-List.map_take,-List.map_drop,-List.map_append,-List.map_reverse])) (mcons (fzv_canon 6 _ (by simp [-List.map_take,-List.map_drop,-List.map_append,-List.map_reverse])) (mcons (by rfl) rfl))) (by simp [-List.map_take,-List.map_drop,-List.map_append,-List.map_reverse]) (Or.inl (by simp [-List.map_take,-List.map_drop,-List.map_append,-List.map_reverse])) (R_bslice rfl rfl (R_callk (lnode_pure ((6:Int)) ((0:Int)) ([w7_17,w7_19])) (evcons rfl (evcons rfl (evcons (sl_F2 (x:=(w7_17)) (y:=(w7_19)) rfl) evnil))) (R_bslice rfl rfl ?_)))))))
  refine R_callk (lnode_pure ((10:Int)) ((0:Int)) ([(Fm.nd (4:Int) (0:Int) [Fm.nd 1 0 []]),(Fm.nd (6:Int) (0:Int) [w7_17,w7_19])])) (evcons rfl (evcons rfl (evcons (sl_F2 (x:=((Fm.nd (4:Int) (0:Int) [Fm.nd 1 0 []]))) (y:=((Fm.nd (6:Int) (0:Int) [w7_17,w7_19]))) rfl) evnil))) (R_alloc (i:=6) (n:=0) (m:=3) rfl (congrArg Blk.ver rfl) rfl (R_sk rfl rfl rfl rfl rfl rfl rfl rfl rfl ?_))
  exact R_nil ⟨rfl,rfl,rfl,rfl,rfl,rfl,rfl,rfl,rfl,rfl,rfl,rfl,rfl,rfl,rfl,trivial⟩
 intro T H ⟨t1,t2,t3,t4,t5,t6,h1,h2,h3,h4,h6,h7,h8,h10,h12,_⟩
 refine W_d (by exact (lateC (congrArg Blk.live h7) lateN)) (R_callk (lno_pure) rfl (R_call (evcons (@rfl V (iV (3:Int))) (evcons (@rfl V (iV (1:Int))) (evcons (@rfl V V.nilsl) evnil))) (lnode_pure ((3:Int)) ((1:Int)) ([])) (mcons (fzv_canon 6 _ (by simp [-List.map_take,-List.map_drop,-List.map_append,-List.map_reverse])) (mcons (fzv_canon 6 _ (by simp [-List.map_take,-List.map_drop,-List.map_append,-List.map_reverse])) (mcons (by rfl) rfl))) (by simp [-List.map_take,-List.map_drop,-List.map_append,-List.map_reverse]) (Or.inl (by simp [-List.map_take,-List.map_drop,-List.map_append,-List.map_reverse])) (R_lk t1 h1 rfl rfl (R_bslice rfl rfl (R_callk (lnode_pure ((4:Int)) ((0:Int)) ([w7_13])) (evcons rfl (evcons rfl (evcons (sl_F1 (x:=(w7_13)) rfl) evnil))) (R_bslice rfl rfl (R_callk (lnode_pure ((6:Int)) ((0:Int)) ([w7_19,w7_17])) (evcons rfl (evcons rfl (evcons (sl_F2 (x:=(w7_19)) (y:=(w7_17)) rfl) evnil))) ?_)))))))
 refine R_bslice rfl rfl (R_callk (lnode_pure ((10:Int)) ((0:Int)) w7_2) (evcons rfl (evcons rfl (evcons (sl_F2 (x:=((Fm.nd (4:Int) (0:Int) [Fm.nd 1 0 []]))) (y:=((Fm.nd (6:Int) (0:Int) [w7_19,w7_17]))) rfl) evnil))) (R_alloc (i:=7) (n:=0) (m:=3) rfl (congrArg Blk.ver h7) rfl (R_sk rfl rfl rfl rfl rfl rfl rfl rfl rfl (R_e (W_r (R_lk t6 h6 rfl rfl (R_callk (aw_b) rfl ?_)))))))
 refine R_mv rfl (R_ext rfl rfl (R_ext rfl rfl (R_alloc (i:=8) (n:=0) (m:=3) rfl (congrArg Blk.ver h8) rfl (R_sk rfl rfl rfl rfl rfl rfl rfl rfl rfl (R_mv rfl (R_e (W_r ?_)))))))
 refine R_lk t6 h6 rfl rfl (R_callk (aw_c) rfl (R_mv rfl (R_ext rfl rfl (R_ext rfl rfl (R_alloc (i:=10) (n:=0) (m:=3) rfl (congrArg Blk.ver h10) rfl (R_sk rfl rfl rfl rfl rfl rfl rfl rfl rfl (R_mv rfl ?_)))))))
 refine R_e (W_r (R_lk t6 h6 rfl rfl (R_callk (aw_d) rfl (R_mv rfl (R_ext rfl rfl (R_ext rfl rfl (R_alloc (i:=12) (n:=0) (m:=4) rfl (congrArg Blk.ver h12) rfl ?_)))))))
 refine R_sk rfl rfl rfl rfl rfl rfl rfl rfl rfl (R_mv rfl (R_e ?_))
 refine W_seq_regc (fun T H=>T 1=(V.mp 1 1 0 0)∧T 2=(V.mp 2 1 0 0)∧T 3=(V.mp 3 1 0 0)∧T 4=(V.mp 4 1 0 0)∧T 5=(iV (0:Int))∧T 7=(V.mp 7 1 0 0)∧T 8=(V.mp 8 1 0 0)∧T 9=(iV (0:Int))∧T 10=(V.mp 10 1 0 0)∧T 11=(iV (0:Int))∧T 12=(V.mp 12 1 0 0)∧T 13=(iV (0:Int))∧T 14=(V.bool true)∧T 15=(iV (0:Int))∧H 1=w7_8∧H 2=w7_9∧H 3=w7_10∧H 4=w7_6∧H 6=w7_1∧H 7=w7_12∧H 8=w7_4∧H 10=w7_11∧H 12=w7_5∧True) ?_ ?_
 ·
  refine R_callk (lno_pure) rfl (R_bslice rfl rfl (R_callk (lnode_pure ((9:Int)) ((0:Int)) ([(Fm.nd (4:Int) (0:Int) [Fm.nd 1 0 []])])) (evcons rfl (evcons rfl (evcons (sl_F1 (x:=((Fm.nd (4:Int) (0:Int) [Fm.nd 1 0 []]))) rfl) evnil))) (R_callk (aw_e) rfl (R_mv rfl (R_ext rfl rfl (R_ext rfl rfl (R_mv rfl ?_)))))))
  refine R_mv rfl ?_
  exact R_nil ⟨t1,t2,t3,t4,t5,rfl,rfl,rfl,rfl,rfl,rfl,rfl,rfl,rfl,h1,h2,h3,h4,h6,rfl,rfl,rfl,rfl,trivial⟩
 intro T H ⟨t1,t2,t3,t4,t5,t7,t8,t9,t10,t11,t12,t13,t14,t15,h1,h2,h3,h4,h6,h7,h8,h10,h12,_⟩
 refine W_r (R_lk t3 h3 rfl rfl (R_bslice rfl rfl (R_callk (lnode_pure ((7:Int)) ((0:Int)) ([w7_16])) (evcons rfl (evcons rfl (evcons (sl_F1 (x:=(w7_16)) rfl) evnil))) (R_callk (aw_f) rfl (R_mv rfl (R_ext rfl rfl (R_ext rfl rfl ?_)))))))
 refine R_mv rfl (R_mv rfl (R_e ?_))
 refine W_seq_regc (fun T H=>T 0=(V.bool ((((w7_14||false))&&decide ((0:Int)=(0:Int)))))∧H 1=w7_8∧H 2=w7_9∧H 3=w7_10∧H 4=w7_6∧H 6=w7_1∧H 7=w7_12∧H 8=w7_4∧H 10=w7_11∧H 12=w7_5∧True) ?_ ?_
 ·
  refine R_lk t4 h4 rfl rfl (R_lk t1 h1 rfl rfl (R_lk t2 h2 rfl rfl (R_bslice rfl rfl (R_callk (lnode_pure ((6:Int)) ((0:Int)) ([w7_13,w7_18])) (evcons rfl (evcons rfl (evcons (sl_F2 (x:=(w7_13)) (y:=(w7_18)) rfl) evnil))) (R_callk (rsame_pure (⟨((6:Int)),((0:Int)),([Fm.nd 2 0 [],Fm.nd 2 1 []])⟩:Fm) (⟨((((6:Int)))),((((0:Int)))),(([w7_13,w7_18]))⟩:Fm)) rfl (R_mv rfl ?_))))))
  refine Ops_seg 3 (fun T H=>T 7=(V.mp 7 1 0 0)∧T 8=(V.mp 8 1 0 0)∧T 9=(iV (0:Int))∧T 10=(V.mp 10 1 0 0)∧T 11=(iV (0:Int))∧T 12=(V.mp 12 1 0 0)∧T 13=(iV (0:Int))∧T 14=(V.bool true)∧T 15=(iV (0:Int))∧T 16=(V.bool false)∧T 17=(iV (0:Int))∧T 94=(V.bool ((w7_15&&decide ((0:Int)=(0:Int)))))∧H 1=w7_8∧H 2=w7_9∧H 3=w7_10∧H 4=w7_6∧H 6=w7_1∧H 7=w7_12∧H 8=w7_4∧H 10=w7_11∧H 12=w7_5∧True) ?_ ?_
  ·
   by_cases g1:w7_15=true
   ·
    refine G_yes (ebT g1 rfl) (R_mv t5 (G_yes (ebT g1 rfl) (R_eql rfl rfl (R_pickT (ebT g1 rfl) rfl ?_))))
    exact ⟨t7,t8,t9,t10,t11,t12,t13,t14,t15,rfl,rfl,(bandT g1),h1,h2,h3,h4,h6,h7,h8,h10,h12,trivial⟩
   ·
    refine G_n (ebF g1 rfl) (G_n (ebF g1 rfl) (R_pickF (ebF g1 rfl) rfl ?_))
    exact ⟨t7,t8,t9,t10,t11,t12,t13,t14,t15,rfl,rfl,(bandF g1),h1,h2,h3,h4,h6,h7,h8,h10,h12,trivial⟩
  intro T H ⟨t7,t8,t9,t10,t11,t12,t13,t14,t15,t16,t17,t94,h1,h2,h3,h4,h6,h7,h8,h10,h12,_⟩
  refine R_mv t94 ?_
  refine Ops_seg 4 (fun T H=>T 9=(iV (0:Int))∧T 10=(V.mp 10 1 0 0)∧T 11=(iV (0:Int))∧T 12=(V.mp 12 1 0 0)∧T 13=(iV (0:Int))∧T 14=(V.bool true)∧T 15=(iV (0:Int))∧T 16=(V.bool false)∧T 17=(iV (0:Int))∧T 99=(V.bool w7_7)∧H 1=w7_8∧H 2=w7_9∧H 3=w7_10∧H 4=w7_6∧H 6=w7_1∧H 7=w7_12∧H 8=w7_4∧H 10=w7_11∧H 12=w7_5∧True) ?_ ?_
  ·
   by_cases g2:((w7_15&&decide ((0:Int)=(0:Int))))=true
   ·
    have g2x:=g2
    simp only [Bool.and_eq_true,Bool.or_eq_true,Bool.not_eq_true',decide_eq_true_eq] at g2x
    refine G_yes (ebT g2 rfl) (R_lk t8 h8 rfl rfl (G_yes (ebT g2 rfl) (R_lk t7 h7 rfl rfl (G_yes (ebT g2 rfl) (R_callk (rsame_pure (⟨((10:Int)),((0:Int)),([Fm.nd 4 0 [Fm.nd 1 0 []],Fm.nd 6 0 [Fm.nd 3 1 [],Fm.nd 4 0 [Fm.nd 2 0 []]]])⟩:Fm) (⟨((((10:Int)))),((((0:Int)))),(w7_2)⟩:Fm)) rfl (R_pickT (ebT g2 rfl) rfl ?_))))))
    exact ⟨t9,t10,t11,t12,t13,t14,t15,t16,t17,(bandT g2),h1,h2,h3,h4,h6,h7,h8,h10,h12,trivial⟩
   ·
    have g2x:=g2
    simp only [Bool.and_eq_true,Bool.or_eq_true,Bool.not_eq_true',decide_eq_true_eq] at g2x
    refine G_n (ebF g2 rfl) (G_n (ebF g2 rfl) (G_n (ebF g2 rfl) (R_pickF (ebF g2 rfl) rfl ?_)))
    exact ⟨t9,t10,t11,t12,t13,t14,t15,t16,t17,(bandF g2),h1,h2,h3,h4,h6,h7,h8,h10,h12,trivial⟩
  intro T H ⟨t9,t10,t11,t12,t13,t14,t15,t16,t17,t99,h1,h2,h3,h4,h6,h7,h8,h10,h12,_⟩
  refine R_mv t99 ?_
  refine Ops_seg 3 (fun T H=>T 10=(V.mp 10 1 0 0)∧T 11=(iV (0:Int))∧T 12=(V.mp 12 1 0 0)∧T 13=(iV (0:Int))∧T 14=(V.bool true)∧T 15=(iV (0:Int))∧T 16=(V.bool false)∧T 17=(iV (0:Int))∧T 103=(V.bool ((w7_7&&decide ((0:Int)=(0:Int)))))∧H 1=w7_8∧H 2=w7_9∧H 3=w7_10∧H 4=w7_6∧H 6=w7_1∧H 7=w7_12∧H 8=w7_4∧H 10=w7_11∧H 12=w7_5∧True) ?_ ?_
  ·
   by_cases g3:w7_7=true
   ·
    have g3x:=g3
    simp only [Bool.and_eq_true,Bool.or_eq_true,Bool.not_eq_true',decide_eq_true_eq] at g3x
    refine G_yes (ebT g3 rfl) (R_mv t9 (G_yes (ebT g3 rfl) (R_eql rfl rfl (R_pickT (ebT g3 rfl) rfl ?_))))
    exact ⟨t10,t11,t12,t13,t14,t15,t16,t17,(bandT g3),h1,h2,h3,h4,h6,h7,h8,h10,h12,trivial⟩
   ·
    have g3x:=g3
    simp only [Bool.and_eq_true,Bool.or_eq_true,Bool.not_eq_true',decide_eq_true_eq] at g3x
    refine G_n (ebF g3 rfl) (G_n (ebF g3 rfl) (R_pickF (ebF g3 rfl) rfl ?_))
    exact ⟨t10,t11,t12,t13,t14,t15,t16,t17,(bandF g3),h1,h2,h3,h4,h6,h7,h8,h10,h12,trivial⟩
  intro T H ⟨t10,t11,t12,t13,t14,t15,t16,t17,t103,h1,h2,h3,h4,h6,h7,h8,h10,h12,_⟩
  refine R_mv t103 ?_
  refine Ops_seg 4 (fun T H=>T 11=(iV (0:Int))∧T 12=(V.mp 12 1 0 0)∧T 13=(iV (0:Int))∧T 14=(V.bool true)∧T 15=(iV (0:Int))∧T 16=(V.bool false)∧T 17=(iV (0:Int))∧T 108=(V.bool w7_0)∧H 1=w7_8∧H 2=w7_9∧H 3=w7_10∧H 4=w7_6∧H 6=w7_1∧H 7=w7_12∧H 8=w7_4∧H 10=w7_11∧H 12=w7_5∧True) ?_ ?_
  ·
   by_cases g4:((w7_7&&decide ((0:Int)=(0:Int))))=true
   ·
    have g4x:=g4
    simp only [Bool.and_eq_true,Bool.or_eq_true,Bool.not_eq_true',decide_eq_true_eq] at g4x
    refine G_yes (ebT g4 rfl) (R_lk t10 h10 rfl rfl (G_yes (ebT g4 rfl) (R_callk (lno_pure) rfl (G_yes (ebT g4 rfl) (R_callk (rsame_pure (⟨((4:Int)),((0:Int)),([Fm.nd 1 0 []])⟩:Fm) (⟨((4:Int)),((0:Int)),([Fm.nd 1 0 []])⟩:Fm)) rfl (R_pickT (ebT g4 rfl) rfl ?_))))))
    exact ⟨t11,t12,t13,t14,t15,t16,t17,(bandT g4),h1,h2,h3,h4,h6,h7,h8,h10,h12,trivial⟩
   ·
    have g4x:=g4
    simp only [Bool.and_eq_true,Bool.or_eq_true,Bool.not_eq_true',decide_eq_true_eq] at g4x
    refine G_n (ebF g4 rfl) (G_n (ebF g4 rfl) (G_n (ebF g4 rfl) (R_pickF (ebF g4 rfl) rfl ?_)))
    exact ⟨t11,t12,t13,t14,t15,t16,t17,(bandF g4),h1,h2,h3,h4,h6,h7,h8,h10,h12,trivial⟩
  intro T H ⟨t11,t12,t13,t14,t15,t16,t17,t108,h1,h2,h3,h4,h6,h7,h8,h10,h12,_⟩
  refine R_mv t108 ?_
  refine Ops_seg 3 (fun T H=>T 12=(V.mp 12 1 0 0)∧T 13=(iV (0:Int))∧T 14=(V.bool true)∧T 15=(iV (0:Int))∧T 16=(V.bool false)∧T 17=(iV (0:Int))∧T 112=(V.bool ((w7_0&&decide ((0:Int)=(0:Int)))))∧H 1=w7_8∧H 2=w7_9∧H 3=w7_10∧H 4=w7_6∧H 6=w7_1∧H 7=w7_12∧H 8=w7_4∧H 10=w7_11∧H 12=w7_5∧True) ?_ ?_
  ·
   by_cases g5:w7_0=true
   ·
    have g5x:=g5
    simp only [Bool.and_eq_true,Bool.or_eq_true,Bool.not_eq_true',decide_eq_true_eq] at g5x
    refine G_yes (ebT g5 rfl) (R_mv t11 (G_yes (ebT g5 rfl) (R_eql rfl rfl (R_pickT (ebT g5 rfl) rfl ?_))))
    exact ⟨t12,t13,t14,t15,t16,t17,(bandT g5),h1,h2,h3,h4,h6,h7,h8,h10,h12,trivial⟩
   ·
    have g5x:=g5
    simp only [Bool.and_eq_true,Bool.or_eq_true,Bool.not_eq_true',decide_eq_true_eq] at g5x
    refine G_n (ebF g5 rfl) (G_n (ebF g5 rfl) (R_pickF (ebF g5 rfl) rfl ?_))
    exact ⟨t12,t13,t14,t15,t16,t17,(bandF g5),h1,h2,h3,h4,h6,h7,h8,h10,h12,trivial⟩
  intro T H ⟨t12,t13,t14,t15,t16,t17,t112,h1,h2,h3,h4,h6,h7,h8,h10,h12,_⟩
  refine R_mv t112 ?_
  refine Ops_seg 8 (fun T H=>T 13=(iV (0:Int))∧T 14=(V.bool true)∧T 15=(iV (0:Int))∧T 16=(V.bool false)∧T 17=(iV (0:Int))∧T 121=(V.bool w7_3)∧H 1=w7_8∧H 2=w7_9∧H 3=w7_10∧H 4=w7_6∧H 6=w7_1∧H 7=w7_12∧H 8=w7_4∧H 10=w7_11∧H 12=w7_5∧True) ?_ ?_
  ·
   by_cases g6:((w7_0&&decide ((0:Int)=(0:Int))))=true
   ·
    have g6x:=g6
    simp only [Bool.and_eq_true,Bool.or_eq_true,Bool.not_eq_true',decide_eq_true_eq] at g6x
    refine G_yes (ebT g6 rfl) (R_lk t12 h12 rfl rfl (G_yes (ebT g6 rfl) (R_bslice rfl rfl (G_yes (ebT g6 rfl) (R_bslice rfl rfl (G_yes (ebT g6 rfl) (R_bslice rfl rfl ?_)))))))
    refine G_yes (ebT g6 rfl) (R_bslice rfl rfl (G_yes (ebT g6 rfl) (R_build rfl rfl (G_yes (ebT g6 rfl) (R_callk (dfsame_pure (⟨((6:Int)),((0:Int)),([[1,0,1,0,0,0],[1,1,1,1,1,1]]),([true,false])⟩:Df) (⟨((6:Int)),((0:Int)),([[1,0,1,0,0,0],[1,1,1,1,1,1]]),([true,false])⟩:Df)) rfl (R_pickT (ebT g6 rfl) rfl ?_))))))
    exact ⟨t13,t14,t15,t16,t17,(bandT g6),h1,h2,h3,h4,h6,h7,h8,h10,h12,trivial⟩
   ·
    have g6x:=g6
    simp only [Bool.and_eq_true,Bool.or_eq_true,Bool.not_eq_true',decide_eq_true_eq] at g6x
    refine G_n (ebF g6 rfl) (G_n (ebF g6 rfl) (G_n (ebF g6 rfl) (G_n (ebF g6 rfl) (G_n (ebF g6 rfl) (G_n (ebF g6 rfl) (G_n (ebF g6 rfl) (R_pickF (ebF g6 rfl) rfl ?_)))))))
    exact ⟨t13,t14,t15,t16,t17,(bandF g6),h1,h2,h3,h4,h6,h7,h8,h10,h12,trivial⟩
  intro T H ⟨t13,t14,t15,t16,t17,t121,h1,h2,h3,h4,h6,h7,h8,h10,h12,_⟩
  refine R_mv t121 ?_
  refine Ops_seg 3 (fun T H=>T 14=(V.bool true)∧T 15=(iV (0:Int))∧T 16=(V.bool false)∧T 17=(iV (0:Int))∧T 125=(V.bool ((w7_3&&decide ((0:Int)=(0:Int)))))∧H 1=w7_8∧H 2=w7_9∧H 3=w7_10∧H 4=w7_6∧H 6=w7_1∧H 7=w7_12∧H 8=w7_4∧H 10=w7_11∧H 12=w7_5∧True) ?_ ?_
  ·
   by_cases g7:w7_3=true
   ·
    have g7x:=g7
    simp only [Bool.and_eq_true,Bool.or_eq_true,Bool.not_eq_true',decide_eq_true_eq] at g7x
    refine G_yes (ebT g7 rfl) (R_mv t13 (G_yes (ebT g7 rfl) (R_eql rfl rfl (R_pickT (ebT g7 rfl) rfl ?_))))
    exact ⟨t14,t15,t16,t17,(bandT g7),h1,h2,h3,h4,h6,h7,h8,h10,h12,trivial⟩
   ·
    have g7x:=g7
    simp only [Bool.and_eq_true,Bool.or_eq_true,Bool.not_eq_true',decide_eq_true_eq] at g7x
    refine G_n (ebF g7 rfl) (G_n (ebF g7 rfl) (R_pickF (ebF g7 rfl) rfl ?_))
    exact ⟨t14,t15,t16,t17,(bandF g7),h1,h2,h3,h4,h6,h7,h8,h10,h12,trivial⟩
  intro T H ⟨t14,t15,t16,t17,t125,h1,h2,h3,h4,h6,h7,h8,h10,h12,_⟩
  refine R_mv t125 ?_
  refine Ops_seg 2 (fun T H=>T 15=(iV (0:Int))∧T 16=(V.bool false)∧T 17=(iV (0:Int))∧T 128=(V.bool ((((w7_3&&decide ((0:Int)=(0:Int))))||false)))∧H 1=w7_8∧H 2=w7_9∧H 3=w7_10∧H 4=w7_6∧H 6=w7_1∧H 7=w7_12∧H 8=w7_4∧H 10=w7_11∧H 12=w7_5∧True) ?_ ?_
  ·
   by_cases g8:((w7_3&&decide ((0:Int)=(0:Int))))=true
   ·
    have g8x:=g8
    simp only [Bool.and_eq_true,Bool.or_eq_true,Bool.not_eq_true',decide_eq_true_eq] at g8x
    refine G_yes (ebT g8 rfl) (R_mv t14 (R_pickT (ebT g8 rfl) rfl ?_))
    exact ⟨t15,t16,t17,(borT g8),h1,h2,h3,h4,h6,h7,h8,h10,h12,trivial⟩
   ·
    have g8x:=g8
    simp only [Bool.and_eq_true,Bool.or_eq_true,Bool.not_eq_true',decide_eq_true_eq] at g8x
    refine G_n (ebF g8 rfl) (R_pickF (ebF g8 rfl) rfl ?_)
    exact ⟨t15,t16,t17,(borF g8),h1,h2,h3,h4,h6,h7,h8,h10,h12,trivial⟩
  intro T H ⟨t15,t16,t17,t128,h1,h2,h3,h4,h6,h7,h8,h10,h12,_⟩
  refine R_mv t128 ?_
  refine Ops_seg 3 (fun T H=>T 16=(V.bool false)∧T 17=(iV (0:Int))∧T 132=(V.bool w7_14)∧H 1=w7_8∧H 2=w7_9∧H 3=w7_10∧H 4=w7_6∧H 6=w7_1∧H 7=w7_12∧H 8=w7_4∧H 10=w7_11∧H 12=w7_5∧True) ?_ ?_
  ·
   by_cases g9:((((w7_3&&decide ((0:Int)=(0:Int))))||false))=true
   ·
    have g9x:=g9
    simp only [Bool.and_eq_true,Bool.or_eq_true,Bool.not_eq_true',decide_eq_true_eq] at g9x
    refine G_yes (ebT g9 rfl) (R_mv t15 (G_yes (ebT g9 rfl) (R_eql rfl rfl (R_pickT (ebT g9 rfl) rfl ?_))))
    exact ⟨t16,t17,(bandT g9),h1,h2,h3,h4,h6,h7,h8,h10,h12,trivial⟩
   ·
    have g9x:=g9
    simp only [Bool.and_eq_true,Bool.or_eq_true,Bool.not_eq_true',decide_eq_true_eq] at g9x
    refine G_n (ebF g9 rfl) (G_n (ebF g9 rfl) (R_pickF (ebF g9 rfl) rfl ?_))
    exact ⟨t16,t17,(bandF g9),h1,h2,h3,h4,h6,h7,h8,h10,h12,trivial⟩
  intro T H ⟨t16,t17,t132,h1,h2,h3,h4,h6,h7,h8,h10,h12,_⟩
  refine R_mv t132 ?_
  refine Ops_seg 3 (fun T H=>T 17=(iV (0:Int))∧T 136=(V.bool ((w7_14||false)))∧H 1=w7_8∧H 2=w7_9∧H 3=w7_10∧H 4=w7_6∧H 6=w7_1∧H 7=w7_12∧H 8=w7_4∧H 10=w7_11∧H 12=w7_5∧True) ?_ ?_
  ·
   by_cases g10:w7_14=true
   ·
    have g10x:=g10
    simp only [Bool.and_eq_true,Bool.or_eq_true,Bool.not_eq_true',decide_eq_true_eq] at g10x
    refine G_yes (ebT g10 rfl) (R_mv t16 (G_yes (ebT g10 rfl) (R_notb rfl (R_pickT (ebT g10 rfl) rfl ?_))))
    exact ⟨t17,(borT g10),h1,h2,h3,h4,h6,h7,h8,h10,h12,trivial⟩
   ·
    have g10x:=g10
    simp only [Bool.and_eq_true,Bool.or_eq_true,Bool.not_eq_true',decide_eq_true_eq] at g10x
    refine G_n (ebF g10 rfl) (G_n (ebF g10 rfl) (R_pickF (ebF g10 rfl) rfl ?_))
    exact ⟨t17,(borF g10),h1,h2,h3,h4,h6,h7,h8,h10,h12,trivial⟩
  intro T H ⟨t17,t136,h1,h2,h3,h4,h6,h7,h8,h10,h12,_⟩
  refine R_mv t136 ?_
  refine Ops_seg 3 (fun T H=>T 140=(V.bool ((((w7_14||false))&&decide ((0:Int)=(0:Int)))))∧H 1=w7_8∧H 2=w7_9∧H 3=w7_10∧H 4=w7_6∧H 6=w7_1∧H 7=w7_12∧H 8=w7_4∧H 10=w7_11∧H 12=w7_5∧True) ?_ ?_
  ·
   by_cases g11:((w7_14||false))=true
   ·
    have g11x:=g11
    simp only [Bool.and_eq_true,Bool.or_eq_true,Bool.not_eq_true',decide_eq_true_eq] at g11x
    refine G_yes (ebT g11 rfl) (R_mv t17 (G_yes (ebT g11 rfl) (R_eql rfl rfl (R_pickT (ebT g11 rfl) rfl ?_))))
    exact ⟨(bandT g11),h1,h2,h3,h4,h6,h7,h8,h10,h12,trivial⟩
   ·
    have g11x:=g11
    simp only [Bool.and_eq_true,Bool.or_eq_true,Bool.not_eq_true',decide_eq_true_eq] at g11x
    refine G_n (ebF g11 rfl) (G_n (ebF g11 rfl) (R_pickF (ebF g11 rfl) rfl ?_))
    exact ⟨(bandF g11),h1,h2,h3,h4,h6,h7,h8,h10,h12,trivial⟩
  intro T H ⟨t140,h1,h2,h3,h4,h6,h7,h8,h10,h12,_⟩
  refine R_mv t140 ?_
  exact R_nil ⟨rfl,h1,h2,h3,h4,h6,h7,h8,h10,h12,trivial⟩
 intro T H ⟨t0,h1,h2,h3,h4,h6,h7,h8,h10,h12,_⟩
 refine W_ret ?_
 refine Ret_1 t0 (fz_bool ?_)
 · decide+kernel
end Go.Proofs.YteehaobohaecmaaDoor
namespace Go.Proofs.YteehaobohaecmaaDoor
open Go Go.Proofs
def r8_5:List SO:=[
 qF 18 1 3,
 ql 19 18,
 qN 20 19,
 qF 21 0 3,
 ql 22 21,
 qN 23 22,
 qP 24 .neq 20 23,
 qM 17 24]
def r8_7:List SO:=[
 qL 25 3 2,
 qL 26 2 3,
 sO 27 (.call false 20 [.t 25,.t 26]),
 sO 28 (.idx 1 (.t 27) (.c (.int .i64 0))),
 ql 29 28,
 qM 4 29,
 qI 5 0]
def s8:SF:=⟨30,[.tmp 4,.tmp 5],.seq (.reg [sO 2 (.box 24 3 (.t 0)),sO 3 (.box 27 2 (.t 1)),sO 4 (.mv (.c (.bool false))),qI 5 0]) (.seq (.block 0 (.seq (.reg [qL 7 3 2,sO 8 (.call false 14 [.t 7]),qC 9 .neq 8 0,qM 6 9]) (.cond (.t 6) (.seq (.reg [qL 10 3 2,sO 11 (.call false 14 [.t 10]),sO 4 (.mv (.c (.bool false))),qM 5 11]) (.ret)) (.seq (.reg [qF 13 0 3,ql 14 13,qN 15 14,qC 16 .gtr 15 1024,qM 12 16]) (.cond (.t 12) (.seq (.reg [sO 4 (.mv (.c (.bool false))),qI 5 3]) (.ret)) (.seq (.reg r8_5) (.cond (.t 17) (.seq (.reg [sO 4 (.mv (.c (.bool false))),qI 5 1]) (.ret)) (.skip)))))))) (.seq (.reg r8_7) (.ret)))⟩
theorem s8_ok:slimF Tryd.prog ⟨[32,48,55,93,94,95,100],[],[],[]⟩ Tryd.f8=some s8:=by kernel_rfl
def r20_7:List SO:=[
 qM 29 7,
 qF 30 2 2,
 ql 31 30,
 qM 32 8,
 qA 33 3 31 32,
 qL 34 3 33,
 qL 35 2 3,
 sO 36 (.call false 20 [.t 34,.t 35]),
 sO 37 (.bslice 43 1 false [.nilsl] 1 [(0,.t 36)]),
 sO 38 (.append 43 1 24 (.t 29) (.t 37)),
 qM 7 38]
def b20_0:SC:=.seq (.seq (.reg [qM 22 8,qF 23 2 2,ql 24 23,qN 25 24,qP 26 .lss 22 25]) (.cond (.t 26) (.skip) (.exit 0))) (.seq (.block 1 (.reg r20_7)) (.reg [qM 27 8,qC 28 .add 27 1,qM 8 28]))
def r20_23:List SO:=[
 qM 103 6,
 qM 104 9,
 qM 105 10,
 qM 106 105,
 ⟨some (106,true),some 107,.fld 0 (.t 3)⟩,
 ⟨some (106,true),some 108,.load false 1 (.t 107)⟩,
 ⟨some (106,true),some 109,.mv (.t 9)⟩,
 ⟨some (106,true),some 110,.idx 1 (.t 108) (.t 109)⟩,
 ⟨some (106,true),some 111,.load false 1 (.t 110)⟩,
 ⟨some (106,true),some 112,.fld 1 (.t 2)⟩,
 ⟨some (106,true),some 113,.load false 1 (.t 112)⟩,
 ⟨some (106,true),some 114,.bin .eql (.t 111) (.t 113)⟩,
 sO 115 (.pick (.t 106) (.t 114) (.c (.bool false))),
 qA 116 1 103 104,
 sN (.store 1 (.t 116) (.t 115))]
def r20_25:List SO:=[
 qM 119 6,
 qM 120 9,
 qM 121 10,
 qM 122 121,
 ⟨some (122,true),some 123,.fld 1 (.t 3)⟩,
 ⟨some (122,true),some 124,.load false 1 (.t 123)⟩,
 ⟨some (122,true),some 125,.mv (.t 9)⟩,
 ⟨some (122,true),some 126,.idx 1 (.t 124) (.t 125)⟩,
 ⟨some (122,true),some 127,.load false 1 (.t 126)⟩,
 ⟨some (122,true),some 128,.fld 1 (.t 2)⟩,
 ⟨some (122,true),some 129,.load false 1 (.t 128)⟩,
 ⟨some (122,true),some 130,.bin .eql (.t 127) (.t 129)⟩,
 sO 131 (.pick (.t 122) (.t 130) (.c (.bool false))),
 qA 132 1 119 120,
 sN (.store 1 (.t 132) (.t 131))]
def r20_27:List SO:=[
 qM 135 6,
 qM 136 9,
 qM 137 7,
 sO 138 (.idx 1 (.t 137) (.c (.int .i64 0))),
 ql 139 138,
 qM 140 9,
 qA 141 1 139 140,
 ql 142 141,
 sO 143 (.un .not (.t 142)),
 qA 144 1 135 136,
 sN (.store 1 (.t 144) (.t 143))]
def r20_29:List SO:=[
 qM 147 6,
 qM 148 9,
 qM 149 10,
 qM 150 149,
 ⟨some (150,true),some 151,.mv (.t 7)⟩,
 ⟨some (150,true),some 152,.idx 1 (.t 151) (.c (.int .i64 0))⟩,
 ⟨some (150,true),some 153,.load false 1 (.t 152)⟩,
 ⟨some (150,true),some 154,.mv (.t 9)⟩,
 ⟨some (150,true),some 155,.bin .add (.t 154) (.c (.int .i64 1))⟩,
 ⟨some (150,true),some 156,.idx 1 (.t 153) (.t 155)⟩,
 ⟨some (150,true),some 157,.load false 1 (.t 156)⟩,
 sO 158 (.pick (.t 150) (.t 157) (.c (.bool false))),
 qA 159 1 147 148,
 sN (.store 1 (.t 159) (.t 158))]
def r20_31:List SO:=[
 qM 162 6,
 qM 163 9,
 qM 164 10,
 sO 165 (.un .not (.t 164)),
 qM 166 165,
 ⟨some (166,false),some 167,.mv (.t 7)⟩,
 ⟨some (166,false),some 168,.idx 1 (.t 167) (.c (.int .i64 0))⟩,
 ⟨some (166,false),some 169,.load false 1 (.t 168)⟩,
 ⟨some (166,false),some 170,.mv (.t 9)⟩,
 ⟨some (166,false),some 171,.bin .add (.t 170) (.c (.int .i64 1))⟩,
 ⟨some (166,false),some 172,.idx 1 (.t 169) (.t 171)⟩,
 ⟨some (166,false),some 173,.load false 1 (.t 172)⟩,
 sO 174 (.pick (.t 166) (.c (.bool true)) (.t 173)),
 qA 175 1 162 163,
 sN (.store 1 (.t 175) (.t 174))]
def r20_36:List SO:=[
 qM 187 6,
 qM 188 9,
 qM 189 6,
 qM 190 9,
 qA 191 1 189 190,
 ql 192 191,
 qM 193 192,
 ⟨some (193,false),some 194,.mv (.t 7)⟩,
 ⟨some (193,false),some 195,.idx 1 (.t 194) (.c (.int .i64 1))⟩,
 ⟨some (193,false),some 196,.load false 1 (.t 195)⟩,
 ⟨some (193,false),some 197,.mv (.t 11)⟩,
 ⟨some (193,false),some 198,.idx 1 (.t 196) (.t 197)⟩,
 ⟨some (193,false),some 199,.load false 1 (.t 198)⟩,
 sO 200 (.pick (.t 193) (.c (.bool true)) (.t 199)),
 qA 201 1 187 188,
 sN (.store 1 (.t 201) (.t 200))]
def r20_37:List SO:=[
 qM 202 7,
 sO 203 (.idx 1 (.t 202) (.c (.int .i64 0))),
 ql 204 203,
 qM 205 11,
 qA 206 1 204 205,
 ql 207 206,
 qM 12 207]
def b20_2:SC:=.seq (.seq (.reg [qM 179 11,qM 180 5,qP 181 .leq 179 180,qM 182 181,⟨some (182,true),some 183,.mv (.t 12)⟩,sO 184 (.pick (.t 182) (.t 183) (.c (.bool false)))]) (.cond (.t 184) (.skip) (.exit 7))) (.seq (.block 8 (.seq (.reg r20_36) (.reg r20_37))) (.reg [qM 185 11,qC 186 .add 185 1,qM 11 186]))
def r20_43:List SO:=[
 qM 222 6,
 qM 223 9,
 qM 224 6,
 qM 225 9,
 qA 226 1 224 225,
 ql 227 226,
 qM 228 227,
 ⟨some (228,true),some 229,.mv (.t 7)⟩,
 ⟨some (228,true),some 230,.idx 1 (.t 229) (.c (.int .i64 1))⟩,
 ⟨some (228,true),some 231,.load false 1 (.t 230)⟩,
 ⟨some (228,true),some 232,.mv (.t 13)⟩,
 ⟨some (228,true),some 233,.idx 1 (.t 231) (.t 232)⟩,
 ⟨some (228,true),some 234,.load false 1 (.t 233)⟩,
 sO 235 (.pick (.t 228) (.t 234) (.c (.bool false))),
 qA 236 1 222 223,
 sN (.store 1 (.t 236) (.t 235))]
def r20_44:List SO:=[
 qM 237 7,
 sO 238 (.idx 1 (.t 237) (.c (.int .i64 0))),
 ql 239 238,
 qM 240 13,
 qA 241 1 239 240,
 ql 242 241,
 sO 243 (.un .not (.t 242)),
 qM 14 243]
def b20_3:SC:=.seq (.seq (.reg [qM 214 13,qM 215 5,qP 216 .leq 214 215,qM 217 216,⟨some (217,true),some 218,.mv (.t 14)⟩,sO 219 (.pick (.t 217) (.t 218) (.c (.bool false)))]) (.cond (.t 219) (.skip) (.exit 9))) (.seq (.block 10 (.seq (.reg r20_43) (.reg r20_44))) (.reg [qM 220 13,qC 221 .add 220 1,qM 13 221]))
def r20_13:List SO:=[
 qM 49 6,
 qM 50 9,
 qF 51 0 2,
 ql 52 51,
 qC 53 .eql 52 5,
 qA 54 1 49 50,
 sN (.store 1 (.t 54) (.t 53))]
def r20_18:List SO:=[
 qM 64 6,
 qM 65 9,
 qM 66 6,
 qM 67 9,
 qA 68 1 66 67,
 ql 69 68,
 qM 70 69,
 ⟨some (70,true),some 71,.mv (.t 7)⟩,
 ⟨some (70,true),some 72,.mv (.t 15)⟩,
 ⟨some (70,true),some 73,.idx 1 (.t 71) (.t 72)⟩,
 ⟨some (70,true),some 74,.load false 1 (.t 73)⟩,
 ⟨some (70,true),some 75,.mv (.t 9)⟩,
 ⟨some (70,true),some 76,.idx 1 (.t 74) (.t 75)⟩,
 ⟨some (70,true),some 77,.load false 1 (.t 76)⟩,
 sO 78 (.pick (.t 70) (.t 77) (.c (.bool false))),
 qA 79 1 64 65,
 sN (.store 1 (.t 79) (.t 78))]
def r20_19:List SO:=[
 qM 80 6,
 qM 81 9,
 qM 82 6,
 qM 83 9,
 qA 84 1 82 83,
 ql 85 84,
 qM 86 85,
 ⟨some (86,false),some 87,.mv (.t 7)⟩,
 ⟨some (86,false),some 88,.mv (.t 15)⟩,
 ⟨some (86,false),some 89,.idx 1 (.t 87) (.t 88)⟩,
 ⟨some (86,false),some 90,.load false 1 (.t 89)⟩,
 ⟨some (86,false),some 91,.mv (.t 9)⟩,
 ⟨some (86,false),some 92,.idx 1 (.t 90) (.t 91)⟩,
 ⟨some (86,false),some 93,.load false 1 (.t 92)⟩,
 sO 94 (.pick (.t 86) (.c (.bool true)) (.t 93)),
 qA 95 1 80 81,
 sN (.store 1 (.t 95) (.t 94))]
def b20_4:SC:=.seq (.seq (.reg [qM 55 15,qM 56 7,qN 57 56,qP 58 .lss 55 57]) (.cond (.t 58) (.skip) (.exit 5))) (.seq (.block 6 (.seq (.reg [qF 61 0 2,ql 62 61,qC 63 .eql 62 5]) (.cond (.t 63) (.reg r20_18) (.reg r20_19)))) (.reg [qM 59 15,qC 60 .add 59 1,qM 15 60]))
def b20_1:SC:=.seq (.seq (.reg [qM 40 9,qC 41 .geq 40 0]) (.cond (.t 41) (.skip) (.exit 2))) (.seq (.block 3 (.seq (.reg [qM 44 9,qM 45 5,qP 46 .lss 44 45,qM 10 46]) (.seq (.reg [qF 47 0 2,ql 48 47]) (.block 4 (.seq (.reg [qC 97 .eql 48 1,qM 96 97]) (.cond (.t 96) (.reg [qM 98 6,qM 99 9,qA 100 1 98 99,sN (.store 1 (.t 100) (.c (.bool true)))]) (.seq (.reg [qC 102 .eql 48 2,qM 101 102]) (.cond (.t 101) (.reg r20_23) (.seq (.reg [qC 118 .eql 48 3,qM 117 118]) (.cond (.t 117) (.reg r20_25) (.seq (.reg [qC 134 .eql 48 4,qM 133 134]) (.cond (.t 133) (.reg r20_27) (.seq (.reg [qC 146 .eql 48 7,qM 145 146]) (.cond (.t 145) (.reg r20_29) (.seq (.reg [qC 161 .eql 48 9,qM 160 161]) (.cond (.t 160) (.reg r20_31) (.seq (.reg [qC 177 .eql 48 8,qM 176 177]) (.cond (.t 176) (.seq (.reg [qM 178 9,qM 11 178,sO 12 (.mv (.c (.bool true)))]) (.block 7 (.loop b20_2))) (.seq (.reg [qC 209 .eql 48 10,qM 208 209]) (.cond (.t 208) (.seq (.reg [qM 210 6,qM 211 9,qA 212 1 210 211,sN (.store 1 (.t 212) (.c (.bool true)))]) (.seq (.reg [qM 213 9,qM 13 213,sO 14 (.mv (.c (.bool true)))]) (.block 9 (.loop b20_3)))) (.seq (.reg r20_13) (.seq (.reg [qI 15 0]) (.block 5 (.loop b20_4)))))))))))))))))))))))) (.reg [qM 42 9,qC 43 .sub 42 1,qM 9 43]))
def s20:SF:=⟨245,[.tmp 4],.seq (.reg [sO 2 (.box 24 3 (.t 0)),sO 3 (.box 27 2 (.t 1)),sO 4 (.mv (.c (.nilsl)))]) (.seq (.reg [qF 16 0 3,ql 17 16,qN 18 17,qM 5 18]) (.seq (.reg [qM 19 5,qC 20 .add 19 1,sO 21 (.mks 4 1 1 [.bool false] (.t 20) (.t 20)),qM 6 21]) (.seq (.reg [sO 7 (.lazy 43 1)]) (.seq (.seq (.reg [qI 8 0]) (.block 0 (.loop b20_0))) (.seq (.seq (.reg [qM 39 5,qM 9 39]) (.block 2 (.loop b20_1))) (.seq (.reg [qM 244 6,qM 4 244]) (.ret)))))))⟩
theorem s20_ok:slimF Tryd.prog ⟨[32,48,55,93,94,95,100],[7],[],[]⟩ Tryd.f20=some s20:=by kernel_rfl
end Go.Proofs.YteehaobohaecmaaDoor
