/- The layer: abstract values for memory and their soundness; no condition. -/
import Derived.IntWalk
import Derived.ChangeArms
import Derived.DataElems
import Derived.DataReads
import Derived.OpenShut
import Derived.ProofKit
import Derived.WalkKit
import Derived.Carry
import Derived.Test.YteehaobohaecmaaGreatDoorLay2
set_option linter.unusedSimpArgs false
set_option linter.unusedVariables false
namespace Go.Proofs.YteehaobohaecmaaGreatDoor
open Go
theorem St_mono {P : Program} {id : Nat} {x : X} {T : Nat → V} {H : Heap} {k k' : V → Heap → Prop} (hk : ∀ v H, k v H → k' v H) (h : St P id x T H k) : St P id x T H k' := by
  cases x <;> simp only [St] at h ⊢
  case bslice ty esz own z len ps=>
    refine onS_mono (fun rows h=>?_) h
    cases own <;> exact hk _ _ h
  case append ty esz bytes s a =>
    split at h
    · split at h
      · rename_i c1
        rw [if_pos c1]
        split at h
        · rename_i c2
          rw [if_pos c2]
          split at h
          · rename_i c3
            rw [if_pos c3]
            split at h
            · rename_i c4
              rw [if_pos c4]
              split at h
              · rename_i c5
                rw [if_pos c5]
                refine onS_mono (fun new h=>?_) h
                split at h
                · rename_i c6
                  rw [if_pos c6]
                  split at h
                  · rename_i c7
                    rw [if_pos c7]
                    split at h
                    · rename_i c8
                      rw [if_pos c8]
                      exact hk _ _ h
                    · cases h
                  · cases h
                · cases h
              · cases h
            · cases h
          · cases h
        · cases h
      · cases h
    · cases h
  case call e f args=>
    cases e
    · obtain ⟨v,h1,h2⟩:=h; exact ⟨v,h1,hk _ _ h2⟩
    · obtain ⟨v,H',h1,h2⟩:=h; exact ⟨v,H',h1,hk _ _ h2⟩
  case callA f args=>obtain ⟨v,b,h1,h2,h3⟩:=h; exact ⟨v,b,h1,h2,hk _ _ h3⟩
  case callv e g args=>
    split at h
    · cases e
      · obtain ⟨v,h1,h2⟩:=h; exact ⟨v,h1,hk _ _ h2⟩
      · obtain ⟨v,H',h1,h2⟩:=h; exact ⟨v,H',h1,hk _ _ h2⟩
    · cases h
  case isnil neg a=>
    split at h
    · exact hk _ _ h
    · exact ⟨fun e=>hk _ _ (h.1 e),hk _ _ h.2⟩
    · cases h
  all_goals first|exact hk _ _ h|exact onS_mono (fun a h=>hk _ _ h) h|cases h
theorem Ops_mono {P:Program} {k0:Nat} {K K':(Nat→V)→Heap→Prop} (hk: ∀ T H,K T H→K' T H): ∀ {ops:List SO} {T:Nat→V} {H:Heap},Ops P k0 ops T H K→Ops P k0 ops T H K':=by
  intro ops
  induction ops with
  |nil=>intro T H h; exact hk _ _ h
  | cons o r ih =>
    intro T H h
    simp only [Ops] at h ⊢
    split at h
    · exact St_mono (fun _ _ h=>ih h) h
    · exact ⟨fun e=>St_mono (fun _ _ h=>ih h) (h.1 e),fun e=>ih (h.2 e)⟩
section
variable {P:Program} {k0:Nat} {Q:Ex→(Nat→V)→Heap→Prop} {T:Nat→V} {H:Heap}
theorem W_seq_reg {ops:List SO} {b:SC} (h: ∀ K:(Nat→V)→Heap→Prop,(∀ T H,W P k0 b Q T H→K T H)→Ops P k0 ops T H K):W P k0 (.seq (.reg ops) b) Q T H:=
  ⟨k0,h _ fun _ _ h=>.done h⟩
theorem W_seq_reg_g {ops:List SO} {b:SC} (h: ∀ K:(Nat→V)→Heap→Prop,(∀ T H,G (W P k0 b Q) T H→K T H)→Ops P k0 ops T H K):W P k0 (.seq (.reg ops) b) Q T H:=
  ⟨k0,h _ fun _ _ h=>h⟩
theorem W_seq_seq {a b c:SC} (h:W P k0 (.seq a (.seq b c)) Q T H):W P k0 (.seq (.seq a b) c) Q T H:=by
  simp only [W] at h ⊢
  refine Eq.mp (congrArg (fun q=>W P k0 a q T H) (funext fun e=>funext fun T=>funext fun H=>?_)) h
  cases e <;> rfl
theorem W_skip (h:Q .norm T H):W P k0 .skip Q T H:=h
theorem W_ret (h:Q .ret T H):W P k0 .ret Q T H:=h
theorem CallK_E {f:Nat} {args:List V} {v:V} {H':Heap} {k:V→Heap→Prop} (h:CallOK P f args H v H') (hk:k v H'):CallK P true f args H k:=⟨v,H',h,hk⟩
theorem W_seq_skip {b:SC} (h:W P k0 b Q T H):W P k0 (.seq .skip b) Q T H:=.done h
theorem W_seq_ret {b:SC} (h:Q .ret T H):W P k0 (.seq .ret b) Q T H:=h
theorem W_seq_exit {b:SC} {n:Nat} (h:Q (.exit n) T H):W P k0 (.seq (.exit n) b) Q T H:=h
theorem W_seq_cond {c:SX} {a b r:SC} {bb:Bool} (hc:asB (ev T c)=some bb) (h1:bb=true→W P k0 (.seq a r) Q T H) (h2:bb=false→W P k0 (.seq b r) Q T H):W P k0 (.seq (.cond c a b) r) Q T H:=by
  simp only [W,hc,onS_some] at h1 h2 ⊢
  exact ⟨h1,h2⟩
theorem W_cond {c:SX} {a b:SC} {bb:Bool} (hc:asB (ev T c)=some bb) (h1:bb=true→W P k0 a Q T H) (h2:bb=false→W P k0 b Q T H):W P k0 (.cond c a b) Q T H:=by
  simp only [W,hc,onS_some]
  exact ⟨h1,h2⟩
theorem W_block {id:Nat} {a:SC} (h: ∀ Q':Ex→(Nat→V)→Heap→Prop,(∀ T H,Q .norm T H→Q' .norm T H)→(∀ T H,Q .norm T H→Q' (.exit id) T H)→(∀ T H,Q .ret T H→Q' .ret T H)→
    (∀ n T H,n≠id→Q (.exit n) T H→Q' (.exit n) T H)→W P k0 a Q' T H):W P k0 (.block id a) Q T H:=by
  simp only [W]
  refine h _ (fun T H h=>h) (fun T H h=>?_) (fun T H h=>h) (fun n T H hn h=>?_)
  · simp only [if_true]; exact h
  · simp only [if_neg hn]; exact h
theorem W_loop {a:SC} (I:Nat→(Nat→V)→Heap→Prop) (h0: ∃ n,I n T H)
    (h: ∀ n T H,I n T H→ ∀ Q':Ex→(Nat→V)→Heap→Prop,(∀ m T H,m < n→I m T H→Q' .norm T H)→(∀ T H,Q .ret T H→Q' .ret T H)→(∀ n T H,Q (.exit n) T H→Q' (.exit n) T H)→W P k0 a Q' T H):W P k0 (.loop a) Q T H:=by
  simp only [W]
  obtain ⟨n,h0⟩:=h0
  exact ⟨I,n,h0,fun n T H hI=>h n T H hI _ (fun m T H h1 h2=>⟨m,h1,h2⟩) (fun _ _ h=>h) (fun _ _ _ h=>h)⟩
theorem W_loopP {a:SC} (I:Nat→(Nat→V)→Heap→Prop) (h0: ∃ n,I n T H)
    (h: ∀ n T H,I n T H→ ∀ Q':Ex→(Nat→V)→Heap→Prop,(∀ m T H,m < n→I m T H→Q' .norm T H)→(∀ T H,Q .ret T H→Q' .ret T H)→(∀ n T H,Q (.exit n) T H→Q' (.exit n) T H)→(∀ c T H,Q (.pan c) T H→Q' (.pan c) T H)→W P k0 a Q' T H):W P k0 (.loop a) Q T H:=by
  simp only [W]
  obtain ⟨n,h0⟩:=h0
  exact ⟨I,n,h0,fun n T H hI=>h n T H hI _ (fun m T H h1 h2=>⟨m,h1,h2⟩) (fun _ _ h=>h) (fun _ _ _ h=>h) (fun _ _ _ h=>h)⟩
end
attribute [simp] upd_apply putT asB gd ev evs Ops St intBin strBin boolBin unV convV fldV partV natV boundV extV slenV mnV mxV ptr ldV lenV rowsOf resV resT mapO V.cells V.one ok Ret T0 undefV fz2 fz1 fz0 V.pure pureL pureLL
def nth {α:Type} [Inhabited α] (l:List α) (k:Nat):α:=l.getD k default
theorem nth_eq {α:Type} [Inhabited α] {l:List α} {k:Nat} (h:k < l.length):l[k]?=some (nth l k):=by
  simp [nth,h]
theorem nth_getElem {α:Type} [Inhabited α] {l:List α} {k:Nat} (h:k < l.length):l[k]=nth l k:=by
  simp [nth,h]
theorem nth_drop {α:Type} [Inhabited α] {l:List α} {k:Nat} (h:k < l.length):l.drop k=nth l k::l.drop (k+1):=by
  rw [← nth_getElem h]; exact List.drop_eq_getElem_cons h
abbrev iV (n:Int):V:=.int .i64 n
abbrev cI (n:Int):List V:=[.int .i64 n]
abbrev ints (l:List Int):V:=.sl (l.map cI)
abbrev cL (l:List Int):List V:=[ints l]
abbrev intss (l:List (List Int)):V:=.sl (l.map cL)
@[simp] theorem rowAt_map {α : Type} [Inhabited α] (f : α → List V) (l : List α) (k : Int) (h0 : 0 ≤ k) (h : k < l.length) : rowAt (l.map f) k = some (f (nth l k.toNat)) := by
  have:k.toNat < l.length:=by omega
  simp [rowAt,h0,nth_eq this]
@[simp] theorem idx_map {α : Type} [Inhabited α] (H : Heap) (e : Nat) (f : α → List V) (l : List α) (kd : IntKind) (k : Int) (h0 : 0 ≤ k) (h : k < l.length) (he : ∀ a, (f a).length = e) :
    idxV H e (.sl (l.map f)) (.int kd k)=some (.pp (f (nth l k.toNat))):=by
  simp [idxV,rowAt_map f l k h0 h,he]
@[simp] theorem wrap_in {n:Int} (h1: -9223372036854775808≤n) (h2:n < 9223372036854775808):IntKind.i64.wrap n=n:=IntWalk.i64_in n ⟨by omega,by omega⟩
@[simp] theorem pureLL_map {α : Type} (f : α → List V) (l : List α) (h : ∀ a, pureL (f a) = true) : pureLL (l.map f) = true := by
  rw [pureLL_iff]; intro r hr; obtain ⟨a,_,rfl⟩:=List.mem_map.1 hr; exact h a
@[simp] theorem canon_sl (r:List (List V)):(V.sl r).canon=canonLL r:=by rw [V.canon]
@[simp] theorem canon_pp (r:List V):(V.pp r).canon=canonL r:=by rw [V.canon]
@[simp] theorem canon_agg (r:List V):(V.agg r).canon=canonL r:=by rw [V.canon]
@[simp] theorem canon_tup (r:List V):(V.tup r).canon=canonL r:=by rw [V.canon]
@[simp] theorem canon_fn (f:Nat) (a b:List V):(V.fn f a b).canon=(canonL a&&canonL b):=by rw [V.canon]
@[simp] theorem canon_ms (a b c d:Nat):(V.ms a b c d).canon=false:=by rw [V.canon]
@[simp] theorem canon_mp (a b c d:Nat):(V.mp a b c d).canon=false:=by rw [V.canon]
@[simp] theorem canon_int (k:IntKind) (n:Int):(V.int k n).canon=true:=by rw [V.canon]
@[simp] theorem canon_bool (b:Bool):(V.bool b).canon=true:=by rw [V.canon]
@[simp] theorem canon_str (s:List UInt8):(V.str s).canon=true:=by rw [V.canon]
@[simp] theorem canon_nilsl:V.nilsl.canon=false:=by rw [V.canon]
@[simp] theorem canon_nilp:V.nilp.canon=true:=by rw [V.canon]
@[simp] theorem canon_raw (c:Value):(V.raw c).canon=true:=by rw [V.canon]
@[simp] theorem canonL_nil:canonL []=true:=by rw [canonL]
@[simp] theorem canonL_cons (v:V) (l:List V):canonL (v::l)=(v.canon&&canonL l):=by rw [canonL]
@[simp] theorem canonLL_nil:canonLL []=true:=by rw [canonLL]
@[simp] theorem canonLL_cons (v:List V) (l:List (List V)):canonLL (v::l)=(canonL v&&canonLL l):=by rw [canonLL]
@[simp] theorem fzv_canon' {z:Bool} {H:Heap} {n:Nat} {v:V} (h:v.canon=true):fzv z H n v=v:=fzv_canon n v h
theorem canonLL_map {α:Type} (f:α→List V) (l:List α) (h: ∀ a,canonL (f a)=true):canonLL (l.map f)=true:=by
  rw [canonLL_iff]; intro r hr; obtain ⟨a,_,rfl⟩:=List.mem_map.1 hr; exact h a
@[simp] theorem canonLL_ints (l:List Int):canonLL (l.map cI)=true:=canonLL_map _ _ fun a=>by simp [cI]
@[simp] theorem canonLL_intss (l:List (List Int)):canonLL (l.map cL)=true:=canonLL_map _ _ fun a=>by simp [cL]
end Go.Proofs.YteehaobohaecmaaGreatDoor


namespace Go.Proofs.YteehaobohaecmaaGreatDoor
open Go
structure XF where
  s:SF
  fz:List (Nat×Nat)
abbrev CallF:=Bool→Nat→List V→Heap→Option (V×Heap)
structure PrimA where
  a:Nat→Nat→List V→Heap→Option (V×Blk)
  p:Nat→List V→Option V
def exX (call : CallF) (qa : PrimA) (id : Nat) (x : X) (T : Nat → V) (H : Heap) : Option (V × Heap) :=
  match x with
  | .mv a=>some (ev T a,H)
  | .lazy ty sz=>some (.ms id ((H id).ver+1) 0 0,upd H id ⟨(H id).ver+1,true,true,ty,sz,[]⟩)
  | .pick c a b => match asB (ev T c) with
    |some bb=>some (if bb then ev T a else ev T b,H)
    |none=>none
  | .alloc ty z=>some (.mp id ((H id).ver+1) 0 0,upd H id ⟨(H id).ver+1,true,false,ty,z.length,[z]⟩)
  | .box ty _ a=>some (.mp id ((H id).ver+1) 0 0,upd H id ⟨(H id).ver+1,true,false,ty,(ev T a).cells.length,[(ev T a).cells]⟩)
  | .build z ps=>(bld z (ps.map fun p=>(p.1,p.2.1,ev T p.2.2))).map fun cs=>(.agg cs,H)
  | .bslice ty esz own z len ps=>(brows esz (List.replicate len z) (ps.map fun p=>(p.1,ev T p.2))).map fun rows=>
      if own then (.ms id ((H id).ver+1) 0 rows.length,upd H id ⟨(H id).ver+1,true,false,ty,esz,rows⟩) else (.sl rows,H)
  | .load agg n a=>((ptr H (ev T a)).bind (ldV agg n)).map fun v=>(v,H)
  | .ldp agg n a=>((ptrP (ev T a)).bind (ldV agg n)).map fun v=>(v,H)
  | .store n a b=>(stP H n (ev T b).cells (ev T a)).map fun H'=>(.raw undef,H')
  | .bin op a b=>(intBin op (ev T a) (ev T b)).map fun v=>(v,H)
  | .sbin op a b=>(strBin op (ev T a) (ev T b)).map fun v=>(v,H)
  | .bbin op a b=>(boolBin op (ev T a) (ev T b)).map fun v=>(v,H)
  | .abin neg q a b=>(aggBin neg q (ev T a) (ev T b)).map fun v=>(v,H)
  | .un op a=>(unV op (ev T a)).map fun v=>(v,H)
  | .conv kd a=>(convV kd (ev T a)).map fun v=>(v,H)
  | .fld off a=>(fldV off (ev T a)).map fun v=>(v,H)
  | .part agg off n a=>(partV agg off n (ev T a)).map fun v=>(v,H)
  | .idx esz a i=>(idxV H esz (ev T a) (ev T i)).map fun v=>(v,H)
  | .sidx a i=>(sidxV (ev T a) (ev T i)).map fun v=>(v,H)
  | .aidx agg n len a i=>(aidxV agg n len (ev T a) (ev T i)).map fun v=>(v,H)
  | .apos n len a i=>(aposV n len (ev T a) (ev T i)).map fun v=>(v,H)
  | .slice esz a lo hi=>(sliceV H esz (lo.map (ev T)) (hi.map (ev T)) (ev T a)).map fun v=>(v,H)
  | .sslice a lo hi=>(ssliceV (lo.map (ev T)) (hi.map (ev T)) (ev T a)).map fun v=>(v,H)
  | .mks ty esz bytes z l c=>(mksV bytes (ev T l) (ev T c)).map fun n=>
      (.ms id ((H id).ver+1) 0 n.1,upd H id ⟨(H id).ver+1,true,false,ty,esz,List.replicate n.1 z⟩)
  | .ext a i=>(extV i (ev T a)).map fun v=>(v,H)
  | .mkf f caps=>some (.fn f [] (evs T caps),H)
  | .bstr a=>(bstrV (ev T a)).map fun v=>(v,H)
  | .mkm f a b=>some (.fn f (evs T a) (evs T b),H)
  | .mki ty a=>(rawC (ev T a)).map fun c=>(.raw (.iface ty c),H)
  | .tas ty a=>(tasV ty (ev T a)).map fun v=>(v,H)
  | .nilck a=>(nilckV (ev T a)).map fun v=>(v,H)
  | .len a=>(lenV H (ev T a)).map fun v=>(v,H)
  | .clr z a=>(clrV H z (ev T a)).map fun H'=>(.tup [],H')
  | .cpy n a b=>(cpyV H n (ev T b) (ev T a)).map fun p=>(.int .i64 p.1,p.2)
  | .slen a=>(slenV (ev T a)).map fun v=>(v,H)
  | .mn a b=>(mnV (ev T a) (ev T b)).map fun v=>(v,H)
  | .mn3 a b c=>((mnV (ev T a) (ev T b)).bind fun u=>mnV u (ev T c)).map fun v=>(v,H)
  | .mx a b=>(mxV (ev T a) (ev T b)).map fun v=>(v,H)
  | .append ty esz bytes s a => match ev T s with
    | .ms i ver off len => if (H i).live && decide ((H i).ver = ver) then if off = 0 then if len = (H i).rows.length then if (H i).ty = ty then if (H i).sz = esz then
        match rowsA H (ev T a) with
        | some new => if fitRows esz new = true then if (len + new.length) * bytes ≤ 140737488355328 then if len + new.length ≤ 9223372036854775807 then
            some (.ms i (ver+1) 0 (len+new.length),upd H i {H i with ver:=ver+1,rows:=(H i).rows++new})
          else none else none else none
        |none=>none
        else none else none else none else none else none
    |_=>none
  | .call true f args=>call true f (evs T args) H
  | .call false f args => match qa.p f (evs T args) with
    |some v=>some (v,H)
    |none=>call false f (evs T args) H
  | .callA f args=>(qa.a id f (evs T args) H).map fun p=>(p.1,upd H id p.2)
  | .callv e g args => match ev T g with
    | .fn f first caps=>call e f (first++evs T args++caps) H
    |_=>none
  | .isnil neg a => match ev T a with
    | .nilsl=>some (.bool (!neg),H)
    | .sl (_::_)=>some (.bool neg,H)
    |_=>none
  | .mkmap=>some (.mm id ((H id).ver+1),upd H id ⟨(H id).ver+1,true,true,mapH,2,[[.nilp,.nilp]]⟩)
  | .mlook kd ok z m x=>(mlookV H kd z (ev T m) (ev T x)).map fun p=>(if ok then .tup [p.1,.bool p.2] else p.1,H)
  | .mset kd m x v=>(msetV H kd (ev T m) (ev T x) (ev T v)).map fun H'=>(.raw undef,H')
  | .bad=>none
def exOps (call : CallF) (qa : PrimA) (k0 : Nat) : List SO → (Nat → V) → Heap → Option ((Nat → V) × Heap)
  |[],T,H=>some (T,H)
  | o :: r, T, H => match o.g with
    | none => match exX call qa (k0 + o.d.getD 0) o.x T H with
      |some (v,H')=>exOps call qa k0 r (putT T o.d v) H'
      |none=>none
    | some (t, want) => match gd want (T t) with
      |true=>match exX call qa (k0+o.d.getD 0) o.x T H with
          |some (v,H')=>exOps call qa k0 r (putT T o.d v) H'
          |none=>none
      |false=>exOps call qa k0 r (putT T o.d (.raw undef)) H
def pickK (H:Heap) (d k0:Nat):Nat→Nat
  |0=>k0
  |n+1=>if (H (k0+d)).live then pickK H d (k0+65536) n else k0
def kOf (k0:Nat) (fz:List (Nat×Nat)) (H:Heap) (ops:List SO):Nat:=match fz.find? (fun p=>decide (1000003≤p.2)&&ops.any fun o=>o.d==some p.1) with
  |some p=>pickK H (p.2 - 1000003) k0 200
  |none=>k0
def heads (k0 : Nat) (fz : List (Nat × Nat)) : SC → List Nat
  | .reg ops => ops.foldr (fun o l => match o.d with
    |some d=>(fz.filter (fun p=>p.1==d&&decide (p.2 < 1000003))).map (fun p=>k0+p.2)++l
    |none=>l) []
  | .seq a _=>heads k0 fz a
  |_=>[]
def frz:List Nat→(Nat→V)→Heap→(Nat→V)×Heap
  |[],T,H=>(T,H)
  |id::l,T,H=>frz l (fzT id H T) (kill id H)
abbrev RunF:=Nat→Nat→List (Nat×Nat)→SC→(Nat→V)→Heap→Option (Ex×(Nat→V)×Heap)
abbrev Prim:=Nat→List V→Heap→Option (V×Heap)
def callF0 (F : Nat → Option XF) (run : RunF) (k1 : Nat) : CallF := fun e f args H => match F f with
  |none=>none
  | some g => if args.length ≤ g.s.n then match e with
    | true => match run k1 g.s.n g.fz g.s.body (T0 args) H with
      |some (.exit _,_,_)=>none
      |some (.pan _,_,_)=>none
      |some (_,T',H')=>(resT g.s.res T' H').map fun v=>(v,H')
      |none=>none
    | false => if pureL (args.map (fzv false H 4)) then match run 0 g.s.n g.fz g.s.body (T0 (args.map (fzv false H 4))) H0 with
        |some (.exit _,_,_)=>none
        |some (.pan _,_,_)=>none
        | some (_, T', H') => match resT g.s.res T' H' with
          |some u=>if (fzv false H' 6 u).pure then if pureL args||(fzv false H' 6 u).scalar then some (fzv false H' 6 u,H) else none else none
          |none=>none
        |none=>none
      else none
    else none
def callF (q : Prim) (F : Nat → Option XF) (run : RunF) (k1 : Nat) : CallF := fun e f args H => match e with
  | true => match q f args H with
    |some r=>some r
    |none=>callF0 F run k1 true f args H
  |false=>callF0 F run k1 false f args H
def runS (q : Prim) (qa : PrimA) (F : Nat → Option XF) (run : RunF) : RunF := fun k0 n fz c T H => match c with
  | .skip=>some (.norm,T,H)
  | .ret=>some (.ret,T,H)
  | .exit j=>some (.exit j,T,H)
  | .pop _ _=>none
  | .reg ops=>(exOps (callF q F run (kOf k0 fz H ops+n)) qa (kOf k0 fz H ops) ops T H).map fun p=>(.norm,p.1,p.2)
  | .dreg late ops=>if late.all (fun d=> !(H (kOf k0 fz H ops+d)).live) then (exOps (callF q F run (kOf k0 fz H ops+n)) qa (kOf k0 fz H ops) ops T H).map fun p=>(.norm,p.1,p.2) else none
  | .seq a b => match run k0 n fz a T H with
    |some (.norm,T',H')=>run k0 n fz b (frz (heads k0 fz b) T' H').1 (frz (heads k0 fz b) T' H').2
    |r=>r
  | .cond c a b => match asB (ev T c) with
    |some true=>run k0 n fz a T H
    |some false=>run k0 n fz b T H
    |none=>none
  | .block id a => match run k0 n fz a T H with
    |some (.exit j,T',H')=>if j=id then some (.norm,T',H') else some (.exit j,T',H')
    |r=>r
  | .loop a => match run k0 n fz a T H with
    |some (.norm,T',H')=>run k0 n fz (.loop a) T' H'
    |r=>r
def run (q:Prim) (qa:PrimA) (F:Nat→Option XF) (m:Nat):RunF:=Nat.rec (fun _ _ _ _ _ _=>none) (fun _ ih=>runS q qa F ih) m
section
variable {P:Program} {F:Nat→Option XF} {q:Prim} {qa:PrimA}
end
end Go.Proofs.YteehaobohaecmaaGreatDoor


namespace Go.Proofs.YteehaobohaecmaaGreatDoor
open Go
def ldB (agg:Bool) (n:Nat) (B:Blk) (ver row off:Nat):Option V:=if (B.own&&decide (B.ver=ver))=true then (B.rows[row]?).bind fun r=>ldV agg n (r.drop off) else none
def okB (B:Blk) (ver:Nat):Bool:=B.own&&decide (B.ver=ver)
def stB (B : Blk) (ver row off n : Nat) (vs : List V) : Option Blk := if okB B ver = true then if vs.length = n then if vs.all V.one = true then match B.rows[row]? with
    |some r=>if off+n≤r.length then some {B with rows:=B.rows.set row (putAt r off vs)} else none
    |none=>none
  else none else none else none
section
variable {P:Program} {k0:Nat} {K:(Nat→V)→Heap→Prop} {T:Nat→V} {H:Heap} {r:List SO} {d:Nat} {a b c:SX} {v u:V}
theorem R_nil (h:K T H):Ops P k0 [] T H K:=h
theorem R_mv (ha:ev T a=v) (h:Ops P k0 r (upd T d v) H K):Ops P k0 (⟨none,some d,.mv a⟩::r) T H K:=by subst ha; exact h
theorem R_lazy {i n ty sz:Nat} (hi:k0+d=i) (hv:(H i).ver=n) (h:Ops P k0 r (upd T d (.ms i (n+1) 0 0)) (upd H i ⟨n+1,true,true,ty,sz,[]⟩) K):Ops P k0 (⟨none,some d,.lazy ty sz⟩::r) T H K:=by
  subst hi; subst hv; exact h
theorem R_alloc {i n ty m:Nat} {z:List V} (hi:k0+d=i) (hv:(H i).ver=n) (hm:z.length=m) (h:Ops P k0 r (upd T d (.mp i (n+1) 0 0)) (upd H i ⟨n+1,true,false,ty,m,[z]⟩) K):Ops P k0 (⟨none,some d,.alloc ty z⟩::r) T H K:=by
  subst hi; subst hv; subst hm; exact h
theorem R_box {i n ty q m:Nat} {cs:List V} (hi:k0+d=i) (hv:(H i).ver=n) (ha:ev T a=v) (hc:v.cells=cs) (hm:cs.length=m) (h:Ops P k0 r (upd T d (.mp i (n+1) 0 0)) (upd H i ⟨n+1,true,false,ty,m,[cs]⟩) K):
    Ops P k0 (⟨none,some d,.box ty q a⟩::r) T H K:=by
  subst hi; subst hv; subst ha; subst hc; subst hm; exact h
theorem on_some {α:Type} {o:Option α} {x:α} {k:α→Prop} (ho:o=some x) (h:k x):onS o k:=by rw [ho]; exact h
theorem stp {q:X} {o:Option V} (hS: ∀ k:V→Heap→Prop,St P (k0+d) q T H k=onS o fun v=>k v H) (ho:o=some v) (h:Ops P k0 r (upd T d v) H K):Ops P k0 (⟨none,some d,q⟩::r) T H K:=by
  simp only [Ops,Option.getD_some,hS,ho,onS_some]; exact h
theorem R_load_pp {agg:Bool} {n:Nat} {cs:List V} (ha:ev T a=.pp cs) (hg:ldV agg n cs=some v) (h:Ops P k0 r (upd T d v) H K):Ops P k0 (⟨none,some d,.load agg n a⟩::r) T H K:=by
  refine stp (v:=v) (fun _=>rfl) ?_ h
  rw [ha]; exact hg
theorem R_load_mp {agg:Bool} {n id ver row off:Nat} {B:Blk} (ha:ev T a=.mp id ver row off) (hH:H id=B) (hg:ldB agg n B ver row off=some v) (h:Ops P k0 r (upd T d v) H K):Ops P k0 (⟨none,some d,.load agg n a⟩::r) T H K:=by
  subst hH
  refine stp (v:=v) (fun _=>rfl) ?_ h
  rw [ha]
  simp only [ptr]
  unfold ldB at hg
  split at hg
  · rename_i hc
    rw [if_pos (show ok H id ver=true from hc)]
    cases hr:(H id).rows[row]? with
    |none=>rw [hr] at hg; cases hg
    |some w=>rw [hr] at hg; exact hg
  · cases hg
theorem R_fld_pp {off:Nat} {cs cs':List V} (ha:ev T a=.pp cs) (hd:cs.drop off=cs') (h:Ops P k0 r (upd T d (.pp cs')) H K):Ops P k0 (⟨none,some d,.fld off a⟩::r) T H K:=by
  subst hd
  refine stp (v:=.pp (cs.drop off)) (fun _=>rfl) ?_ h
  rw [ha]; rfl
theorem R_fld_mp {off id ver row o o':Nat} {B:Blk} (ha:ev T a=.mp id ver row o) (hH:H id=B) (hok:okB B ver=true) (ho:o+off=o') (h:Ops P k0 r (upd T d (.mp id ver row o')) H K):Ops P k0 (⟨none,some d,.fld off a⟩::r) T H K:=by
  subst ho; subst hH
  refine stp (v:=.mp id ver row (o+off)) (fun _=>rfl) ?_ h
  rw [ha]; rfl
theorem R_store {n id ver row off : Nat} {B B' : Blk} {vs : List V} (ha : ev T a = .mp id ver row off) (hb : ev T b = v) (hc : v.cells = vs) (hH : H id = B) (hst : stB B ver row off n vs = some B') (h : Ops P k0 r T (upd H id B') K) :
    Ops P k0 (⟨none,none,.store n a b⟩::r) T H K:=by
  subst hH; subst hc; subst hb
  simp only [Ops,St]
  refine on_some (x:=upd H id B') ?_ h
  rw [ha]
  unfold stB at hst
  simp only [stP]
  by_cases h1:ok H id ver=true
  · rw [if_pos (show okB (H id) ver = true from h1)] at hst
    rw [if_pos h1]
    by_cases h2:(ev T b).cells.length=n
    · rw [if_pos h2] at hst ⊢
      by_cases h3:(ev T b).cells.all V.one=true
      · rw [if_pos h3] at hst ⊢
        cases hw:(H id).rows[row]? with
        |none=>rw [hw] at hst; cases hst
        | some w =>
          rw [hw] at hst
          simp only at hst ⊢
          by_cases h4:off+n≤w.length
          · rw [if_pos h4] at hst ⊢; cases hst; rfl
          · rw [if_neg h4] at hst; cases hst
      · rw [if_neg h3] at hst; cases hst
    · rw [if_neg h2] at hst; cases hst
  · rw [if_neg (show ¬okB (H id) ver=true from h1)] at hst; cases hst
theorem R_nilck_mp {id ver row o:Nat} {B:Blk} (ha:ev T a=.mp id ver row o) (hH:H id=B) (hok:okB B ver=true) (h:Ops P k0 r (upd T d (.mp id ver row o)) H K):Ops P k0 (⟨none,some d,.nilck a⟩::r) T H K:=by
  subst hH
  refine stp (v:=.mp id ver row o) (fun _=>rfl) ?_ h
  rw [ha]; rfl
variable {x y:Int}
theorem R_bin {op:BinOp} {w:V} (ha:ev T a=u) (hb:ev T b=w) (hg:intBin op u w=some v) (h:Ops P k0 r (upd T d v) H K):Ops P k0 (⟨none,some d,.bin op a b⟩::r) T H K:=by
  refine stp (v:=v) (fun _=>rfl) ?_ h
  rw [ha,hb]; exact hg
theorem R_add (ha:ev T a=iV x) (hb:ev T b=iV y) (h1: -9223372036854775808≤x+y) (h2:x+y < 9223372036854775808) (h:Ops P k0 r (upd T d (iV (x+y))) H K):Ops P k0 (⟨none,some d,.bin .add a b⟩::r) T H K:=
  R_bin ha hb (by simp only [intBin,if_true,wrap_in h1 h2]) h
theorem R_addN {m n:Nat} (ha:ev T a=iV (m:Nat)) (hb:ev T b=iV (n:Nat)) (h2:m+n < 9223372036854775808) (h:Ops P k0 r (upd T d (iV ((m+n:Nat):Int))) H K):Ops P k0 (⟨none,some d,.bin .add a b⟩::r) T H K:=
  R_add ha hb (by omega) (by omega) (by rw [← Int.natCast_add]; exact h)
theorem R_sub (ha:ev T a=iV x) (hb:ev T b=iV y) (h1: -9223372036854775808≤x - y) (h2:x - y < 9223372036854775808) (h:Ops P k0 r (upd T d (iV (x - y))) H K):Ops P k0 (⟨none,some d,.bin .sub a b⟩::r) T H K:=
  R_bin ha hb (by simp only [intBin,if_true,wrap_in h1 h2]) h
theorem R_lss (ha:ev T a=iV x) (hb:ev T b=iV y) (h:Ops P k0 r (upd T d (.bool (decide (x < y)))) H K):Ops P k0 (⟨none,some d,.bin .lss a b⟩::r) T H K:=R_bin ha hb (by simp only [intBin,if_true]) h
theorem R_leq (ha:ev T a=iV x) (hb:ev T b=iV y) (h:Ops P k0 r (upd T d (.bool (decide (x≤y)))) H K):Ops P k0 (⟨none,some d,.bin .leq a b⟩::r) T H K:=R_bin ha hb (by simp only [intBin,if_true]) h
theorem R_gtr (ha:ev T a=iV x) (hb:ev T b=iV y) (h:Ops P k0 r (upd T d (.bool (decide (y < x)))) H K):Ops P k0 (⟨none,some d,.bin .gtr a b⟩::r) T H K:=R_bin ha hb (by simp only [intBin,if_true]) h
theorem R_geq (ha:ev T a=iV x) (hb:ev T b=iV y) (h:Ops P k0 r (upd T d (.bool (decide (y≤x)))) H K):Ops P k0 (⟨none,some d,.bin .geq a b⟩::r) T H K:=R_bin ha hb (by simp only [intBin,if_true]) h
theorem R_eql (ha:ev T a=iV x) (hb:ev T b=iV y) (h:Ops P k0 r (upd T d (.bool (decide (x=y)))) H K):Ops P k0 (⟨none,some d,.bin .eql a b⟩::r) T H K:=R_bin ha hb (by simp only [intBin,if_true]; rfl) h
theorem R_neq (ha:ev T a=iV x) (hb:ev T b=iV y) (h:Ops P k0 r (upd T d (.bool (decide (x≠y)))) H K):Ops P k0 (⟨none,some d,.bin .neq a b⟩::r) T H K:=R_bin ha hb (by simp only [intBin,if_true]; by_cases e:x=y <;> simp [e,bne]) h
theorem R_not {p:Prop} [Decidable p] (ha:ev T a=.bool (decide p)) (h:Ops P k0 r (upd T d (.bool (decide (¬p)))) H K):Ops P k0 (⟨none,some d,.un .not a⟩::r) T H K:=by
  refine stp (v:=.bool (decide (¬p))) (fun _=>rfl) ?_ h
  rw [ha]; simp [unV]
theorem R_notb {q:Bool} (ha:ev T a=.bool q) (h:Ops P k0 r (upd T d (.bool (!q))) H K):Ops P k0 (⟨none,some d,.un .not a⟩::r) T H K:=by
  refine stp (v:=.bool (!q)) (fun _=>rfl) ?_ h
  rw [ha]; rfl
theorem R_pickT (hc:ev T c=.bool true) (ha:ev T a=v) (h:Ops P k0 r (upd T d v) H K):Ops P k0 (⟨none,some d,.pick c a b⟩::r) T H K:=by
  subst ha
  simp only [Ops,St,hc,asB,onS_some]; exact h
theorem R_pickF (hc:ev T c=.bool false) (hb:ev T b=v) (h:Ops P k0 r (upd T d v) H K):Ops P k0 (⟨none,some d,.pick c a b⟩::r) T H K:=by
  subst hb
  simp only [Ops,St,hc,asB,onS_some]; exact h
theorem R_idx {α:Type} [Inhabited α] {e:Nat} {l:List α} {f:α→List V} {k:IntKind} {i:Nat} (ha:ev T a=.sl (l.map f)) (hb:ev T b=.int k (i:Nat)) (hi:i < l.length) (he:(f (nth l i)).length=e)
    (h:Ops P k0 r (upd T d (.pp (f (nth l i)))) H K):Ops P k0 (⟨none,some d,.idx e a b⟩::r) T H K:=by
  refine stp (v:=.pp (f (nth l i))) (fun _=>rfl) ?_ h
  rw [ha,hb]
  simp only [idxV]
  rw [rowAt_map f l i (by omega) (by omega)]
  simp [he]
theorem R_idxI {α:Type} [Inhabited α] {e:Nat} {l:List α} {f:α→List V} {k:IntKind} {i:Int} (ha:ev T a=.sl (l.map f)) (hb:ev T b=.int k i) (h0:0≤i) (hi:i < l.length) (he:(f (nth l i.toNat)).length=e)
    (h:Ops P k0 r (upd T d (.pp (f (nth l i.toNat)))) H K):Ops P k0 (⟨none,some d,.idx e a b⟩::r) T H K:=by
  refine stp (v:=.pp (f (nth l i.toNat))) (fun _=>rfl) ?_ h
  rw [ha,hb]
  simp only [idxV]
  rw [rowAt_map f l i h0 hi]
  simp [he]
theorem R_idx_ms {e id ver off len i:Nat} {B:Blk} {k:IntKind} (ha:ev T a=.ms id ver off len) (hb:ev T b=.int k (i:Nat)) (hH:H id=B) (hok:okB B ver=true) (hs:B.sz=e) (hi:i < len)
    (h:Ops P k0 r (upd T d (.mp id ver (off+i) 0)) H K):Ops P k0 (⟨none,some d,.idx e a b⟩::r) T H K:=by
  subst hH
  refine stp (v:=.mp id ver (off+i) 0) (fun _=>rfl) ?_ h
  rw [ha,hb]
  simp only [idxV]
  rw [if_pos (show ok H id ver=true from hok),if_pos hs,if_pos (by omega)]
  simp
theorem R_len {α:Type} {l:List α} {f:α→List V} (ha:ev T a=.sl (l.map f)) (h:Ops P k0 r (upd T d (iV (l.length:Nat))) H K):Ops P k0 (⟨none,some d,.len a⟩::r) T H K:=by
  refine stp (v:=iV (l.length:Nat)) (fun _=>rfl) ?_ h
  rw [ha]; simp [lenV]
theorem R_len_ms {id ver off len:Nat} {B:Blk} (ha:ev T a=.ms id ver off len) (hH:H id=B) (hok:(B.live&&decide (B.ver=ver))=true) (h:Ops P k0 r (upd T d (iV (len:Nat))) H K):Ops P k0 (⟨none,some d,.len a⟩::r) T H K:=by
  subst hH
  refine stp (v:=iV (len:Nat)) (fun _=>rfl) ?_ h
  rw [ha]; exact if_pos hok
theorem R_build {z cs:List V} {ps:List (Nat×Nat×SX)} {qs:List (Nat×Nat×V)} (hq:ps.map (fun p=>(p.1,p.2.1,ev T p.2.2))=qs) (hb:bld z qs=some cs) (h:Ops P k0 r (upd T d (.agg cs)) H K):Ops P k0 (⟨none,some d,.build z ps⟩::r) T H K:=by
  simp only [Ops,St]
  rw [hq,hb]; exact h
theorem R_bslice {ty e len:Nat} {z:List V} {ps:List (Nat×SX)} {qs:List (Nat×V)} {rows:List (List V)} (hq:ps.map (fun p=>(p.1,ev T p.2))=qs) (hb:brows e (List.replicate len z) qs=some rows) (h:Ops P k0 r (upd T d (.sl rows)) H K):
    Ops P k0 (⟨none,some d,.bslice ty e false z len ps⟩::r) T H K:=by
  simp only [Ops,St]
  rw [hq,hb]; exact h
theorem R_mks {ty e bytes i n:Nat} {z:List V} {m q:Nat} (hi:k0+d=i) (hv:(H i).ver=n) (ha:ev T a=iV (m:Nat)) (hb:ev T b=iV (q:Nat)) (h1:m≤q) (h2:q*bytes≤281474976710656) (h3:q≤9223372036854775807)
    (h:Ops P k0 r (upd T d (.ms i (n+1) 0 m)) (upd H i ⟨n+1,true,false,ty,e,List.replicate m z⟩) K):Ops P k0 (⟨none,some d,.mks ty e bytes z a b⟩::r) T H K:=by
  subst hi; subst hv
  have e:mksV bytes (iV (m:Nat)) (iV (q:Nat))=some (m,q):=by
    unfold mksV
    have h2':(q:Int)*(bytes:Int)≤281474976710656:=by have:=Int.ofNat_le.2 h2; simpa using this
    exact (if_pos (by omega)).trans ((if_pos (by omega)).trans ((if_pos h2').trans ((if_pos (by omega)).trans rfl)))
  simp only [Ops,St]
  rw [ha,hb,e]; exact h
theorem rowsA_of {H:Heap} {v:V} {new:List (List V)} (h:rowsOf H v=some new):rowsA H v=some new:=by
  cases v <;> first|exact h|(simp [rowsOf] at h)
theorem R_append {ty e bytes id ver len:Nat} {lz:Bool} {rows new:List (List V)} (ha:ev T a=.ms id ver 0 len) (hH:H id=⟨ver,true,lz,ty,e,rows⟩) (hl:len=rows.length) (hn:rowsOf H (ev T b)=some new) (hf:fitRows e new=true)
    (h1:(len+new.length)*bytes≤140737488355328) (h2:len+new.length≤9223372036854775807)
    (h:Ops P k0 r (upd T d (.ms id (ver+1) 0 (len+new.length))) (upd H id ⟨ver+1,true,lz,ty,e,rows++new⟩) K):Ops P k0 (⟨none,some d,.append ty e bytes a b⟩::r) T H K:=by
  simp only [Ops,St]
  rw [ha]
  simp only [hH]
  rw [if_pos (by simp),if_pos trivial,if_pos hl,if_pos trivial,if_pos trivial,rowsA_of hn,onS_some,if_pos hf,if_pos h1,if_pos h2]
  exact h
theorem fit_one {α:Type} {f:α→List V} {e:Nat} {x:α} (he:(f x).length=e) (h1:(f x).all V.one=true):fitRows e [f x]=true:=by simp [fitRows,he,h1]
theorem R_append1 {α:Type} {ty e bytes id ver n:Nat} {lz:Bool} {l:List α} {f:α→List V} {x:α} (ha:ev T a=.ms id ver 0 n) (hH:H id=⟨ver,true,lz,ty,e,l.map f⟩) (hn:n=l.length) (hb:ev T b=.sl [f x]) (he:(f x).length=e) (h1:(f x).all V.one=true)
    (h2:(n+1)*bytes≤140737488355328) (h3:n+1≤9223372036854775807)
    (h:Ops P k0 r (upd T d (.ms id (ver+1) 0 (n+1))) (upd H id ⟨ver+1,true,lz,ty,e,(l++[x]).map f⟩) K):Ops P k0 (⟨none,some d,.append ty e bytes a b⟩::r) T H K:=by
  refine R_append ha hH (by simpa using hn) (new:=[f x]) (by rw [hb]; rfl) (fit_one he h1) (by simpa using h2) (by simpa using h3) ?_
  rw [List.map_append] at h
  exact h
theorem R_appendS {α:Type} {ty e bytes id ver n:Nat} {lz:Bool} {l m:List α} {f:α→List V} (ha:ev T a=.ms id ver 0 n) (hH:H id=⟨ver,true,lz,ty,e,l.map f⟩) (hn:n=l.length) (hb:ev T b=.sl (m.map f)) (he: ∀ x,(f x).length=e) (h1: ∀ x,(f x).all V.one=true)
    (h2:(n+m.length)*bytes≤140737488355328) (h3:n+m.length≤9223372036854775807)
    (h:Ops P k0 r (upd T d (.ms id (ver+1) 0 (n+m.length))) (upd H id ⟨ver+1,true,lz,ty,e,(l++m).map f⟩) K):Ops P k0 (⟨none,some d,.append ty e bytes a b⟩::r) T H K:=by
  refine R_append ha hH (by simpa using hn) (new:=m.map f) (by rw [hb]; rfl) ?_ (by simpa using h2) (by simpa using h3) ?_
  · simp only [fitRows,List.all_eq_true]
    intro r hr
    obtain ⟨x,_,rfl⟩:=List.mem_map.1 hr
    simp only [he,beq_self_eq_true,Bool.true_and]
    exact h1 x
  · rw [List.map_append,show m.length=(m.map f).length by simp] at h
    exact h
theorem R_call {f:Nat} {args:List SX} {as0 us:List V} (he:evs T args=as0) (hc:PureC P f us v) (ha:as0.map (fzv true H 6)=us) (hp:pureL us=true) (hs:pureL as0=true∨v.scalar=true) (h:Ops P k0 r (upd T d v) H K):
    Ops P k0 (⟨none,some d,.call false f args⟩::r) T H K:=by
  subst he
  exact CallK_z true 6 (k:=fun v H'=>Ops P k0 r (upd T d v) H' K) hc ha hp hs h
theorem R_callv {f:Nat} {first caps:List V} {g:SX} {args:List SX} {as0 us:List V} (hg:ev T g=.fn f first caps) (he:evs T args=as0) (hc:PureC P f us v) (ha:(first++as0++caps).map (fzv true H 6)=us) (hp:pureL us=true)
    (hs:pureL (first++as0++caps)=true∨v.scalar=true) (h:Ops P k0 r (upd T d v) H K):Ops P k0 (⟨none,some d,.callv false g args⟩::r) T H K:=by
  subst he
  simp only [Ops,St]
  rw [hg]
  exact CallK_z true 6 hc ha hp hs h
theorem R_callE {f:Nat} {args:List SX} {as0:List V} {H':Heap} (he:evs T args=as0) (hc:CallOK P f as0 H v H') (h:Ops P k0 r (upd T d v) H' K):Ops P k0 (⟨none,some d,.call true f args⟩::r) T H K:=by
  subst he
  exact CallK_E hc h
theorem R_ext {i:Nat} {vs:List V} (ha:ev T a=.tup vs) (hi:vs[i]?=some v) (h:Ops P k0 r (upd T d v) H K):Ops P k0 (⟨none,some d,.ext a i⟩::r) T H K:=by
  refine stp (v:=v) (fun _=>rfl) ?_ h
  rw [ha]; exact hi
theorem R_mkf {f:Nat} {caps:List SX} {cs:List V} (he:evs T caps=cs) (h:Ops P k0 r (upd T d (.fn f [] cs)) H K):Ops P k0 (⟨none,some d,.mkf f caps⟩::r) T H K:=by
  subst he; exact h
theorem G_yes {t:Nat} {w:Bool} {od:Option Nat} {q:X} (ht:T t=.bool w) (h:Ops P k0 (⟨none,od,q⟩::r) T H K):Ops P k0 (⟨some (t,w),od,q⟩::r) T H K:=by
  simp only [Ops,ht,gd] at h ⊢
  exact ⟨fun _=>h,fun hn=>(by simp at hn)⟩
theorem G_no {t:Nat} {w w':Bool} {q:X} (ht:T t=.bool w') (hw:w'≠w) (h:Ops P k0 r (upd T d (.raw undef)) H K):Ops P k0 (⟨some (t,w),some d,q⟩::r) T H K:=by
  simp only [Ops,ht,gd] at h ⊢
  exact ⟨fun hn=>(hw (by simpa using hn)).elim,fun _=>h⟩
theorem G_raw {t:Nat} {w:Bool} {q:X} (ht:T t=.raw undef) (h:Ops P k0 r (upd T d (.raw undef)) H K):Ops P k0 (⟨some (t,w),some d,q⟩::r) T H K:=by
  simp only [Ops,ht,gd,undef] at h ⊢
  exact ⟨fun hn=>(by simp at hn),fun _=>h⟩
theorem Ops_append (a b:List SO):Ops P k0 (a++b) T H K↔Ops P k0 a T H fun T H=>Ops P k0 b T H K:=by
  induction a generalizing T H with
  |nil=>exact Iff.rfl
  | cons o a ih =>
    simp only [List.cons_append,Ops]
    cases o.g with
    |none=>simp only; rw [show (fun v H'=>Ops P k0 (a++b) (putT T o.d v) H' K)=fun v H'=>Ops P k0 a (putT T o.d v) H' fun T H=>Ops P k0 b T H K from funext fun v=>funext fun H'=>propext ih]
    |some p=>simp only [ih]
theorem Ops_seg (n:Nat) {ops:List SO} (R:(Nat→V)→Heap→Prop) (h1:Ops P k0 (ops.take n) T H R) (h2: ∀ T' H',R T' H'→Ops P k0 (ops.drop n) T' H' K):Ops P k0 ops T H K:=by
  rw [← List.take_append_drop n ops,Ops_append]
  exact Ops_mono h2 h1
theorem upd_out {α:Type} {T A:Nat→α} {l:List Nat} (h: ∀ j,j∉l→A j=T j) {d:Nat} {v:α} (hd:d∈l): ∀ j,j∉l→upd A d v j=T j:=by
  intro j hj
  rw [upd_ne _ _ fun e=>hj (by rw [e]; exact hd)]
  exact h j hj
theorem dec_T {p:Prop} [Decidable p] (hp:p):V.bool true=V.bool (decide p):=by simp [hp]
theorem dec_F {p:Prop} [Decidable p] (hp: ¬p):V.bool false=V.bool (decide p):=by simp [hp]
theorem dec_orT {p q:Prop} [Decidable p] [Decidable q] (hp:p):V.bool true=V.bool (decide (p∨q)):=by simp [hp]
theorem dec_orF {p q:Prop} [Decidable p] [Decidable q] (hp: ¬p):V.bool (decide q)=V.bool (decide (p∨q)):=by simp [hp]
theorem dec_andF {p q:Prop} [Decidable p] [Decidable q] (hp: ¬p):V.bool false=V.bool (decide (p∧q)):=by simp [hp]
theorem dec_andT {p q:Prop} [Decidable p] [Decidable q] (hp:p):V.bool (decide q)=V.bool (decide (p∧q)):=by simp [hp]
end
section
variable {P:Program} {k0:Nat} {Q:Ex→(Nat→V)→Heap→Prop} {T:Nat→V} {H:Heap}
theorem W_seq_if {c:SX} {a b r:SC} {p:Prop} [Decidable p] (hc:ev T c=.bool (decide p)) (h1:p→W P k0 (.seq a r) Q T H) (h2: ¬p→W P k0 (.seq b r) Q T H):W P k0 (.seq (.cond c a b) r) Q T H:=
  W_seq_cond (bb:=decide p) (by rw [hc]; rfl) (fun h=>h1 (of_decide_eq_true h)) fun h=>h2 (of_decide_eq_false h)
theorem W_if {c:SX} {a b:SC} {p:Prop} [Decidable p] (hc:ev T c=.bool (decide p)) (h1:p→W P k0 a Q T H) (h2: ¬p→W P k0 b Q T H):W P k0 (.cond c a b) Q T H:=
  W_cond (bb:=decide p) (by rw [hc]; rfl) (fun h=>h1 (of_decide_eq_true h)) fun h=>h2 (of_decide_eq_false h)
theorem W_seq_ifb {c:SX} {a b r:SC} {q:Bool} (hc:ev T c=.bool q) (h1:q=true→W P k0 (.seq a r) Q T H) (h2:q=false→W P k0 (.seq b r) Q T H):W P k0 (.seq (.cond c a b) r) Q T H:=
  W_seq_cond (bb:=q) (by rw [hc]; rfl) h1 h2
theorem W_ifb {c:SX} {a b:SC} {q:Bool} (hc:ev T c=.bool q) (h1:q=true→W P k0 a Q T H) (h2:q=false→W P k0 b Q T H):W P k0 (.cond c a b) Q T H:=
  W_cond (bb:=q) (by rw [hc]; rfl) h1 h2
theorem W_seq_regc {ops:List SO} {b:SC} (R:(Nat→V)→Heap→Prop) (h:Ops P k0 ops T H R) (hk: ∀ T H,R T H→W P k0 b Q T H):W P k0 (.seq (.reg ops) b) Q T H:=
  W_seq_reg fun _ hK=>Ops_mono (fun T H hr=>hK T H (hk T H hr)) h
theorem Ret_1 {t:Nat} {u v:V} {n:Nat} (h1:T t=u) (h2:fzv true H n u=v):Ret [.tmp t] (fun u G=>fzv true G n u=v) .ret T H:=by
  simp only [Ret,resT,mapO,resV,onS_some,h1]; exact h2
theorem Ret_2 {t1 t2:Nat} {u1 u2 v1 v2:V} {n:Nat} (h1:T t1=u1) (h2:T t2=u2) (g1:fzv true H n u1=v1) (g2:fzv true H n u2=v2):Ret [.tmp t1,.tmp t2] (fun u G=>fzv true G (n+1) u=.tup [v1,v2]) .ret T H:=by
  simp only [Ret,resT,mapO,resV,onS_some,h1,h2,fzv,List.map_cons,List.map_nil,g1,g2]
theorem Ret_3 {t1 t2 t3:Nat} {u1 u2 u3 v1 v2 v3:V} {n:Nat} (h1:T t1=u1) (h2:T t2=u2) (h3:T t3=u3) (g1:fzv true H n u1=v1) (g2:fzv true H n u2=v2) (g3:fzv true H n u3=v3):
    Ret [.tmp t1,.tmp t2,.tmp t3] (fun u G=>fzv true G (n+1) u=.tup [v1,v2,v3]) .ret T H:=by
  simp only [Ret,resT,mapO,resV,onS_some,h1,h2,h3,fzv,List.map_cons,List.map_nil,g1,g2,g3]
theorem fz_int {n:Nat} {x y:Int} (h:x=y):fzv true H n (iV x)=iV y:=by rw [fzv_canon n _ (by simp),h]
theorem fz_bool {n:Nat} {x y:Bool} (h:x=y):fzv true H n (.bool x)=.bool y:=by rw [fzv_canon n _ (by simp),h]
theorem fz_sl {α:Type} {n:Nat} {f:α→List V} {l m:List α} (h:l=m) (hc: ∀ a,canonL (f a)=true):fzv true H n (.sl (l.map f))=.sl (m.map f):=by
  rw [fzv_canon n _ (by rw [canon_sl]; exact canonLL_map _ _ hc),h]
theorem fz_nil {α:Type} {n:Nat} {f:α→List V} {m:List α} (h:m=[]):fzv true H (n+1) .nilsl=.sl (m.map f):=by subst h; rfl
theorem fz_ms {α:Type} {n id ver len:Nat} {B:Blk} {f:α→List V} {l m:List α} (hH:H id=B) (hok:(B.live&&decide (B.ver=ver))=true) (hr:B.rows=l.map f) (hl:len=l.length) (hc: ∀ a,canonL (f a)=true) (h:l=m):
    fzv true H (n+1) (.ms id ver 0 len)=.sl (m.map f):=by
  subst hH; subst hl; subst h
  have hx:List.take l.length (List.map f l)=List.map f l:=by rw [show l.length=(l.map f).length by simp,List.take_length]
  simp only [fzv]
  rw [if_pos hok,hr,List.drop_zero,hx]
  congr 1
  rw [List.map_map]
  refine List.map_congr_left fun a _=>fzv_mapcanon n _ (hc a)
theorem fz_canon {n:Nat} {u v:V} (hc:u.canon=true) (h:u=v):fzv true H n u=v:=by rw [fzv_canon n _ hc,h]
end
theorem fork_ {R:(Nat→V)→Heap→Prop} {K:(Nat→V)→Heap→Prop} {T:Nat→V} {H:Heap} (h:R T H) (hk: ∀ T H,R T H→K T H):K T H:=hk T H h
theorem mcons {α β:Type} {g:α→β} {a:α} {b:β} {l:List α} {m:List β} (h1:g a=b) (h2:l.map g=m):(a::l).map g=b::m:=by subst h1; subst h2; rfl
theorem evcons {T:Nat→V} {a:SX} {v:V} {l:List SX} {m:List V} (h1:ev T a=v) (h2:evs T l=m):evs T (a::l)=v::m:=by subst h1; subst h2; rfl
theorem evnil {T:Nat→V}:evs T []=[]:=rfl
end Go.Proofs.YteehaobohaecmaaGreatDoor


namespace Go.Proofs.YteehaobohaecmaaGreatDoor
open Go
section
variable {P:Program} {k0:Nat} {Q:Ex→(Nat→V)→Heap→Prop} {T:Nat→V} {H:Heap}
theorem W_seq_g {ops:List SO} {b:SC} (R:(Nat→V)→Heap→Prop) (h:Ops P k0 ops T H R) (hk: ∀ T H,R T H→G (W P k0 b Q) T H):W P k0 (.seq (.reg ops) b) Q T H:=
  W_seq_reg_g fun _ hK=>Ops_mono (fun T H hr=>hK T H (hk T H hr)) h
theorem W_seq_blockg {id:Nat} {a r:SC} (h: ∀ Q':Ex→(Nat→V)→Heap→Prop,(∀ T H,G (W P k0 r Q) T H→Q' .norm T H)→(∀ T H,G (W P k0 r Q) T H→Q' (.exit id) T H)→(∀ T H,Q .ret T H→Q' .ret T H)→
    (∀ n T H,n≠id→Q (.exit n) T H→Q' (.exit n) T H)→W P k0 a Q' T H):W P k0 (.seq (.block id a) r) Q T H:=by
  simp only [W]
  refine h _ (fun T H h=>h) (fun T H h=>?_) (fun T H h=>h) (fun n T H hn h=>?_)
  · simp only [if_true]; exact h
  · simp only [if_neg hn]; exact h
theorem G_nil {K:(Nat→V)→Heap→Prop} {i:Nat} (ht:T i=.nilsl) (h:K (upd T i (.sl [])) H):G K T H:=
  .slot i (.sl []) (fun x c _ _ hr=>by rw [ht] at hr; generalize hq:V.nilsl=q at hr; cases hr <;> cases hq; exact .slnil) (.done h)
end
section
variable {P:Program} {k0:Nat} {K:(Nat→V)→Heap→Prop} {T:Nat→V} {H:Heap} {r:List SO} {d:Nat} {a b:SX}
theorem R_idxI_ms {e id ver off len:Nat} {i:Int} {B:Blk} {k:IntKind} (ha:ev T a=.ms id ver off len) (hb:ev T b=.int k i) (hH:H id=B) (hok:okB B ver=true) (hs:B.sz=e) (h0:0≤i) (hi:i < len)
    (h:Ops P k0 r (upd T d (.mp id ver (off+i.toNat) 0)) H K):Ops P k0 (⟨none,some d,.idx e a b⟩::r) T H K:=by
  subst hH
  refine stp (v:=.mp id ver (off+i.toNat) 0) (fun _=>rfl) ?_ h
  rw [ha,hb]
  simp only [idxV]
  rw [if_pos (show ok H id ver=true from hok),if_pos hs,if_pos ⟨h0,hi⟩]
theorem R_bneq {x y:Bool} (ha:ev T a=.bool x) (hb:ev T b=.bool y) (h:Ops P k0 r (upd T d (.bool (x != y))) H K):Ops P k0 (⟨none,some d,.bbin .neq a b⟩::r) T H K:=by
  refine stp (v:=.bool (x != y)) (fun _=>rfl) ?_ h
  rw [ha,hb]; rfl
end
theorem okB_map {α:Type} {ver ty sz:Nat} {lz:Bool} {f:α→List V} {l:List α} (h:0 < l.length):okB ⟨ver,true,lz,ty,sz,l.map f⟩ ver=true:=by
  cases l with
  |nil=>simp at h
  |cons a l=>simp [okB,Blk.own]
theorem ldB_map {α:Type} [Inhabited α] {agg:Bool} {n ver ty sz i off:Nat} {lz:Bool} {f:α→List V} {l:List α} {v:V} (h:i < l.length) (hg:ldV agg n ((f (nth l i)).drop off)=some v):
    ldB agg n ⟨ver,true,lz,ty,sz,l.map f⟩ ver i off=some v:=by
  unfold ldB
  rw [if_pos (show (_&&_)=true from okB_map (by omega))]
  simp only [List.getElem?_map,nth_eq h,Option.map_some,Option.bind_some]
  exact hg
theorem borT {x y:Bool} (h:x=true):V.bool true=V.bool (x||y):=by rw [h]; rfl
theorem borF {x y:Bool} (h: ¬x=true):V.bool y=V.bool (x||y):=by rw [Bool.eq_false_iff.2 h]; rfl
theorem bandT {x y:Bool} (h:x=true):V.bool y=V.bool (x&&y):=by rw [h]; rfl
theorem bandF {x y:Bool} (h: ¬x=true):V.bool false=V.bool (x&&y):=by rw [Bool.eq_false_iff.2 h]; rfl
theorem dborT {p:Prop} [Decidable p] {y:Bool} (h:p):V.bool true=V.bool (decide p||y):=by simp [h]
theorem dborF {p:Prop} [Decidable p] {y:Bool} (h: ¬p):V.bool y=V.bool (decide p||y):=by simp [h]
theorem dbandT {p:Prop} [Decidable p] {y:Bool} (h:p):V.bool y=V.bool (decide p&&y):=by simp [h]
theorem dbandF {p:Prop} [Decidable p] {y:Bool} (h: ¬p):V.bool false=V.bool (decide p&&y):=by simp [h]
def fzq (id:Nat) (H:Heap):V→V
  | .ms j ver off len=>if j=id∧(H id).live=true∧(H id).ver=ver then .sl (((H id).rows.drop off).take len) else .ms j ver off len
  |v=>v
theorem fzT_q {id:Nat} {H:Heap} {T:Nat→V} {i:Nat} {v u:V} (h:T i=v) (hu:fzq id H v=u):fzT id H T i=u:=by
  subst hu; subst h
  unfold fzT fzq
  cases hT:T i <;> simp only
theorem fzq_own {α:Type} {id ver len:Nat} {H:Heap} {B:Blk} {f:α→List V} {l:List α} (hH:H id=B) (hok:(B.live&&decide (B.ver=ver))=true) (hr:B.rows=l.map f) (hl:len=l.length):
    fzq id H (.ms id ver 0 len)=.sl (l.map f):=by
  subst hH
  simp only [Bool.and_eq_true,decide_eq_true_eq] at hok
  simp only [fzq]
  rw [if_pos ⟨trivial,hok.1,hok.2⟩,hr,List.drop_zero,hl]
  congr 1
  rw [show l.length=(l.map f).length by simp,List.take_length]
theorem kill_ne {id j:Nat} {H:Heap} {B:Blk} (h:H j=B) (hn:j≠id):kill id H j=B:=by subst h; simp [kill,hn]
theorem kill_ver {id j:Nat} {H:Heap} {n:Nat} (h:(H j).ver=n):(kill id H j).ver=n:=by subst h; unfold kill; by_cases e:j=id <;> simp [e]
mutual
def V.bnd:V→Bool
  | .sl rows=>decide (rows.length≤9223372036854775807)&&bndLL rows
  | .pp cells=>bndL cells
  | .agg cells=>bndL cells
  | .tup vs=>bndL vs
  | .fn _ a b=>bndL a&&bndL b
  | .ms _ _ _ _=>true
  | .mp _ _ _ _=>true
  | .mm _ _=>true
  | .int _ _=>true
  | .bool _=>true
  | .str _=>true
  | .nilsl=>true
  | .nilp=>true
  | .raw _=>true
def bndL:List V→Bool
  |[]=>true
  |v::l=>v.bnd&&bndL l
def bndLL:List (List V)→Bool
  |[]=>true
  |r::l=>bndL r&&bndLL l
end
theorem bndL_iff {l:List V}:bndL l=true↔ ∀ v∈l,v.bnd=true:=by
  induction l with
  |nil=>simp [bndL]
  |cons v l ih=>simp [bndL,ih]
theorem bndLL_iff {l:List (List V)}:bndLL l=true↔ ∀ r∈l,bndL r=true:=by
  induction l with
  |nil=>simp [bndLL]
  |cons v l ih=>simp [bndLL,ih]
theorem R.bnd {x:Cx} {v:V} {c:Value} (h:R x v c):v.bnd=true:=by
  have all: ∀ {l:List V},(∀ (j:Nat) (v:V),l[j]?=some v→v.bnd=true)→bndL l=true:=fun {l} h=>
    bndL_iff.2 fun v hv=>by obtain ⟨j,hj⟩:=List.getElem?_of_mem hv; exact h j v hj
  induction h with
  | sl rows a cap sz cs hc hm hz hsz hcell _ ih =>
    simp only [V.bnd,Bool.and_eq_true,decide_eq_true_eq]
    have:maxLen=9223372036854775807:=rfl
    refine ⟨by omega,bndLL_iff.2 fun r hr=>?_⟩
    obtain ⟨k,hk⟩:=List.getElem?_of_mem hr
    exact all fun j v hj=>ih k r j v hk hj
  |slnil=>simp [V.bnd,bndLL]
  |pp cells a cs hzz hcell _ ih=>simp only [V.bnd]; exact all ih
  |agg cells cs hs _ ih=>simp only [V.bnd]; exact all ih
  |tup cells cs hs _ ih=>simp only [V.bnd]; exact all ih
  |fn f first caps fs cs hfs hcs _ _ ih1 ih2=>simp only [V.bnd,Bool.and_eq_true]; exact ⟨all ih1,all ih2⟩
  |_=>simp [V.bnd]
theorem RL.bnd {x:Cx} {vs:List V} {cs:List Value} (h:RL x vs cs):bndL vs=true:=
  bndL_iff.2 fun v hv=>by obtain ⟨j,hj⟩:=List.getElem?_of_mem hv; exact (h.2 j v hj).bnd
theorem pure_of_Wb {P : Program} {op : Opt} (z : Bool) (n : Nat) {f : Nat} {fn : Func} {s : SF} (hf : P.funcs[f]? = some fn) (hs : slimF P op fn = some s) (hn : (fn.name == "runtime.NumGoroutine") = false) {args : List V} {v : V}
    (hl:args.length≤s.n) (ha:pureL args=true) (hv:v.pure=true) (hW:bndL args=true→W P 0 s.body (Ret s.res fun u G=>fzv z G n u=v) (T0 args) H0):PureC P f args v:=fun H=>
  ⟨callable_of hf hs hn,fun x cs hxH hx hr=>(pure_of_Wz z n hf hs hn hl ha hv (hW hr.bnd) H).2 x cs hxH hx hr⟩
theorem bndLL_map {α:Type} [Inhabited α] {f:α→List V} {l:List α}:bndLL (l.map f)=true↔ ∀ k,k < l.length→bndL (f (nth l k))=true:=by
  rw [bndLL_iff]
  constructor
  · intro h k hk; exact h _ (List.mem_map_of_mem (by rw [← nth_getElem hk]; exact List.getElem_mem hk))
  · intro h r hr
    obtain ⟨a,ha,rfl⟩:=List.mem_map.1 hr
    obtain ⟨k,hk,rfl⟩:=List.getElem_of_mem ha
    rw [nth_getElem hk]; exact h k hk
theorem bnd_map {α:Type} [Inhabited α] {f:α→List V} {l:List α}:(V.sl (l.map f)).bnd=true↔l.length≤9223372036854775807∧ ∀ k,k < l.length→bndL (f (nth l k))=true:=by
  simp only [V.bnd,Bool.and_eq_true,decide_eq_true_eq,List.length_map,bndLL_map]
theorem bnd_int (k:IntKind) (n:Int):(V.int k n).bnd=true:=by simp [V.bnd]
theorem bnd_bool (b:Bool):(V.bool b).bnd=true:=by simp [V.bnd]
theorem bnd_str (s:List UInt8):(V.str s).bnd=true:=by simp [V.bnd]
theorem bnd_agg {l:List V}:(V.agg l).bnd=bndL l:=by simp [V.bnd]
theorem bnd_pp {l:List V}:(V.pp l).bnd=bndL l:=by simp [V.bnd]
theorem bnd_nil:bndL []=true:=by simp [bndL]
theorem bnd_cons {v:V} {l:List V}:bndL (v::l)=true↔v.bnd=true∧bndL l=true:=by simp [bndL]
end Go.Proofs.YteehaobohaecmaaGreatDoor


namespace Go.Proofs.YteehaobohaecmaaGreatDoor
open Go
theorem choiceL {α : Type} {n : Nat} {p : Nat → α → Prop} (h : ∀ i, i < n → ∃ a, p i a) : ∃ l : List α, l.length = n ∧ ∀ i a, l[i]? = some a → p i a := by
  induction n with
  |zero=>exact ⟨[],rfl,fun i a h=>by simp at h⟩
  | succ n ih =>
    obtain ⟨l,h1,h2⟩:=ih fun i hi=>h i (by omega)
    obtain ⟨b,hb⟩:=h n (by omega)
    refine ⟨l++[b],by simp [h1],fun i a hi=>?_⟩
    rw [List.getElem?_append] at hi
    split at hi
    · exact h2 i a hi
    · rename_i hlt
      have e:i=n:=by
        have:=(List.getElem?_eq_some_iff.1 hi).1
        simp at this; omega
      subst e
      simp [h1] at hi
      subst hi
      exact hb
def tile (P:Program) (all:Nat):Nat→List Field→Bool
  |off,[]=>decide (off=all)
  |off,f::r=>decide (f.offset=off)&&tile P all (off+P.cellsOf f.type) r
def ShpL (S:TypeId→List V→Prop):List Field→List V→Prop
  |[],vs=>vs=[]
  |f::r,vs=> ∃ a b,vs=a++b∧S f.type a∧ShpL S r b
def ShpR (S:List V→Prop):Nat→List V→Prop
  |0,vs=>vs=[]
  |k+1,vs=> ∃ a b,vs=a++b∧S a∧ShpR S k b
def Shp (P : Program) : Nat → TypeId → List V → Prop
  |0,_,_=>False
  | n + 1, t, vs => match P.underlying t with
    |some .bool=> ∃ b,vs=[.bool b]
    |some (.int k)=> ∃ m,vs=[.int k m]∧(Lit.int k m).wf=true
    |some .string=> ∃ s,vs=[.str s]
    |some (.slice e)=> ∃ rows,vs=[.sl rows]∧ ∀ r∈rows,Shp P n e r
    |some (.struct fs)=>ShpL (Shp P n) fs.toList vs
    |some (.array m e)=>ShpR (Shp P n e) m vs
    |_=>False
def RC (x:Cx) (vs:List V) (cs:List Value):Prop:=vs.length=cs.length∧ ∀ j v,vs[j]?=some v→R x v (cs.getD j undef)
theorem RC_append {x:Cx} {a b:List V} {c d:List Value} (h1:RC x a c) (h2:RC x b d):RC x (a++b) (c++d):=by
  refine ⟨by simp [h1.1,h2.1],fun j v hj=>?_⟩
  rw [List.getElem?_append] at hj
  rw [List.getD_eq_getElem?_getD,List.getElem?_append,← h1.1]
  split at hj
  · rename_i hlt
    rw [if_pos hlt,← List.getD_eq_getElem?_getD]; exact h1.2 j v hj
  · rename_i hlt
    rw [if_neg hlt,← List.getD_eq_getElem?_getD]; exact h2.2 _ v hj
section
variable {H:Type} {enc:TypeId×Value→H} {P:Program} {base:Nat} {spare:Nat→Bool} {held:Bool}
end
end Go.Proofs.YteehaobohaecmaaGreatDoor


namespace Go.Proofs.YteehaobohaecmaaGreatDoor
open Go Go.ChangeShapes Go.WideShapes Go.ChangeAt Go.RowKit
section
variable {H:Type} {enc:TypeId×Value→H} {P:Program}
theorem post_of_below {f:Func} {s:ChangeSpec} {apart fresh handsOn again:Bool} {W W':World} {args:Array Value} {v:Value} {ds gs:List (DataW H)} {before pa pv:List MemPlace}
    (hW:DataW.Whole enc P f.params.toList s.vars apart W args.toList ds gs before)
    (hres: ∀ (b:Nat) (sp:Nat→Bool) (hd:Bool),DataW.TrodAll enc P W' b sp hd f.resultTypes.toList (v.resultList f.resultTypes.size) (s.fn H (ds++gs)).results [])
    (hargs: ∀ sp:Nat→Bool,(∀ p∈before,sp p.block=true)→DataW.TrodAll enc P W' 0 sp true f.params.toList args.toList (s.fn H (ds++gs)).args pa)
    (hvars: ∀ sp:Nat→Bool,(∀ p∈before,sp p.block=true)→DataW.TrodVars enc P W' sp s.vars (s.fn H (ds++gs)).vars pv)
    (hps:before=pa++pv) (hb:Below W.heap.size W W')
    (hok: ∀ (j:Nat) (t:TypeId) (r:Value),f.resultTypes[j]?=some t→(v.resultList f.resultTypes.size)[j]?=some r→Value.okWide P W' .any 0 t r):
    s.post enc P f apart fresh handsOn again W args v W':=by
  have hold: ∀ p∈before,(fun b=>decide (b < W.heap.size)) p.block=true:=fun p hp=>by simpa using hW.lt p hp
  refine ⟨ds,gs,before,[],pa,pv,hW,hres _ _ _,hargs _ hold,hvars _ hold,World.keptBut_mono (fun p hp=>⟨hp,?_⟩) (hb.frame (· ∈before)),fun _=>?_⟩
  · rw [hps,List.mem_append] at hp
    exact Or.inr hp
  · have hlt:=hW.lt
    obtain ⟨_,_,_,_,_,hz,hn⟩:=hW
    refine ⟨hok,_,_,([]++pa)++pv,⟨[]++pa,pv,trodAll_append (hargs _ (fun _ _=>rfl)) (hres _ _ _),hvars _ (fun _ _=>rfl),rfl,?_,?_⟩,?_⟩
    · intro b off hp
      have hp':MemPlace.cell b off∈before:=by rw [hps]; simpa using hp
      rw [hb.frozen (hlt _ hp')]
      exact hz b off hp'
    · intro ha
      have:=hn ha
      rw [hps] at this
      simpa using this
    · intro p hp _
      rw [hps]
      simpa using hp
theorem below_of_frame {x y:Cx} {w:World} (h:Frame x y) (hx: ∀ id,(x.H id).own=false) (hw:x.w=w):Below w.heap.size w y.w:=by
  subst hw
  exact ⟨h.os,h.tape,h.output,h.size,fun k hk=>h.keep k hk fun id ho=>by rw [hx id] at ho; cases ho⟩
def packV (P:Program) (t:TypeId) (vs:List V):V:=match P.underlying t with
  |some (.struct _)=>.agg vs
  |some (.array _ _)=>.agg vs
  |_=>vs.headD undefV
theorem RC_one {x:Cx} {vs:List V} {c:Value} (h:RC x vs [c]):R x (vs.headD undefV) c:=by
  obtain ⟨h1,h2⟩:=h
  cases vs with
  |nil=>simp at h1
  |cons u l=>exact h2 0 u rfl
theorem trodAll_stays (hl:laidOutB P=true) {W W':World} (hb:Below W.heap.size W W') {sp:Nat→Bool}: ∀ (ts:List TypeId) (vs:List Value) (ds:List (DataW H)) (ps:List MemPlace),
    (∀ t∈ts,P.readableRec t=true∧t < P.types.size)→DataW.TrodAll enc P W 0 (fun _=>true) true ts vs ds ps→(∀ p∈ps,p.block < W.heap.size)→(∀ p∈ps,sp p.block=true)→DataW.TrodAll enc P W' 0 sp true ts vs ds ps
  | [], vs, ds, ps, _, h, _, _ => by
    obtain ⟨rfl,rfl,rfl⟩:=trodAll_nil h
    exact h
  | t :: ts, vs, ds, ps, hr, h, hlt, hsp => by
    obtain ⟨v,vs1,d,ds1,a,b,rfl,rfl,rfl,h1,h2⟩:=trodAll_cons h
    refine ⟨a,b,WideElems.Trod_stays hl (hr t (List.mem_cons_self ..)).1 (hr t (List.mem_cons_self ..)).2 h1 (fun p hp=>hb.same (hlt p (List.mem_append_left _ hp))) (fun p hp=>hsp p (List.mem_append_left _ hp)),
      trodAll_stays hl hb ts vs1 ds1 b (fun q hq=>hr q (List.mem_cons_of_mem _ hq)) h2 (fun p hp=>hlt p (List.mem_append_right _ hp)) (fun p hp=>hsp p (List.mem_append_right _ hp)),rfl⟩
end
end Go.Proofs.YteehaobohaecmaaGreatDoor


namespace Go.Proofs.YteehaobohaecmaaGreatDoor
open Go
theorem rows_map {α:Type} {f:α→List V}: ∀ {rows:List (List V)},(∀ r∈rows,∃ a,r=f a)→ ∃ l:List α,rows=l.map f
  |[],_=>⟨[],rfl⟩
  | r :: rows, h => by
    obtain ⟨a,ha⟩:=h r (List.mem_cons_self ..)
    obtain ⟨l,hl⟩:=rows_map (rows:=rows) fun q hq=>h q (List.mem_cons_of_mem _ hq)
    exact ⟨a::l,by rw [ha,hl]; rfl⟩
section
variable {P:Program} {n t:Nat} {vs:List V}
theorem shp_int {k:IntKind} (ht:P.underlying t=some (.int k)) (h:Shp P (n+1) t vs): ∃ m:Int,vs=[.int k m]:=by
  simp only [Shp,ht] at h; obtain ⟨m,hm,_⟩:=h; exact ⟨m,hm⟩
theorem shp_slice {e:Nat} {α:Type} {f:α→List V} (ht:P.underlying t=some (.slice e)) (he: ∀ vs,Shp P n e vs→ ∃ a,vs=f a) (h:Shp P (n+1) t vs): ∃ l:List α,vs=[.sl (l.map f)]:=by
  simp only [Shp,ht] at h
  obtain ⟨rows,rfl,hr⟩:=h
  obtain ⟨l,rfl⟩:=rows_map (f:=f) fun r h=>he r (hr r h)
  exact ⟨l,rfl⟩
theorem shp_step {fs:Array Field} (ht:P.underlying t=some (.struct fs)) (h:Shp P (n+1) t vs):ShpL (Shp P n) fs.toList vs:=by
  simp only [Shp,ht] at h; exact h
theorem shpL_cons {S:TypeId→List V→Prop} {f:Field} {r:List Field} {α:Type} {c:α→List V} (hc: ∀ vs,S f.type vs→ ∃ a,vs=c a) (h:ShpL S (f::r) vs): ∃ a us,vs=c a++us∧ShpL S r us:=by
  obtain ⟨a,b,rfl,h1,h2⟩:=h
  obtain ⟨x,rfl⟩:=hc a h1
  exact ⟨x,b,rfl,h2⟩
theorem shpL_nil {S:TypeId→List V→Prop} (h:ShpL S [] vs):vs=[]:=h
theorem pack_struct {fs:Array Field} (ht:P.underlying t=some (.struct fs)) (vs:List V):packV P t vs=.agg vs:=by
  unfold packV; rw [ht]
end
end Go.Proofs.YteehaobohaecmaaGreatDoor


