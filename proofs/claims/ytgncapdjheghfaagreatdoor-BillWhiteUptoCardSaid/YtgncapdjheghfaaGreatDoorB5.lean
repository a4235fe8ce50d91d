/- Part 5 of the texts that the last one stands on. -/
import Derived.Lib.Builder
import Derived.Lib.UnsafeStr
import Derived.Test.YtgncapdjheghfaaGreatDoorProg
import Derived.Test.YtgncapdjheghfaaGreatDoorRows
import Derived.WalkKit
import Derived.ProofKit
import Derived.OpenShut
import Derived.JoinedCond
import Derived.Carry
import Derived.Test.YtgncapdjheghfaaGreatDoorTie
import Derived.Deep.DeepHandedRow
import Derived.Lib.LaidTab
import Derived.Test.YtgncapdjheghfaaGreatDoorB4
set_option linter.unusedVariables false
set_option linter.unusedSimpArgs false
namespace Go.Am
open Go.RowKit
def AV.plain1:AV→Bool
 | .v _=>true
 | _=>false
def AV.plainL:List AV→Bool
 | []=>true
 | x::xs=>match x.plain1 with
  | true=>AV.plainL xs
  | false=>false
def AV.plain:AV→Bool
 | .v _=>true
 | .agg cs=>AV.plainL cs
 | .tuple cs=>match cs with
  | [.agg a,.v _]=>AV.plainL a
  | cs=>AV.plainL cs
 | _=>false
theorem AV.plainL_get:∀{cs:List AV},AV.plainL cs=true→∀(i:Nat) (x:AV),cs[i]?=some x→∃v,x = .v v
 | [],_,i,x,h=>by simp at h
 | a::cs,h,i,x,hx=>by
  simp only[AV.plainL]at h
  split at h
  ·rename_i h1
   cases i with
   | zero =>
    simp at hx;subst hx
    cases a<;>simp[AV.plain1]at h1
    exact⟨_,rfl⟩
   | succ i=>exact AV.plainL_get h i x (by simpa using hx)
  ·simp at h
theorem PRel.plain1{w w':World}{imm imm':Nat→Nat→Prop}{x:AV}{y:Value}(hp:∃v,x = .v v)(h:PRel w imm x y):PRel w' imm' x y:=by
 obtain⟨v,rfl⟩:=hp
 cases h
 exact .v _
theorem PRel.plain{w w':World}{imm imm':Nat→Nat→Prop}{x:AV}{y:Value}(hp:x.plain=true)(h:PRel w imm x y):PRel w' imm' x y:=by
 cases x<;>simp only[AV.plain]at hp<;>try(simp at hp;done)
 ·cases h;exact .v _
 ·cases h with
  | agg hl hc h1=>exact .agg hl (fun i x y hx hy=>(hc i x y hx hy).plain1 (AV.plainL_get hp i x hx)) h1
 ·cases h with
  | tuple hl hc =>
   refine .tuple hl fun i x y hx hy=>?_
   split at hp
   ·rename_i a v
    match i,hx with
    | 0,hx =>
     simp at hx;subst hx
     have:=hc 0 (.agg a) y rfl hy
     cases this with
     | agg hl hc h1=>exact .agg hl (fun i x y hx hy=>(hc i x y hx hy).plain1 (AV.plainL_get hp i x hx)) h1
    | 1,hx =>
     simp at hx;subst hx
     exact(hc 1 _ y rfl hy).plain1 ⟨_,rfl⟩
    | n+2,hx=>simp at hx
   ·exact(hc i x y hx hy).plain1 (AV.plainL_get hp i x hx)
theorem PureA.plain{P:Program}{f:FuncId}{args:List AV}{res:AV}(h:PureA P f args res)(hp:res.plain=true):PureF P f args res :=
 ⟨h.1,fun w imm cargs hi hr=>(h.2 w imm cargs hi hr).mono fun _ _ ⟨y,_,he,_,h2,h3⟩=>⟨y,fun _ _=>False,he,fun _ _ h=>h.elim,h2.plain hp,h3⟩⟩
theorem aa{P:Program}{f:FuncId}{args:List AV}{res:AV}{K:AV→Prop}(h:PureA P f args res)(k:K res):Hn P f args false K:=⟨res,h,k⟩
theorem af{P:Program}{f:FuncId}{args:List AV}{res:AV}{K:AV→Prop}(h:PureA P f args res)(hp:res.plain=true)(k:K res):Hn P f args true K:=⟨res,h.plain hp,k⟩
theorem ay{α:Type}{l:List α}{i:Nat}(h:i<l.length):∃x,l[i]?=some x∧l.drop i=x::l.drop (i+1):=⟨l[i],by simp[h],List.drop_eq_getElem_cons h⟩
theorem ae{α:Type}{f:α→AV}{l:List α}{n:Int}{i:Nat}{x:α}{K:AV→Prop}(hx:l[i]?=some x)(hn:n=i)(h:K (f x)):jL (nth (l.map f) n.toNat) K:=by
 subst hn
 refine ah (x:=f x) ?_ h
 rw[dr];simp[hx]
theorem ab(h:False:=by first|omega|(simp only[List.length_map,List.length_take,List.length_append,List.length_cons,List.length_nil,not_true_eq_false]at * <;>omega)):False:=h
theorem Hl{p K:Prop}(k:K)(h:p:=by first|omega|(simp[inI,maxLen];done)|(simp[inI,maxLen];omega)|(simp[inI,maxLen]at *;omega)):p∧K:=⟨h,k⟩
theorem okI{b:Bool}{K:Prop}(k:K)(h:b=true:=by first|exact Nat.beq_refl _|(simp[AV.cells];done)|(simp[AV.cells];omega)):okP b K:=kg h k
theorem dI{ops:Array Oper}{infos:List (List Loc×List Loc)}{K:Prop}(k:K)(h:mv ops infos=true:=by kernel_rfl):DrawOk ops infos∧K:=⟨⟨h⟩,k⟩
theorem bd{p:Prop}[Decidable p]{A B:Prop}(h:p→A)(k:¬p→B):brP (decide p) A B:=bH h k
theorem bn{p:Prop}[Decidable p]{A B:Prop}(h:p→B)(k:¬p→A):brP (!decide p) A B:=Et h k
theorem bi{b:Bool}{A B:Prop}(h:b=true→A)(k:b=false→B):brP b A B:=AO h k
theorem bt{n:Nat}{A B:Prop}(h:A):brP (Nat.beq n n) A B:=ck (Nat.beq_refl _) h
theorem ac{G H:Prop}(k:H)(h:H→G:=by first|exact fun k=>dI k|exact fun k=>okI k|exact fun k=>bt k|exact fun k=>Hl k):G:=h k
theorem ap{G A B:Prop}(h:A)(k:B)(e:A→B→G:=by first|exact fun h k=>bd h k|exact fun h k=>bn h k):G:=e h k
theorem aq{G:Prop}(h:False:=by omega):G:=h.elim
theorem sc{l l':List (Nat×AV)}{i:Nat}{v:AV}(h:cM l i=some v)(k:il l l'):il l ((i,v)::l'):=ai h k
theorem kc{α:Type}{z:α}{l l':List (Key×Option α)}{k:Key}{c:α}(h:bg l k=some (some c))(t:c9 z l l'):c9 z l ((k,some c)::l'):=aL h t
theorem kn{α:Type}{z:α}{l l':List (Key×Option α)}{k:Key}(t:c9 z l l'):c9 z l ((k,none)::l'):=vG t
theorem cO{P:Program}{f:FuncId}{fn:Func}(h:P.funcs[f]?=some fn)(h1:(fn.name == "runtime.NumGoroutine")=false:=by kernel_rfl)(h2:fn.body.isNone=false:=by kernel_rfl):ak P f:=u0 h h1 h2
end Go.Am
namespace Go.Am
open Go
def Wk(x x':AV):Prop:=∀(w:World) (imm:Nat→Nat→Prop) (y:Value),PRel w imm x y→PRel w imm x' y
theorem Wk.refl(x:AV):Wk x x:=fun _ _ _ h=>h
def lE:AV:= .slice 0 [] .no
theorem Wk.nil(sz:Nat):Wk lE (.slice sz [] .no):=fun w imm y h=>by
 unfold lE at h
 cases h with
 | nil=>exact .nil sz .no (.inl rfl)
 | slice ys hcap ht hm hsz hc hp =>
  exact PRel.slice (es:=[]) (fun _ _=> .bool false) (Nat.zero_le _) (.inl rfl) hm (fun i e h=>by simp at h) (fun i e c x h=>by simp at h) (fun i e c x h=>by simp at h)
def WkL:List AV→List AV→Prop
 | [],[]=>True
 | x::xs,y::ys=>Wk x y∧WkL xs ys
 | _,_=>False
theorem WkL.refl:∀l:List AV,WkL l l
 | []=>trivial
 | x::xs=>⟨Wk.refl x,WkL.refl xs⟩
theorem WkL.cons{x x':AV}{l l':List AV}(h:Wk x x')(t:WkL l l'):WkL (x::l) (x'::l'):=⟨h,t⟩
theorem WkL.get:∀{l l':List AV},WkL l l'→l.length=l'.length∧∀(i:Nat) (x':AV),l'[i]?=some x'→∃x,l[i]?=some x∧Wk x x'
 | [],[],_=>⟨rfl,fun i x' h=>by simp at h⟩
 | x::xs,y::ys,h=>by
  obtain⟨h1,h2⟩:=WkL.get h.2
  refine⟨by simp[h1],fun i x' hx=>?_⟩
  cases i with
  | zero=>simp at hx;subst hx;exact⟨x,rfl,h.1⟩
  | succ i=>exact h2 i x' (by simpa using hx)
theorem Wk.tuple{l l':List AV}(h:WkL l l'):Wk (.tuple l) (.tuple l'):=fun w imm y hy=>by
 obtain⟨h1,h2⟩:=h.get
 cases hy with
 | tuple hl hp =>
  refine .tuple (by rw[hl,h1]) fun i x y hx hy=>?_
  obtain⟨u,hu,hw⟩:=h2 i x hx
  exact hw _ _ _ (hp i u y hu hy)
theorem Wk.agg{l l':List AV}(h:WkL l l'):Wk (.agg l) (.agg l'):=fun w imm y hy=>by
 obtain⟨h1,h2⟩:=h.get
 cases hy with
 | agg hl hp ho =>
  refine .agg (by rw[hl,h1]) (fun i x y hx hy=>?_) ho
  obtain⟨u,hu,hw⟩:=h2 i x hx
  exact hw _ _ _ (hp i u y hu hy)
theorem PureA.wk{P:Program}{f:FuncId}{args:List AV}{res res':AV}(h:PureA P f args res)(hw:Wk res res'):PureA P f args res' :=
 ⟨h.1,fun w imm cargs hi hr=>(h.2 w imm cargs hi hr).mono fun _ _ ⟨y,imm',he,h1,h2,h3⟩=>⟨y,imm',he,h1,hw _ _ _ h2,h3⟩⟩
theorem PureF.wk{P:Program}{f:FuncId}{args:List AV}{res res':AV}(h:PureF P f args res)(hw:Wk res res'):PureF P f args res' :=
 ⟨h.1,fun w imm cargs hi hr=>(h.2 w imm cargs hi hr).mono fun _ _ ⟨y,imm',he,h1,h2,h3⟩=>⟨y,imm',he,h1,hw _ _ _ h2,h3⟩⟩
theorem mM.wk{w:World}{imm:Nat→Nat→Prop}{args args':List AV}{cargs:Array Value}(h:mM w imm args cargs)(hw:WkL args args'):mM w imm args' cargs:=by
 obtain⟨h1,h2⟩:=hw.get
 refine⟨by rw[h.1,h1],fun i x y hx hy=>?_⟩
 obtain⟨u,hu,hk⟩:=h2 i x hx
 exact hk _ _ _ (h.2 i u y hu hy)
theorem PureA.args{P:Program}{f:FuncId}{args args':List AV}{res:AV}(h:PureA P f args' res)(hw:WkL args args'):PureA P f args res :=
 ⟨h.1,fun w imm cargs hi hr=>h.2 w imm cargs hi (hr.wk hw)⟩
theorem mM.put{w:World}{imm:Nat→Nat→Prop}{pre post:List AV}{x x':AV}{cargs:Array Value}(h:mM w imm (pre++x::post) cargs)
  (hx:∀y,PRel w imm x y→cargs[pre.length]?=some y→PRel w imm x' y):mM w imm (pre++x'::post) cargs:=by
 refine⟨by rw[h.1];simp,fun i u y hu hy=>?_⟩
 by_cases hi:i=pre.length
 ·subst hi
  have hu':u=x':=by simpa using hu.symm
  subst hu'
  exact hx y (h.2 pre.length x y (by simp) hy) hy
 ·refine h.2 i u y ?_ hy
  rw[List.getElem?_append]at hu ⊢
  by_cases hl:i<pre.length
  ·simpa[hl]using hu
  ·simp only[if_neg hl]at hu ⊢
   obtain⟨j,hj⟩:∃j,i-pre.length=j+1:=⟨i-pre.length-1,by omega⟩
   rw[hj]at hu ⊢
   simpa using hu
theorem PureA.empty{P:Program}{f:FuncId}{pre post:List AV}{sz:Nat}{tok:Tok}{res:AV}(hn:PureA P f (pre++ .v (.slice none 0 0)::post) res)
  (hs:∀b o c,c≤maxLen→PureA P f (pre++ .v (.slice (some ⟨b,o,none⟩) 0 c)::post) res):PureA P f (pre++ .slice sz [] tok::post) res:=by
 refine⟨hn.1,fun w imm cargs hi hr=>?_⟩
 obtain⟨y,hy⟩:∃y,cargs[pre.length]?=some y:=by
  have:pre.length<cargs.size:=by rw[hr.1];simp
  exact⟨cargs[pre.length],by simp[this]⟩
 have hp:=hr.2 pre.length (.slice sz [] tok) y (by simp) hy
 cases hp with
 | nil=>exact hn.2 w imm cargs hi (hr.put fun y' _ hy'=>by rw[hy]at hy';cases hy';exact .v _)
 | slice ys hcap ht hm=>exact(hs _ _ _ hm).2 w imm cargs hi (hr.put fun y' _ hy'=>by rw[hy]at hy';cases hy';exact .v _)
def AV.bare:AV→Bool
 | .slice _ _ (.own _ _)=>false
 | .slice _ _ _=>true
 | .v _=>true
 | _=>false
theorem BoxA.pure{P:Program}{f:FuncId}{args:List AV}{res:AV}(h:BoxA P (.fn f) [] args res [])(hb:res.bare=true):PureA P f args res:=by
 refine⟨h.1,fun w imm cargs hi hr=>?_⟩
 let C:Ctx:={ w,imm,own:=fun _=>none,gb:=fun _=>0,jb:=fun _=>0,gt:=fun _=>0,hw:=fun _=>0}
 have hR:Rel 0 (fun b=>b<w.heap.size∧C.own b=none) w (fS []) C ⟨#[],[]⟩ w:={
  cw:=rfl,glob:=hi.glob,size:=rfl,defers:=k9.nil _ _,slot:=fun i hi=>absurd hi (by omega)
  gb:=fun k=>rfl,gt:=fun k=>rfl,hw:=fun k=>rfl
  box:=fun k sz es h=>by simp[fS,cD]at h
  ownBox:=fun b k h=>by simp[C]at h
  immLt:=hi.lt
  ownLt:=fun b o h=>by simp[C]at h
  below:=Bel.refl _ _
  base:=fun b h=>h.1}
 refine(h.2 C w cargs hR (fun b o h=>by simp[C]at h) ⟨hr.1,fun i x y hx hy=> .pure (hr.2 i x y hx hy)⟩).mono ?_
 rintro e w' ⟨y,S',C',rfl,hle,hR',hk,_⟩
 refine⟨y,C'.imm,rfl,fun b i hb'=>⟨hR'.immLt b i hb',fun hl=>?_⟩,?_,qJ (hR'.below.mono fun b hb=>⟨hb,rfl⟩)⟩
 ·rcases hle.immOld b i hl hb' with h|⟨k,h⟩|⟨k,h,_⟩
  ·exact h
  ·simp[C]at h
  ·simp[C]at h
 ·rw[←hR'.cw]
  cases hk with
  | pure h=>exact h
  | _=>simp[AV.bare]at hb
def yw(w:World)(imm:Nat→Nat→Prop):Ctx:={ w,imm,own:=fun _=>none,gb:=fun _=>0,jb:=fun _=>0,gt:=fun _=>0,hw:=fun _=>0}
theorem AH{w:World}{imm:Nat→Nat→Prop}(hi:ImmOk w imm):Rel 0 (fun b=>b<w.heap.size∧(yw w imm).own b=none) w (fS []) (yw w imm) ⟨#[],[]⟩ w where
 cw:=rfl
 glob:=hi.glob
 size:=rfl
 defers:=k9.nil _ _
 slot:=fun i hi=>absurd hi (by omega)
 gb:=fun k=>rfl
 gt:=fun k=>rfl
 hw:=fun k=>rfl
 box:=fun k sz es h=>by simp[fS,cD]at h
 ownBox:=fun b k h=>by simp[yw]at h
 immLt:=hi.lt
 ownLt:=fun b o h=>by simp[yw]at h
 below:=Bel.refl _ _
 base:=fun b h=>h.1
theorem KRel.tuple2{C:Ctx}{a b:AV}{y:Value}(h:KRel C (.tuple [a,b]) y):∃u v,y = .tuple #[u,v]∧KRel C a u∧KRel C b v:=by
 have key:∀{vs:Array Value},vs.size=2→(∀(i:Nat) (x:AV) (y:Value),[a,b][i]?=some x→vs[i]?=some y→KRel C x y)→∃u v,(Value.tuple vs) = .tuple #[u,v]∧KRel C a u∧KRel C b v:=by
  intro vs h1 h2
  obtain⟨l⟩:=vs
  match l,h1 with
  | [u,v],_=>exact⟨u,v,rfl,h2 0 a u rfl rfl,h2 1 b v rfl rfl⟩
 cases h with
 | pure hp=>cases hp with
  | tuple hl hp=>exact key hl fun i x y h1 h2=> .pure (hp i x y h1 h2)
 | tuple hl hp=>exact key hl hp
theorem BoxA.fresh{P:Program}{f:FuncId}{args:List AV}{k:Key}{g sz cap:Nat}{es:List AV}{u:Value}(hs0:sz≠0)(hv:∀e∈es,∀x∈e.cells,∃z,x = .v z)
  (h:BoxA P (.fn f) [] args (.tuple [.own k g sz es.length cap,.v u]) [(k,g,sz,es)]):PureF P f args (.tuple [.slice sz es .no,.v u]):=by
 refine⟨h.1,fun w imm cargs hi hr=>?_⟩
 refine(h.2 (yw w imm) w cargs (AH hi) (fun b o h=>by simp[yw]at h) ⟨hr.1,fun i x y hx hy=> .pure (hr.2 i x y hx hy)⟩).mono ?_
 rintro e w' ⟨y,S',C',rfl,hle,hR',hk,hp⟩
 have hbox:=hp _ (List.mem_singleton.2 rfl)
 simp only at hbox
 obtain⟨y0,y1,rfl,hk0,hk1⟩:=hk.tuple2
 have hgb:C'.gb k=g:=by rw[hR'.gb,hbox]
 have hbk:=hR'.box k sz es (by rw[hbox])
 have hbel:RowKit.Below w.heap.size w w':=qJ (hR'.below.mono fun b hb=>⟨hb,rfl⟩)
 have two:∀imm':Nat→Nat→Prop,PRel w' imm' (.slice sz es .no) y0→PRel w' imm' (.tuple [.slice sz es .no,.v u]) (.tuple #[y0,y1]):=by
  intro imm' h0
  have h1:y1=u:=hk1.val rfl
  subst h1
  refine .tuple rfl fun i x y hx hy=>?_
  match i with
  | 0=>simp at hx hy;subst hx hy;exact h0
  | 1=>simp at hx hy;subst hx hy;exact .v _
  | i+2=>simp at hx
 by_cases hne:es=[]
 ·subst hne
  refine⟨_,fun _ _=>False,rfl,fun b i hb=>hb.elim,two _ ?_,hbel⟩
  cases hk0 with
  | pure hp=>cases hp
  | ownOld hlt=>omega
  | own hn hm=>exact PRel.slice (es:=[]) (fun _ _=> .bool false) hn (.inl rfl) hm (fun i e h=>by simp at h) (fun i e c x h=>by simp at h) (fun i e c x h=>by simp at h)
  | ownNil hb =>
   rcases hb with rfl|⟨x,z,rfl⟩
   ·exact .nil sz .no (.inl rfl)
   ·exact PRel.slice (es:=[]) (fun _ _=> .bool false) (Nat.le_refl _) (.inl rfl) (Nat.zero_le _) (fun i e h=>by simp at h) (fun i e c x h=>by simp at h) (fun i e c x h=>by simp at h)
 ·obtain⟨ho,arr,et,ha,hl,hc⟩:=hbk.own hs0 hne
  have hnew:=hR'.ownLt _ _ ho
  refine⟨_,fun b i=>b=C'.jb k∧i<arr.size,rfl,fun b i hb=>?_,two _ ?_,hbel⟩
  ·obtain⟨rfl,_⟩:=hb
   exact⟨hnew.2,fun hlt=>hnew.1 ⟨hlt,rfl⟩⟩
  ·have hn0:es.length≠0:=fun e=>hne (List.length_eq_zero_iff.1 e)
   generalize hN:es.length=N at hk0
   cases hk0 with
   | pure hp=>cases hp
   | ownOld hlt=>omega
   | own hn hm =>
    subst hN
    rw[hR'.cw]at ha
    refine PRel.slice (fun i c=>(arr[i * sz+c]?).getD (.bool false)) hn (.inl rfl) hm (fun i e he=>hbk.wid hs0 i e he) (fun i e c x he hx=>?_) (fun i e c x he hx=>?_)
    ·obtain⟨y,hy,_,h1⟩:=hc i e c x he hx
     have hlt:=(Array.getElem?_eq_some_iff.1 hy).1
     refine⟨?_,⟨rfl,by omega⟩,by rw[hy];exact h1⟩
     rw[Nat.zero_add,hy,Option.getD_some]
     unfold World.cell?
     simp only[ha]
     simpa using hy
    ·obtain⟨y,hy,hk,_⟩:=hc i e c x he hx
     obtain⟨z,rfl⟩:=hv e (List.mem_of_getElem? he) x (List.mem_of_getElem? hx)
     rw[hy,Option.getD_some,hk.val rfl]
     exact .v _
   | ownNil hb=>exact absurd hN hn0
end Go.Am
namespace Go.Am
open Go.RowKit
section
variable {P:Program} {N:Nat} {base:Nat→Prop} {w0:World} {S:St} {C:Ctx} {a:Act} {w:World}
theorem Rel.objSpoil(hR:Rel N base w0 S C a w)(k:Key)(o:C.own (C.jb k)=some (.box k)){w':World}
  (hother:∀b,b≠C.jb k→w'.heap[b]?=w.heap[b]?) (hsize:w'.heap.size=w.heap.size) (hos:w'.os=w.os) (ht:w'.tape=w.tape) (hout:w'.output=w.output) :
  ∃C',C.le C'∧C'.gb k=(S.box k).1+1∧Rel N base w0 (S.put (.box k ((S.box k).1+1,some (1000,[])))) C' a w':=by
 have hw:=hR.cw
 subst hw
 have hni:=hR.ownBox _ _ o
 obtain⟨C',hC'⟩:∃C':Ctx,C'={ C with w:=w',gb:=upd C.gb k (C.gb k+1)}:=⟨_,rfl⟩
 have hle:C.le C':=by
  refine⟨fun b i h=>⟨by rw[hC'];exact h,by rw[hC'];exact World.cell?_of_block (hother b fun e=>hni i (e▸h))⟩,fun x=>?_,fun x e=>by rw[hC'],fun x=>by rw[hC'];exact Nat.le_refl _,fun x _=>by rw[hC'];exact Nat.le_refl _,fun x b _ _ h=>?_,fun x e h=>?_,by rw[hC'];simp[hsize],fun b i _ h=>by rw[hC']at h;exact .inl h,fun b o _ h=>by rw[hC']at h;exact h,fun b _ h=>by rw[hC'];exact hother b fun e=>by rw[e,o]at h;cases h⟩
  ·rw[hC'];simp only[upd];split
   ·subst_vars;omega
   ·exact Nat.le_refl _
  ·have hne:b≠C.jb k:=fun e=>by rw[e,o]at h;cases h
   exact⟨by rw[hC'];exact h,fun i hi=>by rw[hC']at hi;exact hi,fun arr1 e h'=>⟨arr1,by rw[hC'];exact(hother b hne).trans h',rfl⟩⟩
  ·have hxk:x≠k:=fun e'=>by subst e';rw[hC']at e;simp[upd]at e
   have hne:C.jb x≠C.jb k:=fun e'=>by rw[e',o]at h;cases h;exact hxk rfl
   exact⟨by rw[hC'];exact h,fun arr e h'=>⟨arr,e,by rw[hC'];exact(hother _ hne).trans h',Nat.le_refl _⟩⟩
 refine⟨C',hle,by rw[hC', ←hR.gb];exact a8 _ _ _,?_⟩
 exact {
  cw:=by rw[hC']
  glob:=hR.globOf hle.le0 (by rw[hC'])
  size:=hR.size,defers:=hR.defers.le hle,slot:=fun i hi=>(hR.slot i hi).le hle
  gb:=fun x=>by
   rw[hC'];simp only[St.put,upd];split
   ·subst_vars;simp[hR.gb]
   ·exact hR.gb x
  gt:=fun x=>by rw[hC'];exact hR.gt x
  hw:=fun x=>by rw[hC'];exact hR.hw x
  box:=fun x sz es h=>by
   by_cases e:x=k
   ·subst e
    simp only[St.put,a8,Option.some.injEq,Prod.mk.injEq]at h
    obtain⟨rfl,rfl⟩:=h
    exact⟨fun _ i e he=>by simp at he,fun h0=>absurd h0 (by decide),fun _ he=>absurd rfl he,fun _ _ _ he=>absurd rfl he,fun _ _ _ h1=>absurd h1 (by decide)⟩
   ·simp only[St.put,fv _ _ e]at h
    refine(hR.box x sz es h).mono hle (by rw[hC']) (fun _=>by rw[hC']) (fun ho=>by
     rw[hC']
     exact hother _ fun e'=>by rw[e',o]at ho;cases ho;exact e rfl)
  ownBox:=fun b x h=>by rw[hC']at h ⊢;exact hR.ownBox b x h
  immLt:=fun b i h=>by rw[hC']at h;have:=hR.immLt b i h;simpa[hsize]using this
  ownLt:=fun b o h=>by rw[hC']at h;have:=hR.ownLt b o h;simpa[hsize]using this
  below:=hR.below.trans ⟨hos,ht,hout,by omega,fun b hb=>hother b fun e=>(hR.ownLt _ _ o).1 (e▸hb)⟩,base:=hR.base}
theorem j2{C:Ctx}{x:AV}{ys:Array Value}(h:G7 C [x] ys):∃y,ys=#[y]∧KRel C x y:=by
 obtain⟨h1,h2⟩:=h
 obtain⟨l⟩:=ys
 obtain⟨y,rfl⟩:=List.length_eq_one_iff.1 (by simpa using h1)
 exact⟨y,rfl,h2 0 x y rfl rfl⟩
theorem qN{pre:List cr}{T:TypeId}{k:Key}{g:Nat}{p x:AV}(hl:k.l=1000+2 * T)(hR:Rel N base w0 (fS pre) C a w)(hb:cD pre k=(g,some (2,[.agg [p,x]]))) :
  C.gb k=g∧C.own (C.jb k)=some (.box k)∧∃y0 y1,w.heap[C.jb k]?=some (.cells #[y0,y1] T (0,0))∧(KRel C p y0∧y0.oneCell'=true)∧KRel C x y1∧y1.oneCell'=true:=by
 have hgb:C.gb k=g:=by rw[hR.gb];show(cD pre k).1=g;rw[hb]
 have hB:=hR.box k 2 [.agg [p,x]] (by show(cD pre k).2=_;rw[hb])
 obtain⟨o,arr,et,ha,_,hc⟩:=hB.own (by decide) (by simp)
 obtain⟨arr2,ha2,hs2⟩:=hB.ety T hl (by decide) (by simp)
 rw[ha]at ha2
 cases ha2
 rw[hR.cw]at ha
 obtain⟨y0,a1,a2,a3⟩:=hc 0 _ 0 p rfl rfl
 obtain⟨y1,b1,b2,b3⟩:=hc 0 _ 1 x rfl rfl
 refine⟨hgb,o,y0,y1,?_,⟨a2,a3⟩,b2,b3⟩
 have:arr=#[y0,y1]:=by
  obtain⟨l⟩:=arr
  match l,hs2 with
  | [u,v],_ =>
   simp at a1 b1
   rw[a1,b1]
 rw[←this];exact ha
theorem nw{pre:List cr}{k:Key}{g:Nat}{y:Value}(hR:Rel N base w0 (fS pre) C a w)(hg:C.gb k=g)(h:KRel C (.ptr k g 2 0 0) y):y = .pointer (some ⟨C.jb k,0,none⟩):=by
 have:=h.ptrCur hR (by rw[←hR.gb];exact hg)
 simpa using this
end
section
variable {P:Program} {f:FuncId} {T U:TypeId} {k kr:Key} {g gr:Nat} {x:AV}
theorem iT(hl:k.l=1000+2 * T)(hc:ak P f)
  (hrun:∀(b:Nat) (y:Value) (w:World),w.heap[b]?=some (.cells #[.pointer none,y] T (0,0))→Calls P f #[.pointer (some ⟨b,0,none⟩)] w fun e w'=>e = .returned (.tuple #[])∧w'=w.setCell ⟨b,0,none⟩ (.pointer (some ⟨b,0,none⟩))) :
  BoxA P (.fn f) [(k,g,2,[.agg [.v (.pointer none),x]])] [.ptr k g 2 0 0] (.tuple []) [(k,g,2,[.agg [.ptr k g 2 0 0,x]])]:=by
 refine⟨hc,fun C w cargs hR hown hk=>?_⟩
 obtain⟨y,rfl,hy⟩:=j2 hk
 obtain⟨hgb,o,y0,y1,hh,⟨h0,_⟩,h1,h2⟩:=qN (k:=k) hl hR (g:=g) (p:= .v (.pointer none)) (x:=x) (by simp[cD])
 obtain rfl:=nw hR hgb hy
 obtain rfl:y0 = .pointer none:=h0.val (z:= .pointer none) rfl
 refine Calls.mono (hrun _ _ w hh) fun e w' ⟨he,hw'⟩=>?_
 rw[setCell_eq_setRow w _ 0 _ T (0,0) _ hh]at hw'
 have hbx:((fS [(k,g,2,[.agg [.v (.pointer none),x]])]).box k).2=some (2,[.agg [.v (.pointer none),x]]):=by simp[fS,cD]
 have hg0:((fS [(k,g,2,[.agg [.v (.pointer none),x]])]).box k).1=g:=by simp[fS,cD]
 obtain⟨C',hle,hgb',hjb',hR'⟩:=hR.boxWrite k hbx (by decide) (by simp) [.agg [.ptr k g 2 0 0,x]] hh (#[.pointer none,y1].setIfInBounds 0 (.pointer (some ⟨C.jb k,0,none⟩))) (by simp)
  (fun i e he=>by cases i<;>simp at he;subst he;rfl) (by simp) (fun i e c z he hz=>by
   cases i<;>simp at he
   subst he
   match c with
   | 0=>simp[AV.cells]at hz;subst hz;exact⟨.pointer (some ⟨C.jb k,0,none⟩),by simp,by have:=KRel.mkPtr (C:=C) hR hg0 2 0 0;simpa using this,rfl⟩
   | 1=>simp[AV.cells]at hz;subst hz;exact⟨y1,by simp,h1,h2⟩
   | c+2=>simp[AV.cells]at hz)
 subst hw'
 refine⟨_,_,C',he,hle,hR',.tuple (by rfl) (fun i x y hx=>by simp at hx),fun p hp=>?_⟩
 rcases List.mem_singleton.1 hp with rfl
 simp only[St.put,a8]
 rw[hg0]
theorem uP{p:AV}{s:ByteArray}{c0:Nat}(hl:k.l=1000+2 * T)(hlr:kr.l=1001+2 * U)(hne:s.size≠0)(hc:ak P f)
  (hrun:∀(b r cap:Nat) (y0:Value) (cur:Array Value) (w:World),w.heap[b]?=some (.cells #[y0,.slice (some ⟨r,0,none⟩) s.size cap] T (0,0))→w.heap[r]?=some (.cells cur U (0,0))→s.size≤cap→cap≤maxLen→cap≤cur.size →
   (∀(j:Nat) (x:UInt8),s.data.toList[j]?=some x→cur[j]?=some (.int .u8 x.toNat)) →
   Calls P f #[.pointer (some ⟨b,0,none⟩)] w fun e w'=>e = .returned (.string s)∧(∀b',b'≠r→w'.heap[b']?=w.heap[b']?)∧w'.heap.size=w.heap.size∧w'.os=w.os∧w'.tape=w.tape∧w'.output=w.output) :
  BoxA P (.fn f) [(k,g,2,[.agg [p,.own kr gr 1 s.size c0]]),(kr,gr,1,cm s)] [.ptr k g 2 0 0] (.v (.string s)) [(k,g,2,[.agg [p,.own kr gr 1 s.size c0]]),(kr,gr+1,1000,[])]:=by
 have hkk:¬kr=k:=fun e=>by
  rw[e,hl]at hlr
  have:∀a b:Nat,1000+2 * a≠1001+2 * b:=fun a b=>by omega
  exact this _ _ hlr
 refine⟨hc,fun C w cargs hR hown hk=>?_⟩
 obtain⟨y,rfl,hy⟩:=j2 hk
 obtain⟨hgb,o,y0,y1,hh,_,h1,h2⟩:=qN (k:=k) hl hR (g:=g) (p:=p) (x:= .own kr gr 1 s.size c0) (by simp[cD])
 obtain rfl:=nw hR hgb hy
 have hlk:cD [(k,g,2,[.agg [p,.own kr gr 1 s.size c0]]),(kr,gr,1,cm s)] kr=(gr,some (1,cm s)):=by simp[cD,hkk]
 have hgr:C.gb kr=gr:=by rw[hR.gb];show(cD _ kr).1=gr;rw[hlk]
 have hB:=hR.box kr 1 (cm s) (by show(cD _ kr).2=_;rw[hlk])
 obtain⟨or,arr,har⟩:=hB.row U hlr (by decide) (by decide)
 have hbn:cm s≠[]:=fun e=>hne (by rw[←lc,e];rfl)
 obtain⟨_,arr2,et2,ha2,_,hcell⟩:=hB.own (by decide) hbn
 rw[har]at ha2
 cases ha2
 rw[hR.cw]at har
 subst hgr
 generalize hnn:s.size=n at h1
 cases h1 with
 | pure hp=>cases hp
 | ownOld hlt=>exact absurd hlt (Nat.lt_irrefl _)
 | @own _ _ _ _ c hn hm ho hs =>
  subst hnn
  obtain⟨arr3,et3,ha3,hs3⟩:=hs
  rw[hR.cw,har]at ha3
  cases ha3
  refine Calls.mono (hrun _ _ _ _ _ w hh har hn hm (by simpa using hs3) fun j b hb=>?_) fun e w' ⟨he,hother,hsize,hos,ht,hout⟩=>?_
  ·obtain⟨y,a1,a2,a3⟩:=hcell j (.v (.int .u8 b.toNat)) 0 (.v (.int .u8 b.toNat)) (by unfold cm;rw[List.getElem?_map,hb];rfl) rfl
   have:=a2.val (z:= .int .u8 b.toNat) rfl
   rw[this]at a1
   simpa using a1
  ·obtain⟨C',hle,hgb',hR'⟩:=hR.objSpoil kr or hother hsize hos ht hout
   refine⟨_,_,C',he,hle,hR',.pure (.v _),fun q hq=>?_⟩
   simp only[List.mem_cons,List.not_mem_nil,or_false]at hq
   rcases hq with rfl|rfl
   ·simp only[St.put]
    rw[fv _ _ (fun e=>hkk e.symm)]
    simp[fS,cD]
   ·simp only[St.put,a8]
    show((cD _ kr).1+1,_)=_
    rw[hlk]
 | ownNil _=>exact absurd hnn hne
end
end Go.Am
namespace Go.Proofs.YtgncapdjheghfaaGreatDoor
open Go.Am Go.Proofs
theorem JF:bG Tryz.prog 3=some (false,1):=by kernel_rfl
theorem JS:bm Tryz.prog 3=some (1,.v (.int .i64 (0))):=by kernel_rfl
theorem LT:Tryz.prog.underlying 3=some (.int .i64):=by kernel_rfl
theorem JG:bG Tryz.prog 4=some (false,1):=by kernel_rfl
theorem JT:bm Tryz.prog 4=some (1,.v (.bool false)):=by kernel_rfl
theorem JH:bG Tryz.prog 5=some (false,1):=by kernel_rfl
theorem JU:bm Tryz.prog 5=some (1,.v (.int .u8 (0))):=by kernel_rfl
theorem Ld:Tryz.prog.underlying 5=some (.int .u8):=by kernel_rfl
theorem JI:bG Tryz.prog 9=some (false,1):=by kernel_rfl
theorem JV:bm Tryz.prog 9=some (1,.v (.string ⟨#[]⟩)):=by kernel_rfl
theorem LU:Tryz.prog.underlying 9=some (.string):=by kernel_rfl
theorem F0:bG Tryz.prog 21=some (false,1):=by kernel_rfl
theorem Gq:bm Tryz.prog 21=some (1,.v (.int .i32 (0))):=by kernel_rfl
theorem Lb:Tryz.prog.underlying 21=some (.int .i32):=by kernel_rfl
theorem F1:bG Tryz.prog 22=some (false,1):=by kernel_rfl
theorem z8:aU Tryz.prog 22=some (74,4,48):=by kernel_rfl
theorem Gr:bm Tryz.prog 22=some (1,.slice 0 [] .tight):=by kernel_rfl
theorem F2:bG Tryz.prog 23=some (false,1):=by kernel_rfl
theorem Aa:aU Tryz.prog 23=some (3,1,8):=by kernel_rfl
theorem Gs:bm Tryz.prog 23=some (1,.slice 0 [] .tight):=by kernel_rfl
theorem F3:bG Tryz.prog 25=some (true,3):=by kernel_rfl
theorem Gt:bm Tryz.prog 25=some (3,.agg [.v (.int .i64 (0)),.slice 0 [] .tight,.slice 0 [] .tight]):=by kernel_rfl
theorem vm:b8 Tryz.prog 25 0=some 0:=by kernel_rfl
theorem vn:b8 Tryz.prog 25 1=some 1:=by kernel_rfl
theorem vo:b8 Tryz.prog 25 2=some 2:=by kernel_rfl
theorem zC:bS Tryz.prog 25=some fun i=>(#[(0,1),(1,1),(2,1)]:Array (Nat×Nat))[i]?:=by kernel_rfl
theorem F4:bG Tryz.prog 26=some (false,1):=by kernel_rfl
theorem Ab:aU Tryz.prog 26=some (55,3,24):=by kernel_rfl
theorem Gu:bm Tryz.prog 26=some (1,.slice 0 [] .tight):=by kernel_rfl
theorem F5:bG Tryz.prog 27=some (false,1):=by kernel_rfl
theorem Gv:bm Tryz.prog 27=some (1,.v (.int .i64 (0))):=by kernel_rfl
theorem Lc:Tryz.prog.underlying 27=some (.int .i64):=by kernel_rfl
theorem F6:bG Tryz.prog 55=some (true,3):=by kernel_rfl
theorem Gw:bm Tryz.prog 55=some (3,.agg [.v (.int .i64 (0)),.v (.int .i64 (0)),.v (.int .i64 (0))]):=by kernel_rfl
theorem vp:b8 Tryz.prog 55 0=some 0:=by kernel_rfl
theorem vq:b8 Tryz.prog 55 1=some 1:=by kernel_rfl
theorem vr:b8 Tryz.prog 55 2=some 2:=by kernel_rfl
theorem zD:bS Tryz.prog 55=some fun i=>(#[(0,1),(1,1),(2,1)]:Array (Nat×Nat))[i]?:=by kernel_rfl
theorem F7:bG Tryz.prog 56=some (false,1):=by kernel_rfl
theorem Gx:bm Tryz.prog 56=some (1,.v .nilFunc):=by kernel_rfl
theorem F8:bG Tryz.prog 63=some (false,1):=by kernel_rfl
theorem Ac:aU Tryz.prog 63=some (5,1,1):=by kernel_rfl
theorem Gy:bm Tryz.prog 63=some (1,.slice 0 [] .tight):=by kernel_rfl
theorem Le:Tryz.prog.underlying 63=some (.slice 5):=by kernel_rfl
theorem F9:bG Tryz.prog 71=some (true,2):=by kernel_rfl
theorem z7:ey Tryz.prog 71=some (2,1):=by kernel_rfl
theorem zE:bS Tryz.prog 71=some fun i=>some (i * 1,1):=by kernel_rfl
theorem Gz:bm Tryz.prog 71=some (2,.agg [.v (.int .u8 (0)),.v (.int .u8 (0))]):=by kernel_rfl
theorem Lg:Tryz.prog.underlying 71=some (.array 2 5):=by kernel_rfl
theorem Ga:bG Tryz.prog 74=some (true,4):=by kernel_rfl
theorem GA:bm Tryz.prog 74=some (4,.agg [.v (.string ⟨#[]⟩),.v (.string ⟨#[]⟩),.v (.int .i64 (0)),.v (.int .i64 (0))]):=by kernel_rfl
theorem vt:b8 Tryz.prog 74 0=some 0:=by kernel_rfl
theorem vu:b8 Tryz.prog 74 1=some 1:=by kernel_rfl
theorem vv:b8 Tryz.prog 74 2=some 2:=by kernel_rfl
theorem vw:b8 Tryz.prog 74 3=some 3:=by kernel_rfl
theorem zF:bS Tryz.prog 74=some fun i=>(#[(0,1),(1,1),(2,1),(3,1)]:Array (Nat×Nat))[i]?:=by kernel_rfl
theorem Gb:bG Tryz.prog 77=some (false,1):=by kernel_rfl
theorem GB:bm Tryz.prog 77=some (1,.v .nilFunc):=by kernel_rfl
theorem Gc:bG Tryz.prog 79=some (false,1):=by kernel_rfl
theorem GC:bm Tryz.prog 79=some (1,.v .nilFunc):=by kernel_rfl
theorem Gd:bG Tryz.prog 80=some (false,1):=by kernel_rfl
theorem GD:bm Tryz.prog 80=some (1,.v .nilFunc):=by kernel_rfl
theorem Ge:bG Tryz.prog 82=some (false,1):=by kernel_rfl
theorem GE:bm Tryz.prog 82=some (1,.v .nilFunc):=by kernel_rfl
theorem Gf:bG Tryz.prog 83=some (false,1):=by kernel_rfl
theorem Ad:aU Tryz.prog 83=some (9,1,16):=by kernel_rfl
theorem GF:bm Tryz.prog 83=some (1,.slice 0 [] .tight):=by kernel_rfl
theorem Gg:bG Tryz.prog 85=some (false,1):=by kernel_rfl
theorem GG:bm Tryz.prog 85=some (1,.v (.pointer none)):=by kernel_rfl
theorem Gh:bG Tryz.prog 88=some (false,1):=by kernel_rfl
theorem GH:bm Tryz.prog 88=some (1,.v .nilFunc):=by kernel_rfl
theorem Gi:bG Tryz.prog 89=some (false,1):=by kernel_rfl
theorem GI:bm Tryz.prog 89=some (1,.v .nilFunc):=by kernel_rfl
theorem Gj:bG Tryz.prog 94=some (false,1):=by kernel_rfl
theorem GJ:bm Tryz.prog 94=some (1,.v .nilFunc):=by kernel_rfl
theorem Gk:bG Tryz.prog 96=some (false,1):=by kernel_rfl
theorem Ae:aU Tryz.prog 96=some (26,1,24):=by kernel_rfl
theorem GK:bm Tryz.prog 96=some (1,.slice 0 [] .tight):=by kernel_rfl
theorem Dl:bG Tryz.prog 105=some (true,2):=by kernel_rfl
theorem DL:bm Tryz.prog 105=some (2,.agg [.slice 0 [] .tight,.v (.int .i64 (0))]):=by kernel_rfl
theorem sD:b8 Tryz.prog 105 0=some 0:=by kernel_rfl
theorem sE:b8 Tryz.prog 105 1=some 1:=by kernel_rfl
theorem wB:bS Tryz.prog 105=some fun i=>(#[(0,1),(1,1)]:Array (Nat×Nat))[i]?:=by kernel_rfl
theorem Dm:bG Tryz.prog 107=some (false,1):=by kernel_rfl
theorem DM:bm Tryz.prog 107=some (1,.v (.map none)):=by kernel_rfl
theorem DD:Tryz.prog.underlying 107=some (.map 3 105):=by kernel_rfl
theorem Dn:bG Tryz.prog 110=some (false,1):=by kernel_rfl
theorem xe:aU Tryz.prog 110=some (23,1,24):=by kernel_rfl
theorem DN:bm Tryz.prog 110=some (1,.slice 0 [] .tight):=by kernel_rfl
theorem Do:bG Tryz.prog 115=some (false,1):=by kernel_rfl
theorem DO:bm Tryz.prog 115=some (1,.v .nilFunc):=by kernel_rfl
theorem Dp:bG Tryz.prog 123=some (true,5):=by kernel_rfl
theorem DP:bm Tryz.prog 123=some (5,.agg [.v (.int .i64 (0)),.slice 0 [] .tight,.slice 0 [] .tight,.v (.int .i64 (0)),.v (.int .i64 (0))]):=by kernel_rfl
theorem sF:b8 Tryz.prog 123 0=some 0:=by kernel_rfl
theorem sG:b8 Tryz.prog 123 1=some 3:=by kernel_rfl
theorem sH:b8 Tryz.prog 123 2=some 4:=by kernel_rfl
theorem wC:bS Tryz.prog 123=some fun i=>(#[(0,3),(3,1),(4,1)]:Array (Nat×Nat))[i]?:=by kernel_rfl
theorem Dq:bG Tryz.prog 124=some (true,18):=by kernel_rfl
theorem w8:ey Tryz.prog 124=some (6,3):=by kernel_rfl
theorem wD:bS Tryz.prog 124=some fun i=>some (i * 3,3):=by kernel_rfl
theorem DQ:bm Tryz.prog 124=some (18,.agg [.v (.int .i64 (0)),.v (.int .i64 (0)),.v (.int .i64 (0)),.v (.int .i64 (0)),.v (.int .i64 (0)),.v (.int .i64 (0)),.v (.int .i64 (0)),.v (.int .i64 (0)),.v (.int .i64 (0)),.v (.int .i64 (0)),.v (.int .i64 (0)),.v (.int .i64 (0)),.v (.int .i64 (0)),.v (.int .i64 (0)),.v (.int .i64 (0)),.v (.int .i64 (0)),.v (.int .i64 (0)),.v (.int .i64 (0))]):=by kernel_rfl
theorem JJ:Tryz.prog.underlying 124=some (.array 6 55):=by kernel_rfl
theorem Dr:bG Tryz.prog 131=some (false,1):=by kernel_rfl
theorem DR:bm Tryz.prog 131=some (1,.v .nilFunc):=by kernel_rfl
theorem Ds:bG Tryz.prog 133=some (true,2):=by kernel_rfl
theorem DS:bm Tryz.prog 133=some (2,.agg [.v .nilFunc,.v (.string ⟨#[]⟩)]):=by kernel_rfl
theorem sI:b8 Tryz.prog 133 0=some 0:=by kernel_rfl
theorem sJ:b8 Tryz.prog 133 1=some 1:=by kernel_rfl
theorem wE:bS Tryz.prog 133=some fun i=>(#[(0,1),(1,1)]:Array (Nat×Nat))[i]?:=by kernel_rfl
theorem Dt:bG Tryz.prog 134=some (true,6):=by kernel_rfl
theorem w9:ey Tryz.prog 134=some (3,2):=by kernel_rfl
theorem wF:bS Tryz.prog 134=some fun i=>some (i * 2,2):=by kernel_rfl
theorem DT:bm Tryz.prog 134=some (6,.agg [.v .nilFunc,.v (.string ⟨#[]⟩),.v .nilFunc,.v (.string ⟨#[]⟩),.v .nilFunc,.v (.string ⟨#[]⟩)]):=by kernel_rfl
theorem JK:Tryz.prog.underlying 134=some (.array 3 133):=by kernel_rfl
theorem Du:bG Tryz.prog 147=some (false,1):=by kernel_rfl
theorem DU:bm Tryz.prog 147=some (1,.v (.pointer none)):=by kernel_rfl
theorem Dv:bG Tryz.prog 149=some (true,2):=by kernel_rfl
theorem DV:bm Tryz.prog 149=some (2,.agg [.v (.pointer none),.slice 0 [] .tight]):=by kernel_rfl
theorem sK:b8 Tryz.prog 149 0=some 0:=by kernel_rfl
theorem sL:b8 Tryz.prog 149 1=some 1:=by kernel_rfl
theorem wG:bS Tryz.prog 149=some fun i=>(#[(0,1),(1,1)]:Array (Nat×Nat))[i]?:=by kernel_rfl
theorem Dw:bG Tryz.prog 168=some (false,1):=by kernel_rfl
theorem DW:bm Tryz.prog 168=some (1,.v (.pointer none)):=by kernel_rfl
theorem Dx:bG Tryz.prog 171=some (false,1):=by kernel_rfl
theorem DX:bm Tryz.prog 171=some (1,.v (.pointer none)):=by kernel_rfl
theorem Dy:bG Tryz.prog 176=some (false,1):=by kernel_rfl
theorem DY:bm Tryz.prog 176=some (1,.v (.int .u64 (0))):=by kernel_rfl
theorem JL:Tryz.prog.underlying 176=some (.int .u64):=by kernel_rfl
theorem Dz:bG Tryz.prog 184=some (false,1):=by kernel_rfl
theorem DZ:bm Tryz.prog 184=some (1,.v (.int .u32 (0))):=by kernel_rfl
theorem JM:Tryz.prog.underlying 184=some (.int .u32):=by kernel_rfl
theorem DA:bG Tryz.prog 186=some (false,1):=by kernel_rfl
theorem D0:bm Tryz.prog 186=some (1,.v (.int .u64 (0))):=by kernel_rfl
theorem JN:Tryz.prog.underlying 186=some (.int .u64):=by kernel_rfl
theorem DB:bG Tryz.prog 189=some (true,32):=by kernel_rfl
theorem xc:ey Tryz.prog 189=some (32,1):=by kernel_rfl
theorem wH:bS Tryz.prog 189=some fun i=>some (i * 1,1):=by kernel_rfl
theorem D1:bm Tryz.prog 189=some (32,.agg [.v (.int .u8 (0)),.v (.int .u8 (0)),.v (.int .u8 (0)),.v (.int .u8 (0)),.v (.int .u8 (0)),.v (.int .u8 (0)),.v (.int .u8 (0)),.v (.int .u8 (0)),.v (.int .u8 (0)),.v (.int .u8 (0)),.v (.int .u8 (0)),.v (.int .u8 (0)),.v (.int .u8 (0)),.v (.int .u8 (0)),.v (.int .u8 (0)),.v (.int .u8 (0)),.v (.int .u8 (0)),.v (.int .u8 (0)),.v (.int .u8 (0)),.v (.int .u8 (0)),.v (.int .u8 (0)),.v (.int .u8 (0)),.v (.int .u8 (0)),.v (.int .u8 (0)),.v (.int .u8 (0)),.v (.int .u8 (0)),.v (.int .u8 (0)),.v (.int .u8 (0)),.v (.int .u8 (0)),.v (.int .u8 (0)),.v (.int .u8 (0)),.v (.int .u8 (0))]):=by kernel_rfl
theorem JO:Tryz.prog.underlying 189=some (.array 32 5):=by kernel_rfl
theorem DC:bG Tryz.prog 190=some (true,64):=by kernel_rfl
theorem xd:ey Tryz.prog 190=some (64,1):=by kernel_rfl
theorem wI:bS Tryz.prog 190=some fun i=>some (i * 1,1):=by kernel_rfl
theorem D2:bm Tryz.prog 190=some (64,.agg [.v (.int .u8 (0)),.v (.int .u8 (0)),.v (.int .u8 (0)),.v (.int .u8 (0)),.v (.int .u8 (0)),.v (.int .u8 (0)),.v (.int .u8 (0)),.v (.int .u8 (0)),.v (.int .u8 (0)),.v (.int .u8 (0)),.v (.int .u8 (0)),.v (.int .u8 (0)),.v (.int .u8 (0)),.v (.int .u8 (0)),.v (.int .u8 (0)),.v (.int .u8 (0)),.v (.int .u8 (0)),.v (.int .u8 (0)),.v (.int .u8 (0)),.v (.int .u8 (0)),.v (.int .u8 (0)),.v (.int .u8 (0)),.v (.int .u8 (0)),.v (.int .u8 (0)),.v (.int .u8 (0)),.v (.int .u8 (0)),.v (.int .u8 (0)),.v (.int .u8 (0)),.v (.int .u8 (0)),.v (.int .u8 (0)),.v (.int .u8 (0)),.v (.int .u8 (0)),.v (.int .u8 (0)),.v (.int .u8 (0)),.v (.int .u8 (0)),.v (.int .u8 (0)),.v (.int .u8 (0)),.v (.int .u8 (0)),.v (.int .u8 (0)),.v (.int .u8 (0)),.v (.int .u8 (0)),.v (.int .u8 (0)),.v (.int .u8 (0)),.v (.int .u8 (0)),.v (.int .u8 (0)),.v (.int .u8 (0)),.v (.int .u8 (0)),.v (.int .u8 (0)),.v (.int .u8 (0)),.v (.int .u8 (0)),.v (.int .u8 (0)),.v (.int .u8 (0)),.v (.int .u8 (0)),.v (.int .u8 (0)),.v (.int .u8 (0)),.v (.int .u8 (0)),.v (.int .u8 (0)),.v (.int .u8 (0)),.v (.int .u8 (0)),.v (.int .u8 (0)),.v (.int .u8 (0)),.v (.int .u8 (0)),.v (.int .u8 (0)),.v (.int .u8 (0))]):=by kernel_rfl
theorem JP:Tryz.prog.underlying 190=some (.array 64 5):=by kernel_rfl
theorem Kb:ak Tryz.prog 5:=cO Tryz.func5
theorem Kc:ak Tryz.prog 6:=cO Tryz.func6
theorem jg:ak Tryz.prog 10:=cO Tryz.func10
theorem AS:ak Tryz.prog 15:=cO Tryz.func15
theorem uR:ak Tryz.prog 16:=cO Tryz.func16
theorem uS:ak Tryz.prog 17:=cO Tryz.func17
theorem AT:ak Tryz.prog 19:=cO Tryz.func19
theorem Ho:ak Tryz.prog 21:=cO Tryz.func21
theorem AU:ak Tryz.prog 22:=cO Tryz.func22
theorem Hp:ak Tryz.prog 24:=cO Tryz.func24
theorem lg:ak Tryz.prog 25:=cO Tryz.func25
theorem qR:ak Tryz.prog 26:=cO Tryz.func26
theorem uT:ak Tryz.prog 27:=cO Tryz.func27
theorem AW:ak Tryz.prog 28:=cO Tryz.func28
theorem Hq:ak Tryz.prog 29:=cO Tryz.func29
theorem AX:ak Tryz.prog 30:=cO Tryz.func30
theorem AY:ak Tryz.prog 31:=cO Tryz.func31
theorem AZ:ak Tryz.prog 32:=cO Tryz.func32
theorem A0:ak Tryz.prog 33:=cO Tryz.func33
theorem uU:ak Tryz.prog 34:=cO Tryz.func34
theorem uV:ak Tryz.prog 35:=cO Tryz.func35
theorem uW:ak Tryz.prog 36:=cO Tryz.func36
theorem Hr:ak Tryz.prog 38:=cO Tryz.func38
theorem Hs:ak Tryz.prog 39:=cO Tryz.func39
theorem Ht:ak Tryz.prog 40:=cO Tryz.func40
theorem Hu:ak Tryz.prog 41:=cO Tryz.func41
theorem Hv:ak Tryz.prog 42:=cO Tryz.func42
theorem Hw:ak Tryz.prog 45:=cO Tryz.func45
theorem Hx:ak Tryz.prog 46:=cO Tryz.func46
theorem Hy:ak Tryz.prog 47:=cO Tryz.func47
theorem Hz:ak Tryz.prog 49:=cO Tryz.func49
theorem HA:ak Tryz.prog 50:=cO Tryz.func50
theorem HB:ak Tryz.prog 51:=cO Tryz.func51
theorem HC:ak Tryz.prog 52:=cO Tryz.func52
theorem uX:ak Tryz.prog 53:=cO Tryz.func53
theorem HE:ak Tryz.prog 54:=cO Tryz.func54
theorem HF:ak Tryz.prog 55:=cO Tryz.func55
theorem HG:ak Tryz.prog 56:=cO Tryz.func56
theorem HH:ak Tryz.prog 57:=cO Tryz.func57
theorem HI:ak Tryz.prog 58:=cO Tryz.func58
theorem HJ:ak Tryz.prog 59:=cO Tryz.func59
theorem HL:ak Tryz.prog 60:=cO Tryz.func60
theorem HN:ak Tryz.prog 61:=cO Tryz.func61
theorem HO:ak Tryz.prog 62:=cO Tryz.func62
theorem A1:ak Tryz.prog 63:=cO Tryz.func63
theorem HP:ak Tryz.prog 64:=cO Tryz.func64
theorem HQ:ak Tryz.prog 65:=cO Tryz.func65
theorem A2:ak Tryz.prog 66:=cO Tryz.func66
theorem HS:ak Tryz.prog 67:=cO Tryz.func67
theorem HT:ak Tryz.prog 68:=cO Tryz.func68
theorem HV:ak Tryz.prog 69:=cO Tryz.func69
theorem HW:ak Tryz.prog 70:=cO Tryz.func70
theorem uY:ak Tryz.prog 71:=cO Tryz.func71
theorem HX:ak Tryz.prog 72:=cO Tryz.func72
theorem A3:ak Tryz.prog 73:=cO Tryz.func73
theorem uZ:ak Tryz.prog 74:=cO Tryz.func74
theorem HY:ak Tryz.prog 75:=cO Tryz.func75
theorem lh:ak Tryz.prog 76:=cO Tryz.func76
theorem H0:ak Tryz.prog 77:=cO Tryz.func77
theorem A4:ak Tryz.prog 78:=cO Tryz.func78
theorem A5:ak Tryz.prog 79:=cO Tryz.func79
theorem H1:ak Tryz.prog 80:=cO Tryz.func80
theorem H2:ak Tryz.prog 81:=cO Tryz.func81
theorem H3:ak Tryz.prog 82:=cO Tryz.func82
theorem H4:ak Tryz.prog 83:=cO Tryz.func83
theorem jh:ak Tryz.prog 84:=cO Tryz.func84
theorem H5:ak Tryz.prog 85:=cO Tryz.func85
theorem H6:ak Tryz.prog 86:=cO Tryz.func86
theorem A6:ak Tryz.prog 87:=cO Tryz.func87
theorem H7:ak Tryz.prog 88:=cO Tryz.func88
theorem A7:ak Tryz.prog 89:=cO Tryz.func89
theorem H8:ak Tryz.prog 90:=cO Tryz.func90
theorem H9:ak Tryz.prog 91:=cO Tryz.func91
theorem Ia:ak Tryz.prog 92:=cO Tryz.func92
theorem Ib:ak Tryz.prog 93:=cO Tryz.func93
theorem Ic:ak Tryz.prog 94:=cO Tryz.func94
theorem Id:ak Tryz.prog 95:=cO Tryz.func95
theorem A8:ak Tryz.prog 96:=cO Tryz.func96
theorem f4:ak Tryz.prog 97:=cO Tryz.func97
theorem Ie:ak Tryz.prog 98:=cO Tryz.func98
theorem If:ak Tryz.prog 99:=cO Tryz.func99
theorem ff:ak Tryz.prog 100:=cO Tryz.func100
theorem jQ:ak Tryz.prog 101:=cO Tryz.func101
theorem m4:ak Tryz.prog 102:=cO Tryz.func102
theorem Ew:ak Tryz.prog 103:=cO Tryz.func103
theorem Ey:ak Tryz.prog 104:=cO Tryz.func104
theorem xp:ak Tryz.prog 105:=cO Tryz.func105
theorem xq:ak Tryz.prog 106:=cO Tryz.func106
theorem Ez:ak Tryz.prog 107:=cO Tryz.func107
theorem xr:ak Tryz.prog 108:=cO Tryz.func108
theorem xt:ak Tryz.prog 109:=cO Tryz.func109
theorem EA:ak Tryz.prog 110:=cO Tryz.func110
theorem EB:ak Tryz.prog 111:=cO Tryz.func111
theorem EC:ak Tryz.prog 112:=cO Tryz.func112
theorem xu:ak Tryz.prog 113:=cO Tryz.func113
theorem d9:ak Tryz.prog 114:=cO Tryz.func114
theorem qP:ak Tryz.prog 115:=cO Tryz.func115
theorem ED:ak Tryz.prog 116:=cO Tryz.func116
theorem EE:ak Tryz.prog 117:=cO Tryz.func117
theorem EF:ak Tryz.prog 118:=cO Tryz.func118
theorem EG:ak Tryz.prog 119:=cO Tryz.func119
theorem EH:ak Tryz.prog 121:=cO Tryz.func121
theorem EI:ak Tryz.prog 122:=cO Tryz.func122
theorem EJ:ak Tryz.prog 123:=cO Tryz.func123
theorem xv:ak Tryz.prog 124:=cO Tryz.func124
theorem m5:ak Tryz.prog 125:=cO Tryz.func125
theorem xw:ak Tryz.prog 126:=cO Tryz.func126
theorem qQ:ak Tryz.prog 127:=cO Tryz.func127
theorem xx:ak Tryz.prog 128:=cO Tryz.func128
theorem EK:ak Tryz.prog 129:=cO Tryz.func129
theorem EL:ak Tryz.prog 130:=cO Tryz.func130
theorem EM:ak Tryz.prog 131:=cO Tryz.func131
theorem xy:ak Tryz.prog 132:=cO Tryz.func132
theorem EN:ak Tryz.prog 133:=cO Tryz.func133
theorem EO:ak Tryz.prog 135:=cO Tryz.func135
theorem EP:ak Tryz.prog 137:=cO Tryz.func137
theorem EQ:ak Tryz.prog 142:=cO Tryz.func142
theorem Im:(∃n,n≤10000∧mn Tryz.prog n 55=some [.int .i64,.int .i64,.int .i64])∧bE Tryz.prog 55=true∧Tryz.prog.eqGuardType Tryz.prog.depth 55=false:=⟨⟨12,by decide,by kernel_rfl⟩,by kernel_rfl,by kernel_rfl⟩
theorem Io:(∃n,n≤10000∧mn Tryz.prog n 71=some [.int .u8,.int .u8])∧bE Tryz.prog 71=true∧Tryz.prog.eqGuardType Tryz.prog.depth 71=false:=⟨⟨12,by decide,by kernel_rfl⟩,by kernel_rfl,by kernel_rfl⟩
theorem Ip:(∃n,n≤10000∧mn Tryz.prog n 74=some [.str,.str,.int .i64,.int .i64])∧bE Tryz.prog 74=true∧Tryz.prog.eqGuardType Tryz.prog.depth 74=false:=⟨⟨12,by decide,by kernel_rfl⟩,by kernel_rfl,by kernel_rfl⟩
theorem B2:MapTy Tryz.prog 107 (.one (.int .i64),.agg [.slice 0 [] .tight,.v (.int .i64 (0))]):=B3 (n:=12) (z:= .agg #[.slice none 0 0,.int .i64 (0)]) DD (cs:=[.int .i64]) (by kernel_rfl) (by decide) (by kernel_rfl) _ (by kernel_rfl) (by kernel_rfl)
theorem ES:(∃n,n≤10000∧mn Tryz.prog n 124=some [.int .i64,.int .i64,.int .i64,.int .i64,.int .i64,.int .i64,.int .i64,.int .i64,.int .i64,.int .i64,.int .i64,.int .i64,.int .i64,.int .i64,.int .i64,.int .i64,.int .i64,.int .i64])∧bE Tryz.prog 124=true∧Tryz.prog.eqGuardType Tryz.prog.depth 124=false:=⟨⟨12,by decide,by kernel_rfl⟩,by kernel_rfl,by kernel_rfl⟩
theorem ET:(∃n,n≤10000∧mn Tryz.prog n 189=some [.int .u8,.int .u8,.int .u8,.int .u8,.int .u8,.int .u8,.int .u8,.int .u8,.int .u8,.int .u8,.int .u8,.int .u8,.int .u8,.int .u8,.int .u8,.int .u8,.int .u8,.int .u8,.int .u8,.int .u8,.int .u8,.int .u8,.int .u8,.int .u8,.int .u8,.int .u8,.int .u8,.int .u8,.int .u8,.int .u8,.int .u8,.int .u8])∧bE Tryz.prog 189=true∧Tryz.prog.eqGuardType Tryz.prog.depth 189=false:=⟨⟨12,by decide,by kernel_rfl⟩,by kernel_rfl,by kernel_rfl⟩
theorem EU:(∃n,n≤10000∧mn Tryz.prog n 190=some [.int .u8,.int .u8,.int .u8,.int .u8,.int .u8,.int .u8,.int .u8,.int .u8,.int .u8,.int .u8,.int .u8,.int .u8,.int .u8,.int .u8,.int .u8,.int .u8,.int .u8,.int .u8,.int .u8,.int .u8,.int .u8,.int .u8,.int .u8,.int .u8,.int .u8,.int .u8,.int .u8,.int .u8,.int .u8,.int .u8,.int .u8,.int .u8,.int .u8,.int .u8,.int .u8,.int .u8,.int .u8,.int .u8,.int .u8,.int .u8,.int .u8,.int .u8,.int .u8,.int .u8,.int .u8,.int .u8,.int .u8,.int .u8,.int .u8,.int .u8,.int .u8,.int .u8,.int .u8,.int .u8,.int .u8,.int .u8,.int .u8,.int .u8,.int .u8,.int .u8,.int .u8,.int .u8,.int .u8,.int .u8])∧bE Tryz.prog 190=true∧Tryz.prog.eqGuardType Tryz.prog.depth 190=false:=⟨⟨12,by decide,by kernel_rfl⟩,by kernel_rfl,by kernel_rfl⟩
theorem vx:∀f o,nth [some 0,some 1,some 2] f=some (some o)→b8 Tryz.prog 25 f=some o:=by intro f o h;rw[dr]at h;match f,h with
 | 0,h=>simp at h;subst h;exact vm
 | 1,h=>simp at h;subst h;exact vn
 | 2,h=>simp at h;subst h;exact vo
 | n+3,h=>simp at h
theorem zG:bS Tryz.prog 25=some fun i=>([(0,1),(1,1),(2,1)]:List (Nat×Nat))[i]?:=by rw[zC];congr 1;funext i;simp
theorem vz:∀f o,nth [some 0,some 1,some 2] f=some (some o)→b8 Tryz.prog 55 f=some o:=by intro f o h;rw[dr]at h;match f,h with
 | 0,h=>simp at h;subst h;exact vp
 | 1,h=>simp at h;subst h;exact vq
 | 2,h=>simp at h;subst h;exact vr
 | n+3,h=>simp at h
theorem zH:bS Tryz.prog 55=some fun i=>([(0,1),(1,1),(2,1)]:List (Nat×Nat))[i]?:=by rw[zD];congr 1;funext i;simp
theorem vA:∀f o,nth [some 0,some 1,some 2,some 3] f=some (some o)→b8 Tryz.prog 74 f=some o:=by intro f o h;rw[dr]at h;match f,h with
 | 0,h=>simp at h;subst h;exact vt
 | 1,h=>simp at h;subst h;exact vu
 | 2,h=>simp at h;subst h;exact vv
 | 3,h=>simp at h;subst h;exact vw
 | n+4,h=>simp at h
theorem zI:bS Tryz.prog 74=some fun i=>([(0,1),(1,1),(2,1),(3,1)]:List (Nat×Nat))[i]?:=by rw[zF];congr 1;funext i;simp
theorem sM:∀f o,nth [some 0,some 1] f=some (some o)→b8 Tryz.prog 105 f=some o:=by intro f o h;rw[dr]at h;match f,h with
 | 0,h=>simp at h;subst h;exact sD
 | 1,h=>simp at h;subst h;exact sE
 | n+2,h=>simp at h
theorem wJ:bS Tryz.prog 105=some fun i=>([(0,1),(1,1)]:List (Nat×Nat))[i]?:=by rw[wB];congr 1;funext i;simp
theorem sN:∀f o,nth [some 0,some 3,some 4] f=some (some o)→b8 Tryz.prog 123 f=some o:=by intro f o h;rw[dr]at h;match f,h with
 | 0,h=>simp at h;subst h;exact sF
 | 1,h=>simp at h;subst h;exact sG
 | 2,h=>simp at h;subst h;exact sH
 | n+3,h=>simp at h
theorem wK:bS Tryz.prog 123=some fun i=>([(0,3),(3,1),(4,1)]:List (Nat×Nat))[i]?:=by rw[wC];congr 1;funext i;simp
theorem sO:∀f o,nth [some 0,some 1] f=some (some o)→b8 Tryz.prog 133 f=some o:=by intro f o h;rw[dr]at h;match f,h with
 | 0,h=>simp at h;subst h;exact sI
 | 1,h=>simp at h;subst h;exact sJ
 | n+2,h=>simp at h
theorem wL:bS Tryz.prog 133=some fun i=>([(0,1),(1,1)]:List (Nat×Nat))[i]?:=by rw[wE];congr 1;funext i;simp
theorem sP:∀f o,nth [some 0,some 1] f=some (some o)→b8 Tryz.prog 149 f=some o:=by intro f o h;rw[dr]at h;match f,h with
 | 0,h=>simp at h;subst h;exact sK
 | 1,h=>simp at h;subst h;exact sL
 | n+2,h=>simp at h
theorem wM:bS Tryz.prog 149=some fun i=>([(0,1),(1,1)]:List (Nat×Nat))[i]?:=by rw[wG];congr 1;funext i;simp
theorem zm:dH Tryz.prog 25 0=some (false,0,1):=by kernel_rfl
theorem zn:dH Tryz.prog 25 1=some (false,1,1):=by kernel_rfl
theorem zo:dH Tryz.prog 25 2=some (false,2,1):=by kernel_rfl
theorem zx:∀f q,nth ([some (false,0,1),some (false,1,1),some (false,2,1)]:List (Option (Bool×Nat×Nat))) f=some (some q)→dH Tryz.prog 25 f=some q:=by intro f o h;rw[dr]at h;match f,h with
 | 0,h=>simp at h;subst h;exact zm
 | 1,h=>simp at h;subst h;exact zn
 | 2,h=>simp at h;subst h;exact zo
 | n+3,h=>simp at h
theorem zp:dH Tryz.prog 55 0=some (false,0,1):=by kernel_rfl
theorem zq:dH Tryz.prog 55 1=some (false,1,1):=by kernel_rfl
theorem zr:dH Tryz.prog 55 2=some (false,2,1):=by kernel_rfl
theorem zy:∀f q,nth ([some (false,0,1),some (false,1,1),some (false,2,1)]:List (Option (Bool×Nat×Nat))) f=some (some q)→dH Tryz.prog 55 f=some q:=by intro f o h;rw[dr]at h;match f,h with
 | 0,h=>simp at h;subst h;exact zp
 | 1,h=>simp at h;subst h;exact zq
 | 2,h=>simp at h;subst h;exact zr
 | n+3,h=>simp at h
theorem Fp:tI Tryz.prog 71=some (false,2,1)∧∃len e,Tryz.prog.underlying 71=some (.array len e):=⟨by kernel_rfl,_,_,Lg⟩
theorem zt:dH Tryz.prog 74 0=some (false,0,1):=by kernel_rfl
theorem zu:dH Tryz.prog 74 1=some (false,1,1):=by kernel_rfl
theorem zv:dH Tryz.prog 74 2=some (false,2,1):=by kernel_rfl
theorem zw:dH Tryz.prog 74 3=some (false,3,1):=by kernel_rfl
theorem zA:∀f q,nth ([some (false,0,1),some (false,1,1),some (false,2,1),some (false,3,1)]:List (Option (Bool×Nat×Nat))) f=some (some q)→dH Tryz.prog 74 f=some q:=by intro f o h;rw[dr]at h;match f,h with
 | 0,h=>simp at h;subst h;exact zt
 | 1,h=>simp at h;subst h;exact zu
 | 2,h=>simp at h;subst h;exact zv
 | 3,h=>simp at h;subst h;exact zw
 | n+4,h=>simp at h
theorem v7:dH Tryz.prog 105 0=some (false,0,1):=by kernel_rfl
theorem v8:dH Tryz.prog 105 1=some (false,1,1):=by kernel_rfl
theorem wu:∀f q,nth ([some (false,0,1),some (false,1,1)]:List (Option (Bool×Nat×Nat))) f=some (some q)→dH Tryz.prog 105 f=some q:=by intro f o h;rw[dr]at h;match f,h with
 | 0,h=>simp at h;subst h;exact v7
 | 1,h=>simp at h;subst h;exact v8
 | n+2,h=>simp at h
theorem wd:dH Tryz.prog 123 0=some (true,0,3):=by kernel_rfl
theorem wg:dH Tryz.prog 123 1=some (false,3,1):=by kernel_rfl
theorem wh:dH Tryz.prog 123 2=some (false,4,1):=by kernel_rfl
theorem wv:∀f q,nth ([some (true,0,3),some (false,3,1),some (false,4,1)]:List (Option (Bool×Nat×Nat))) f=some (some q)→dH Tryz.prog 123 f=some q:=by intro f o h;rw[dr]at h;match f,h with
 | 0,h=>simp at h;subst h;exact wd
 | 1,h=>simp at h;subst h;exact wg
 | 2,h=>simp at h;subst h;exact wh
 | n+3,h=>simp at h
theorem Cu:tI Tryz.prog 124=some (true,6,3)∧∃len e,Tryz.prog.underlying 124=some (.array len e):=⟨by kernel_rfl,_,_,JJ⟩
theorem wi:dH Tryz.prog 133 0=some (false,0,1):=by kernel_rfl
theorem wm:dH Tryz.prog 133 1=some (false,1,1):=by kernel_rfl
theorem ww:∀f q,nth ([some (false,0,1),some (false,1,1)]:List (Option (Bool×Nat×Nat))) f=some (some q)→dH Tryz.prog 133 f=some q:=by intro f o h;rw[dr]at h;match f,h with
 | 0,h=>simp at h;subst h;exact wi
 | 1,h=>simp at h;subst h;exact wm
 | n+2,h=>simp at h
theorem Cv:tI Tryz.prog 134=some (true,3,2)∧∃len e,Tryz.prog.underlying 134=some (.array len e):=⟨by kernel_rfl,_,_,JK⟩
theorem wo:dH Tryz.prog 149 0=some (false,0,1):=by kernel_rfl
theorem wt:dH Tryz.prog 149 1=some (false,1,1):=by kernel_rfl
theorem wx:∀f q,nth ([some (false,0,1),some (false,1,1)]:List (Option (Bool×Nat×Nat))) f=some (some q)→dH Tryz.prog 149 f=some q:=by intro f o h;rw[dr]at h;match f,h with
 | 0,h=>simp at h;subst h;exact wo
 | 1,h=>simp at h;subst h;exact wt
 | n+2,h=>simp at h
theorem Cw:tI Tryz.prog 189=some (false,32,1)∧∃len e,Tryz.prog.underlying 189=some (.array len e):=⟨by kernel_rfl,_,_,JO⟩
theorem Cy:tI Tryz.prog 190=some (false,64,1)∧∃len e,Tryz.prog.underlying 190=some (.array len e):=⟨by kernel_rfl,_,_,JP⟩
def tab:Tab where
 var:= .nd 88 (false,1) (.nd 55 (true,3) (.nd 22 (false,1) (.nd 5 (false,1) (.nd 4 (false,1) (.nd 3 (false,1) (.lf) (.lf)) (.lf)) (.nd 21 (false,1) (.nd 9 (false,1) (.lf) (.lf)) (.lf))) (.nd 26 (false,1) (.nd 25 (true,3) (.nd 23 (false,1) (.lf) (.lf)) (.lf)) (.nd 27 (false,1) (.lf) (.lf)))) (.nd 79 (false,1) (.nd 71 (true,2) (.nd 63 (false,1) (.nd 56 (false,1) (.lf) (.lf)) (.lf)) (.nd 77 (false,1) (.nd 74 (true,4) (.lf) (.lf)) (.lf))) (.nd 83 (false,1) (.nd 82 (false,1) (.nd 80 (false,1) (.lf) (.lf)) (.lf)) (.nd 85 (false,1) (.lf) (.lf))))) (.nd 133 (true,2) (.nd 110 (false,1) (.nd 96 (false,1) (.nd 94 (false,1) (.nd 89 (false,1) (.lf) (.lf)) (.lf)) (.nd 107 (false,1) (.nd 105 (true,2) (.lf) (.lf)) (.lf))) (.nd 124 (true,18) (.nd 123 (true,5) (.nd 115 (false,1) (.lf) (.lf)) (.lf)) (.nd 131 (false,1) (.lf) (.lf)))) (.nd 176 (false,1) (.nd 149 (true,2) (.nd 147 (false,1) (.nd 134 (true,6) (.lf) (.lf)) (.lf)) (.nd 171 (false,1) (.nd 168 (false,1) (.lf) (.lf)) (.lf))) (.nd 189 (true,32) (.nd 186 (false,1) (.nd 184 (false,1) (.lf) (.lf)) (.lf)) (.nd 190 (true,64) (.lf) (.lf)))))
 slice:= .nd 63 (5,1,1) (.nd 23 (3,1,8) (.nd 22 (74,4,48) (.lf) (.lf)) (.nd 26 (55,3,24) (.lf) (.lf))) (.nd 96 (26,1,24) (.nd 83 (9,1,16) (.lf) (.lf)) (.nd 110 (23,1,24) (.lf) (.lf)))
 array:= .nd 134 (3,2) (.nd 124 (6,3) (.nd 71 (2,1) (.lf) (.lf)) (.lf)) (.nd 190 (64,1) (.nd 189 (32,1) (.lf) (.lf)) (.lf))
 zero:= .nd 88 (1,.v .nilFunc) (.nd 55 (3,.agg [.v (.int .i64 (0)),.v (.int .i64 (0)),.v (.int .i64 (0))]) (.nd 22 (1,.slice 0 [] .tight) (.nd 5 (1,.v (.int .u8 (0))) (.nd 4 (1,.v (.bool false)) (.nd 3 (1,.v (.int .i64 (0))) (.lf) (.lf)) (.lf)) (.nd 21 (1,.v (.int .i32 (0))) (.nd 9 (1,.v (.string ⟨#[]⟩)) (.lf) (.lf)) (.lf))) (.nd 26 (1,.slice 0 [] .tight) (.nd 25 (3,.agg [.v (.int .i64 (0)),.slice 0 [] .tight,.slice 0 [] .tight]) (.nd 23 (1,.slice 0 [] .tight) (.lf) (.lf)) (.lf)) (.nd 27 (1,.v (.int .i64 (0))) (.lf) (.lf)))) (.nd 79 (1,.v .nilFunc) (.nd 71 (2,.agg [.v (.int .u8 (0)),.v (.int .u8 (0))]) (.nd 63 (1,.slice 0 [] .tight) (.nd 56 (1,.v .nilFunc) (.lf) (.lf)) (.lf)) (.nd 77 (1,.v .nilFunc) (.nd 74 (4,.agg [.v (.string ⟨#[]⟩),.v (.string ⟨#[]⟩),.v (.int .i64 (0)),.v (.int .i64 (0))]) (.lf) (.lf)) (.lf))) (.nd 83 (1,.slice 0 [] .tight) (.nd 82 (1,.v .nilFunc) (.nd 80 (1,.v .nilFunc) (.lf) (.lf)) (.lf)) (.nd 85 (1,.v (.pointer none)) (.lf) (.lf))))) (.nd 133 (2,.agg [.v .nilFunc,.v (.string ⟨#[]⟩)]) (.nd 110 (1,.slice 0 [] .tight) (.nd 96 (1,.slice 0 [] .tight) (.nd 94 (1,.v .nilFunc) (.nd 89 (1,.v .nilFunc) (.lf) (.lf)) (.lf)) (.nd 107 (1,.v (.map none)) (.nd 105 (2,.agg [.slice 0 [] .tight,.v (.int .i64 (0))]) (.lf) (.lf)) (.lf))) (.nd 124 (18,.agg [.v (.int .i64 (0)),.v (.int .i64 (0)),.v (.int .i64 (0)),.v (.int .i64 (0)),.v (.int .i64 (0)),.v (.int .i64 (0)),.v (.int .i64 (0)),.v (.int .i64 (0)),.v (.int .i64 (0)),.v (.int .i64 (0)),.v (.int .i64 (0)),.v (.int .i64 (0)),.v (.int .i64 (0)),.v (.int .i64 (0)),.v (.int .i64 (0)),.v (.int .i64 (0)),.v (.int .i64 (0)),.v (.int .i64 (0))]) (.nd 123 (5,.agg [.v (.int .i64 (0)),.slice 0 [] .tight,.slice 0 [] .tight,.v (.int .i64 (0)),.v (.int .i64 (0))]) (.nd 115 (1,.v .nilFunc) (.lf) (.lf)) (.lf)) (.nd 131 (1,.v .nilFunc) (.lf) (.lf)))) (.nd 176 (1,.v (.int .u64 (0))) (.nd 149 (2,.agg [.v (.pointer none),.slice 0 [] .tight]) (.nd 147 (1,.v (.pointer none)) (.nd 134 (6,.agg [.v .nilFunc,.v (.string ⟨#[]⟩),.v .nilFunc,.v (.string ⟨#[]⟩),.v .nilFunc,.v (.string ⟨#[]⟩)]) (.lf) (.lf)) (.lf)) (.nd 171 (1,.v (.pointer none)) (.nd 168 (1,.v (.pointer none)) (.lf) (.lf)) (.lf))) (.nd 189 (32,.agg [.v (.int .u8 (0)),.v (.int .u8 (0)),.v (.int .u8 (0)),.v (.int .u8 (0)),.v (.int .u8 (0)),.v (.int .u8 (0)),.v (.int .u8 (0)),.v (.int .u8 (0)),.v (.int .u8 (0)),.v (.int .u8 (0)),.v (.int .u8 (0)),.v (.int .u8 (0)),.v (.int .u8 (0)),.v (.int .u8 (0)),.v (.int .u8 (0)),.v (.int .u8 (0)),.v (.int .u8 (0)),.v (.int .u8 (0)),.v (.int .u8 (0)),.v (.int .u8 (0)),.v (.int .u8 (0)),.v (.int .u8 (0)),.v (.int .u8 (0)),.v (.int .u8 (0)),.v (.int .u8 (0)),.v (.int .u8 (0)),.v (.int .u8 (0)),.v (.int .u8 (0)),.v (.int .u8 (0)),.v (.int .u8 (0)),.v (.int .u8 (0)),.v (.int .u8 (0))]) (.nd 186 (1,.v (.int .u64 (0))) (.nd 184 (1,.v (.int .u32 (0))) (.lf) (.lf)) (.lf)) (.nd 190 (64,.agg [.v (.int .u8 (0)),.v (.int .u8 (0)),.v (.int .u8 (0)),.v (.int .u8 (0)),.v (.int .u8 (0)),.v (.int .u8 (0)),.v (.int .u8 (0)),.v (.int .u8 (0)),.v (.int .u8 (0)),.v (.int .u8 (0)),.v (.int .u8 (0)),.v (.int .u8 (0)),.v (.int .u8 (0)),.v (.int .u8 (0)),.v (.int .u8 (0)),.v (.int .u8 (0)),.v (.int .u8 (0)),.v (.int .u8 (0)),.v (.int .u8 (0)),.v (.int .u8 (0)),.v (.int .u8 (0)),.v (.int .u8 (0)),.v (.int .u8 (0)),.v (.int .u8 (0)),.v (.int .u8 (0)),.v (.int .u8 (0)),.v (.int .u8 (0)),.v (.int .u8 (0)),.v (.int .u8 (0)),.v (.int .u8 (0)),.v (.int .u8 (0)),.v (.int .u8 (0)),.v (.int .u8 (0)),.v (.int .u8 (0)),.v (.int .u8 (0)),.v (.int .u8 (0)),.v (.int .u8 (0)),.v (.int .u8 (0)),.v (.int .u8 (0)),.v (.int .u8 (0)),.v (.int .u8 (0)),.v (.int .u8 (0)),.v (.int .u8 (0)),.v (.int .u8 (0)),.v (.int .u8 (0)),.v (.int .u8 (0)),.v (.int .u8 (0)),.v (.int .u8 (0)),.v (.int .u8 (0)),.v (.int .u8 (0)),.v (.int .u8 (0)),.v (.int .u8 (0)),.v (.int .u8 (0)),.v (.int .u8 (0)),.v (.int .u8 (0)),.v (.int .u8 (0)),.v (.int .u8 (0)),.v (.int .u8 (0)),.v (.int .u8 (0)),.v (.int .u8 (0)),.v (.int .u8 (0)),.v (.int .u8 (0)),.v (.int .u8 (0)),.v (.int .u8 (0))]) (.lf) (.lf)))))
 field:= .nd 105 [some 0,some 1] (.nd 55 [some 0,some 1,some 2] (.nd 25 [some 0,some 1,some 2] (.lf) (.lf)) (.nd 74 [some 0,some 1,some 2,some 3] (.lf) (.lf))) (.nd 133 [some 0,some 1] (.nd 123 [some 0,some 3,some 4] (.lf) (.lf)) (.nd 149 [some 0,some 1] (.lf) (.lf)))
 places:= .nd 105 [(0,1),(1,1)] (.nd 55 [(0,1),(1,1),(2,1)] (.nd 25 [(0,1),(1,1),(2,1)] (.lf) (.lf)) (.nd 74 [(0,1),(1,1),(2,1),(3,1)] (.lf) (.lf))) (.nd 133 [(0,1),(1,1)] (.nd 123 [(0,3),(3,1),(4,1)] (.lf) (.lf)) (.nd 149 [(0,1),(1,1)] (.lf) (.lf)))
 placesN:= .nd 134 2 (.nd 124 3 (.nd 71 1 (.lf) (.lf)) (.lf)) (.nd 190 1 (.nd 189 1 (.lf) (.lf)) (.lf))
 map:= .nd 107 (.one (.int .i64),.agg [.slice 0 [] .tight,.v (.int .i64 (0))]) (.lf) (.lf)
 eq:= .nd 124 [.int .i64,.int .i64,.int .i64,.int .i64,.int .i64,.int .i64,.int .i64,.int .i64,.int .i64,.int .i64,.int .i64,.int .i64,.int .i64,.int .i64,.int .i64,.int .i64,.int .i64,.int .i64] (.nd 71 [.int .u8,.int .u8] (.nd 55 [.int .i64,.int .i64,.int .i64] (.lf) (.lf)) (.nd 74 [.str,.str,.int .i64,.int .i64] (.lf) (.lf))) (.nd 190 [.int .u8,.int .u8,.int .u8,.int .u8,.int .u8,.int .u8,.int .u8,.int .u8,.int .u8,.int .u8,.int .u8,.int .u8,.int .u8,.int .u8,.int .u8,.int .u8,.int .u8,.int .u8,.int .u8,.int .u8,.int .u8,.int .u8,.int .u8,.int .u8,.int .u8,.int .u8,.int .u8,.int .u8,.int .u8,.int .u8,.int .u8,.int .u8,.int .u8,.int .u8,.int .u8,.int .u8,.int .u8,.int .u8,.int .u8,.int .u8,.int .u8,.int .u8,.int .u8,.int .u8,.int .u8,.int .u8,.int .u8,.int .u8,.int .u8,.int .u8,.int .u8,.int .u8,.int .u8,.int .u8,.int .u8,.int .u8,.int .u8,.int .u8,.int .u8,.int .u8,.int .u8,.int .u8,.int .u8,.int .u8] (.nd 189 [.int .u8,.int .u8,.int .u8,.int .u8,.int .u8,.int .u8,.int .u8,.int .u8,.int .u8,.int .u8,.int .u8,.int .u8,.int .u8,.int .u8,.int .u8,.int .u8,.int .u8,.int .u8,.int .u8,.int .u8,.int .u8,.int .u8,.int .u8,.int .u8,.int .u8,.int .u8,.int .u8,.int .u8,.int .u8,.int .u8,.int .u8,.int .u8] (.lf) (.lf)) (.lf))
 und:= .nd 63 .bytes (.nd 9 .str (.nd 5 (.int .u8) (.nd 3 (.int .i64) (.lf) (.lf)) (.lf)) (.nd 27 (.int .i64) (.nd 21 (.int .i32) (.lf) (.lf)) (.lf))) (.nd 184 (.int .u32) (.nd 176 (.int .u64) (.nd 107 .map (.lf) (.lf)) (.lf)) (.nd 186 (.int .u64) (.lf) (.lf)))
 fieldV:= .nd 105 [some (false,0,1),some (false,1,1)] (.nd 55 [some (false,0,1),some (false,1,1),some (false,2,1)] (.nd 25 [some (false,0,1),some (false,1,1),some (false,2,1)] (.lf) (.lf)) (.nd 74 [some (false,0,1),some (false,1,1),some (false,2,1),some (false,3,1)] (.lf) (.lf))) (.nd 133 [some (false,0,1),some (false,1,1)] (.nd 123 [some (true,0,3),some (false,3,1),some (false,4,1)] (.lf) (.lf)) (.nd 149 [some (false,0,1),some (false,1,1)] (.lf) (.lf)))
 indexV:= .nd 134 (true,3,2) (.nd 124 (true,6,3) (.nd 71 (false,2,1) (.lf) (.lf)) (.lf)) (.nd 190 (false,64,1) (.nd 189 (false,32,1) (.lf) (.lf)) (.lf))
theorem ao:tab.Ok Tryz.prog where
 var:=⟨Gh,⟨F6,⟨F1,⟨JH,⟨JG,⟨JF,trivial,trivial⟩,trivial⟩,⟨F0,⟨JI,trivial,trivial⟩,trivial⟩⟩,⟨F4,⟨F3,⟨F2,trivial,trivial⟩,trivial⟩,⟨F5,trivial,trivial⟩⟩⟩,⟨Gc,⟨F9,⟨F8,⟨F7,trivial,trivial⟩,trivial⟩,⟨Gb,⟨Ga,trivial,trivial⟩,trivial⟩⟩,⟨Gf,⟨Ge,⟨Gd,trivial,trivial⟩,trivial⟩,⟨Gg,trivial,trivial⟩⟩⟩⟩,⟨Ds,⟨Dn,⟨Gk,⟨Gj,⟨Gi,trivial,trivial⟩,trivial⟩,⟨Dm,⟨Dl,trivial,trivial⟩,trivial⟩⟩,⟨Dq,⟨Dp,⟨Do,trivial,trivial⟩,trivial⟩,⟨Dr,trivial,trivial⟩⟩⟩,⟨Dy,⟨Dv,⟨Du,⟨Dt,trivial,trivial⟩,trivial⟩,⟨Dx,⟨Dw,trivial,trivial⟩,trivial⟩⟩,⟨DB,⟨DA,⟨Dz,trivial,trivial⟩,trivial⟩,⟨DC,trivial,trivial⟩⟩⟩⟩⟩
 slice:=⟨Ac,⟨Aa,⟨z8,trivial,trivial⟩,⟨Ab,trivial,trivial⟩⟩,⟨Ae,⟨Ad,trivial,trivial⟩,⟨xe,trivial,trivial⟩⟩⟩
 array:=⟨w9,⟨w8,⟨z7,trivial,trivial⟩,trivial⟩,⟨xd,⟨xc,trivial,trivial⟩,trivial⟩⟩
 zero:=⟨GH,⟨Gw,⟨Gr,⟨JU,⟨JT,⟨JS,trivial,trivial⟩,trivial⟩,⟨Gq,⟨JV,trivial,trivial⟩,trivial⟩⟩,⟨Gu,⟨Gt,⟨Gs,trivial,trivial⟩,trivial⟩,⟨Gv,trivial,trivial⟩⟩⟩,⟨GC,⟨Gz,⟨Gy,⟨Gx,trivial,trivial⟩,trivial⟩,⟨GB,⟨GA,trivial,trivial⟩,trivial⟩⟩,⟨GF,⟨GE,⟨GD,trivial,trivial⟩,trivial⟩,⟨GG,trivial,trivial⟩⟩⟩⟩,⟨DS,⟨DN,⟨GK,⟨GJ,⟨GI,trivial,trivial⟩,trivial⟩,⟨DM,⟨DL,trivial,trivial⟩,trivial⟩⟩,⟨DQ,⟨DP,⟨DO,trivial,trivial⟩,trivial⟩,⟨DR,trivial,trivial⟩⟩⟩,⟨DY,⟨DV,⟨DU,⟨DT,trivial,trivial⟩,trivial⟩,⟨DX,⟨DW,trivial,trivial⟩,trivial⟩⟩,⟨D1,⟨D0,⟨DZ,trivial,trivial⟩,trivial⟩,⟨D2,trivial,trivial⟩⟩⟩⟩⟩
 field:=⟨sM,⟨vz,⟨vx,trivial,trivial⟩,⟨vA,trivial,trivial⟩⟩,⟨sO,⟨sN,trivial,trivial⟩,⟨sP,trivial,trivial⟩⟩⟩
 places:=⟨wJ,⟨zH,⟨zG,trivial,trivial⟩,⟨zI,trivial,trivial⟩⟩,⟨wL,⟨wK,trivial,trivial⟩,⟨wM,trivial,trivial⟩⟩⟩
 placesN:=⟨wF,⟨wD,⟨zE,trivial,trivial⟩,trivial⟩,⟨wI,⟨wH,trivial,trivial⟩,trivial⟩⟩
 map:=⟨B2,trivial,trivial⟩
 eq:=⟨ES,⟨Io,⟨Im,trivial,trivial⟩,⟨Ip,trivial,trivial⟩⟩,⟨EU,⟨ET,trivial,trivial⟩,trivial⟩⟩
 und:=⟨⟨_,Le,Ld⟩,⟨LU,⟨Ld,⟨LT,trivial,trivial⟩,trivial⟩,⟨Lc,⟨Lb,trivial,trivial⟩,trivial⟩⟩,⟨JM,⟨JL,⟨⟨_,_,DD⟩,trivial,trivial⟩,trivial⟩,⟨JN,trivial,trivial⟩⟩⟩
 fieldV:=⟨wu,⟨zy,⟨zx,trivial,trivial⟩,⟨zA,trivial,trivial⟩⟩,⟨ww,⟨wv,trivial,trivial⟩,⟨wx,trivial,trivial⟩⟩⟩
 indexV:=⟨Cv,⟨Cu,⟨Fp,trivial,trivial⟩,trivial⟩,⟨Cy,⟨Cw,trivial,trivial⟩,trivial⟩⟩
theorem mixed:Tryz.prog.follows .mixedOrders=true:=by kernel_rfl
end Go.Proofs.YtgncapdjheghfaaGreatDoor
namespace Go.Proofs.YtgncapdjheghfaaGreatDoor
open Go.Am Go.Proofs Go
structure Fig where
 name:ByteArray
 role:ByteArray
 room:Int
 height:Int
deriving DecidableEq
structure Ent where
 says:Int
 a:Int
 b:Int
deriving DecidableEq
structure Bill where
 lines:Int
 figs:List Fig
 truths:List Int
def aj(n:Int):AV:= .v (.int .i64 n)
def aB(b:Bool):AV:= .v (.bool b)
def aG(s:ByteArray):AV:= .v (.string s)
def dS(f:Fig):AV:= .agg [aG f.name,aG f.role,aj f.room,aj f.height]
def bB(x:Ent):AV:= .agg [aj x.says,aj x.a,aj x.b]
def dW(l:List Fig):AV:= .slice 4 (l.map dS) .no
def aJ(l:List Ent):AV:= .slice 3 (l.map bB) .no
def aD(l:List Int):AV:= .slice 1 (l.map aj) .no
def FT(l:List ByteArray):AV:= .slice 1 (l.map aG) .no
def yy(s:Bill):List AV:=[aj s.lines,dW s.figs,aD s.truths]
def aI(s:Bill):AV:= .agg [aj s.lines,dW s.figs,aD s.truths]
def D8(x:Int×Int×Int):AV:= .tuple [aj x.1,aj x.2.1,aj x.2.2]
end Go.Proofs.YtgncapdjheghfaaGreatDoor
namespace Go.Proofs.YtgncapdjheghfaaGreatDoor
open Go.Am Go.Proofs Go Go.ChangeShapes Go.WideShapes Go.RowKit
theorem Ev{H:Type}(d:DataW H):1≤Rows.uptoBulk d:=by
 cases d with
 | lit l=>cases l<;>simp[Rows.uptoBulk]
 | nil=>simp[Rows.uptoBulk]
 | ptr d=>simp[Rows.uptoBulk]
 | slice elems spare=>simp[Rows.uptoBulk]
 | agg parts=>simp[Rows.uptoBulk]
 | iface t d=>simp[Rows.uptoBulk]
 | map entries=>simp[Rows.uptoBulk]
 | held h=>simp[Rows.uptoBulk]
theorem cl{H:Type}{d:DataW H}{l:List (DataW H)}(h:d∈l):Rows.uptoBulk d≤Rows.uptoBulkAll l:=by
 induction l with
 | nil=>cases h
 | cons x r ih =>
  simp only[Rows.uptoBulkAll]
  cases List.mem_cons.1 h with
  | inl e=>subst e;omega
  | inr e=>have:=ih e;omega
theorem Eu{H:Type}(l:List (DataW H)):l.length≤Rows.uptoBulkAll l:=by
 induction l with
 | nil=>simp[Rows.uptoBulkAll]
 | cons x r ih=>have:=Ev x;simp only[Rows.uptoBulkAll,List.length_cons];omega
theorem qO{H:Type}(l:List (DataW H)):Rows.uptoBulkAll l≤Rows.uptoBulk (.agg l):=by
 simp only[Rows.uptoBulk];omega
theorem yB{H:Type}(l s:List (DataW H)):Rows.uptoBulkAll l≤Rows.uptoBulk (.slice l s):=by
 simp only[Rows.uptoBulk];omega
theorem lb{H:Type}{l:List (DataW H)}(hk:Rows.uptoSmall H l=true):Rows.uptoBulkAll l≤1048576:=of_decide_eq_true hk
inductive Lf where
 | int (k:IntKind)
 | bool
 | str
def G6(b:Nat):Lf→Value→Prop
 | .int k,.int k' m=>k'=k∧(Lit.int k m).wf=true
 | .bool,.bool _=>True
 | .str,.string s=>s.size≤b
 | _,_=>False
def Fit(b:Nat):List Lf→List Value→Prop
 | [],[]=>True
 | l::ls,v::vs=>G6 b l v∧Fit b ls vs
 | _,_=>False
theorem G6.mono{b b':Nat}(h:b≤b'){l:Lf}{v:Value}(hf:G6 b l v):G6 b' l v:=by
 cases l<;>cases v<;>simp only[G6]at hf ⊢ <;>first|exact hf|omega
theorem Fit.mono{b b':Nat}(h:b≤b'):∀{ls:List Lf} {vs:List Value},Fit b ls vs→Fit b' ls vs
 | [],[],_=>trivial
 | [],_::_,hf=>hf
 | _::_,[],hf=>hf
 | _::_,_::_,hf=>⟨hf.1.mono h,hf.2.mono h⟩
theorem Fit.len{b:Nat}:∀{ls:List Lf} {vs:List Value},Fit b ls vs→vs.length=ls.length
 | [],[],_=>rfl
 | [],_::_,hf=>hf.elim
 | _::_,[],hf=>hf.elim
 | _::_,_::_,hf=>by simp only[List.length_cons,hf.2.len]
theorem Fit.append{b:Nat}:∀{ls ms:List Lf} {vs ws:List Value},Fit b ls vs→Fit b ms ws→Fit b (ls++ms) (vs++ws)
 | [],_,[],_,_,h=>h
 | [],_,_::_,_,h,_=>h.elim
 | _::_,_,[],_,h,_=>h.elim
 | _::_,_,_::_,_,h,k=>⟨h.1,h.2.append k⟩
theorem Fit.one{b:Nat}:∀{ls:List Lf} {vs:List Value},Fit b ls vs→∀v∈vs,v.oneCell'=true
 | [],[],_,v,hv=>by simp at hv
 | [],_::_,hf,_,_=>hf.elim
 | _::_,[],hf,_,_=>hf.elim
 | l::_,u::_,hf,v,hv=>by
  rcases List.mem_cons.1 hv with e|e
  ·subst e
   have:=hf.1
   cases l<;>cases v<;>simp only[G6]at this<;>rfl
  ·exact hf.2.one v e
section
variable {H:Type} {enc:TypeId×Value→H} {P:Program} {W:World} {sp:Nat→Bool} {held:Bool}
def BL(P:Program)(F:TypeId→Option (List Lf)):List Field→Nat→Option (List Lf)
 | [],_=>some []
 | f::fs,o=>match F f.type with
  | some l=>if f.offset=o∧P.cellsOf f.type=l.length then(BL P F fs (o+l.length)).map (l++ ·)else none
  | none=>none
def fj(P:Program):Nat→TypeId→Option (List Lf)
 | 0,_=>none
 | n+1,t=>match P.underlying t with
  | some (.int k)=>some [.int k]
  | some .bool=>some [.bool]
  | some .string=>some [.str]
  | some (.array m e)=>match fj P n e with
   | some l=>if P.cellsOf e=l.length∧P.cellsOf t=m * l.length then some (List.replicate m l).flatten else none
   | none=>none
  | some (.struct fs)=>match BL P (fj P n) fs.toList 0 with
   | some l=>if P.cellsOf t=l.length then some l else none
   | none=>none
  | _=>none
theorem sY{F:TypeId→Option (List Lf)}{b:Nat}{cs:List Value}:∀(fs:List Field) (o:Nat) (l:List Lf),BL P F fs o=some l→cs.length=o+l.length →
  (∀f∈fs,∀l,F f.type=some l→P.cellsOf f.type=l.length→Fit b l ((cs.drop f.offset).take (P.cellsOf f.type)))→Fit b l (cs.drop o)
 | [],o,l,h,hl,_=>by
  simp only[BL,Option.some.injEq]at h
  subst h
  rw[List.drop_of_length_le (by simp at hl;omega)]
  trivial
 | f::fs,o,l,h,hl,hf=>by
  simp only[BL]at h
  split at h
  ·rename_i l1 h1
   split at h
   ·rename_i hc
    obtain⟨rfl,hc⟩:=hc
    rw[Option.map_eq_some_iff]at h
    obtain⟨l2,h2,rfl⟩:=h
    rw[List.length_append]at hl
    have a:=hf f (List.mem_cons_self ..) l1 h1 hc
    have c:=sY fs _ l2 h2 (by omega) fun g hg=>hf g (List.mem_cons_of_mem _ hg)
    rw[hc]at a
    have e:cs.drop f.offset=(cs.drop f.offset).take l1.length++cs.drop (f.offset+l1.length):=by
     rw[←List.drop_drop,List.take_append_drop]
    rw[e]
    exact a.append c
   ·cases h
  ·cases h
theorem xH{b:Nat}{l:List Lf}:∀(m:Nat) (cs:List Value),cs.length=m * l.length→(∀i,i<m→Fit b l ((cs.drop (i * l.length)).take l.length))→Fit b (List.replicate m l).flatten cs
 | 0,cs,h,_=>by
  have:cs=[]:=List.length_eq_zero_iff.1 (by omega)
  subst this
  trivial
 | m+1,cs,h,hf=>by
  rw[List.replicate_succ,List.flatten_cons]
  have a:=hf 0 (by omega)
  simp only[Nat.zero_mul,List.drop_zero]at a
  have c:=xH (b:=b) (l:=l) m (cs.drop l.length) (by rw[List.length_drop,h,Nat.succ_mul];omega) fun i hi=>by
   have:=hf (i+1) (by omega)
   rw[List.drop_drop]
   rw[show l.length+i * l.length=(i+1) * l.length by rw[Nat.succ_mul];omega]
   exact this
  rw[←List.take_append_drop l.length cs]
  exact a.append c
theorem iB:∀(n:Nat) {fuel:Nat} {t:TypeId} {cs:List Value} {x:DataW H×List MemPlace} {l:List Lf},fj P n t=some l→DataW.trod enc P W 0 sp held fuel t cs=some x→Fit (Rows.uptoBulk x.1) l cs
 | 0,_,_,_,_,_,h,_=>by simp[fj]at h
 | n+1,fuel,t,cs,x,l,h,ht=>by
  simp only[fj]at h
  split at h
  ·rename_i k hu
   cases h
   obtain⟨m,rfl,rfl,hw⟩:=DataW.trod_int hu ht
   exact⟨⟨rfl,hw⟩,trivial⟩
  ·rename_i hu
   cases h
   obtain⟨m,rfl,rfl⟩:=DataW.trod_bool hu ht
   exact⟨trivial,trivial⟩
  ·rename_i hu
   cases h
   obtain⟨s,rfl,rfl,_⟩:=DataW.trod_string hu ht
   refine⟨?_,trivial⟩
   simp only[G6,Rows.uptoBulk]
   simp
  ·rename_i m e hu
   split at h
   ·rename_i l1 h1
    split at h
    ·rename_i hc
     cases h
     obtain⟨xs,q,rfl,rfl,hl,hx,hf⟩:=DataW.trod_array hu ht
     refine xH m cs (by rw[hl,hc.2]) fun i hi=>?_
     have:=hf i hi
     rw[hc.1]at this
     have hg:xs[i]?=some xs[i]:=List.getElem?_eq_getElem (by omega)
     rw[hg]at this
     refine(iB n h1 this).mono ?_
     have b1:=cl (d:=xs[i].1) (l:=xs.map (·.1)) (List.mem_map.2 ⟨_,List.mem_of_getElem? hg,rfl⟩)
     have b2:=qO (xs.map (·.1))
     simp only
     omega
    ·cases h
   ·cases h
  ·rename_i fs hu
   split at h
   ·rename_i l1 h1
    split at h
    ·rename_i hc
     cases h
     obtain⟨xs,q,rfl,rfl,hl,hx,hf⟩:=DataW.trod_struct hu ht
     have:=sY (P:=P) (F:=fj P n) (b:=Rows.uptoBulk (.agg (xs.map (·.1)))) (cs:=cs) fs.toList 0 l h1 (by rw[hl,hc];omega) fun f hfm l2 h2 h3=>by
      obtain⟨i,hi⟩:=List.mem_iff_getElem?.1 hfm
      rw[Array.getElem?_toList]at hi
      have hq:=hf i f hi
      have hlt:i<xs.length:=by rw[hx];exact(Array.getElem?_eq_some_iff.1 hi).1
      have hg:xs[i]?=some xs[i]:=List.getElem?_eq_getElem hlt
      rw[hg]at hq
      refine(iB n h2 hq).mono ?_
      have b1:=cl (d:=xs[i].1) (l:=xs.map (·.1)) (List.mem_map.2 ⟨_,List.mem_of_getElem? hg,rfl⟩)
      have b2:=qO (xs.map (·.1))
      omega
     simpa using this
    ·cases h
   ·cases h
  ·cases h
def BU(W:World)(b _:Nat):Prop:=b<W.heap.size
theorem xi{b off k:Nat}:(⟨b,off,none⟩:Addr).add k=⟨b,off+k,none⟩:=by
 unfold Addr.add
 split
 ·subst_vars;rfl
 ·rfl
theorem Ba{a:Addr}{v:Value}(h:W.cell? a=some v):a.block<W.heap.size:=by
 unfold World.cell? at h
 split at h
 ·rename_i hb;exact(Array.getElem?_eq_some_iff.1 hb).1
 ·simp at h
theorem Jt{t e:TypeId}{r:Reach}{b0 len cap:Nat}{a:Addr}(ht:P.underlying t=some (.slice e))(h:Cell.okWide P W r b0 t (.slice (some a) len cap)):a.spot=none:=by
 simp only[Cell.okWide,ht,Cell.ok,World.has]at h
 exact h.2.2.2.1
theorem lZ{t e:TypeId}{n:Nat}{ls:List Lf}{α:Type}{A:α→AV}{good:Nat→α→Prop}(ht:P.underlying t=some (.slice e))(hn:P.cellsOf e=ls.length)(hl:fj P n e=some ls)
  (hA:∀b vs,Fit b ls vs→∃y:α,(A y).cells=vs.map .v∧good b y) (hmono:∀b b' y,b≤b'→good b y→good b' y)
  {r:Reach} {b0 fuel:Nat} {c:Value} {x:DataW H×List MemPlace} (hk:Cell.okWide P W r b0 t c) (h:DataW.trod enc P W 0 sp held fuel t [c]=some x) :
  ∃l:List α,l.length≤Rows.uptoBulk x.1∧(∀y∈l,good (Rows.uptoBulk x.1) y)∧PRel W (BU W) (.slice ls.length (l.map A) .no) c∧c.oneCell'=true:=by
 rcases DataW.trod_slice ht h with⟨h1,h2⟩|⟨a,len,cap,elems,rest,m,rfl,h1,rfl,_,hlc,hm,hlen,hE,_,_⟩
 ·simp only[List.cons.injEq,and_true]at h1
  subst h1
  exact⟨[],Nat.zero_le _,by simp,.nil _ .no (.inl rfl),rfl⟩
 ·simp only[List.cons.injEq,and_true]at h1
  subst h1
  have hsp:=Jt (P:=P) (W:=W) (r:=r) (b0:=b0) (len:=len) (cap:=cap) ht hk
  obtain⟨blk,off,spot⟩:=a
  simp only at hsp
  subst hsp
  rw[hn]at hE
  have hb:=yB (elems.map (·.1)) (rest.map (·.1))
  have each:∀i,i<len→∃y:α,good (Rows.uptoBulk (.slice (elems.map (·.1)) (rest.map (·.1)))) y∧(A y).cells.length=ls.length∧∀c u,(A y).cells[c]?=some u→∃v,u = .v v∧W.cell? ⟨blk,off+i * ls.length+c,none⟩=some v∧v.oneCell'=true:=by
   intro i hi
   have:=hE i hi
   have hz:elems[i]?=some (elems[i]'(by omega)):=List.getElem?_eq_getElem _
   rw[hz,Option.bind_eq_some_iff]at this
   obtain⟨cs',hc,ht'⟩:=this
   have hfit:=iB n hl ht'
   obtain⟨y,hy,hg⟩:=hA _ _ hfit
   obtain⟨_,hcl,hcc⟩:=World.cells?_some hc
   have b1:=cl (d:=(elems[i]'(by omega)).1) (l:=elems.map (·.1)) (List.mem_map.2 ⟨_,List.mem_of_getElem? hz,rfl⟩)
   refine⟨y,hmono _ _ _ (by omega) hg,by rw[hy,List.length_map,hcl],fun k u hu=>?_⟩
   rw[hy,List.getElem?_map,Option.map_eq_some_iff]at hu
   obtain⟨v,hv,rfl⟩:=hu
   have hkn:k<ls.length:=by rw[←hcl];exact(List.getElem?_eq_some_iff.1 hv).1
   have hw:=hcc k hkn
   rw[xi,xi]at hw
   exact⟨v,rfl,by rw[hw];exact hv,hfit.one v (List.mem_of_getElem? hv)⟩
  have build:∀k,k≤len→∃l:List α,l.length=k∧∀(i:Nat) (y:α),l[i]?=some y→good (Rows.uptoBulk (.slice (elems.map (·.1)) (rest.map (·.1)))) y∧(A y).cells.length=ls.length∧∀c u,(A y).cells[c]?=some u→∃v,u = .v v∧W.cell? ⟨blk,off+i * ls.length+c,none⟩=some v∧v.oneCell'=true:=by
   intro k
   induction k with
   | zero=>exact fun _=>⟨[],rfl,fun i y h=>by simp at h⟩
   | succ k ih =>
    intro hk
    obtain⟨l,hl,hi⟩:=ih (by omega)
    obtain⟨y,hy⟩:=each k (by omega)
    refine⟨l++[y],by simp[hl],fun i u hu=>?_⟩
    by_cases hlt:i<l.length
    ·rw[List.getElem?_append_left hlt]at hu
     exact hi i u hu
    ·rw[List.getElem?_append_right (by omega)]at hu
     have:i-l.length=0:=by
      have:=(List.getElem?_eq_some_iff.1 hu).1
      simp at this;omega
     rw[this]at hu
     simp at hu;subst hu
     have:i=k:=by omega
     subst this
     exact hy
  obtain⟨l,hl,hi⟩:=build len (Nat.le_refl _)
  have hbl:=Eu (elems.map (·.1))
  rw[List.length_map,hlen]at hbl
  refine⟨l,by simp only;omega,fun y hy=>?_,?_,rfl⟩
  ·obtain⟨j,hj⟩:=List.mem_iff_getElem?.1 hy
   exact(hi j y hj).1
  ·subst hl
   have:=PRel.slice (w:=W) (imm:=BU W) (sz:=ls.length) (es:=l.map A) (tok:= .no) (b:=blk) (off:=off) (cap:=cap)
    (fun i c=>match l[i]? with|some y=>(match(A y).cells[c]? with|some (.v v)=>v|_=> .bool false)|none=> .bool false) (by simpa using hlc) (.inl rfl) hm
    (fun i e he=>by
     rw[List.getElem?_map,Option.map_eq_some_iff]at he
     obtain⟨y,hy,rfl⟩:=he
     exact(hi i y hy).2.1)
    (fun i e c u he hu=>by
     rw[List.getElem?_map,Option.map_eq_some_iff]at he
     obtain⟨y,hy,rfl⟩:=he
     obtain⟨v,rfl,hv,h1⟩:=(hi i y hy).2.2 c u hu
     simp only[hy,hu]
     exact⟨hv,Ba hv,h1⟩)
    (fun i e c u he hu=>by
     rw[List.getElem?_map,Option.map_eq_some_iff]at he
     obtain⟨y,hy,rfl⟩:=he
     obtain⟨v,rfl,hv,h1⟩:=(hi i y hy).2.2 c u hu
     simp only[hy,hu]
     exact .v _)
   rw[List.length_map]at this
   exact this
theorem oT{t e:TypeId}{n:Nat}{ls:List Lf}{α:Type}{A:α→AV}{good:Nat→α→Prop}(ht:P.underlying t=some (.slice e))(hn:P.cellsOf e=ls.length)(hl:fj P n e=some ls)
  (hA:∀b vs,Fit b ls vs→∃y:α,(A y).cells=vs.map .v∧good b y) (hmono:∀b b' y,b≤b'→good b y→good b' y)
  {r:Reach} {b0:Nat} {v:Value} {d:DataW H} {ps:List MemPlace} (hk:Value.okWide P W r b0 t v) (h:DataW.Trod enc P W 0 sp held t v d ps) :
  ∃l:List α,l.length≤Rows.uptoBulk d∧(∀y∈l,good (Rows.uptoBulk d) y)∧PRel W (BU W) (.slice ls.length (l.map A) .no) v:=by
 simp only[Value.okWide,ht]at hk
 obtain⟨fuel,hf⟩:=h
 have hv:v.cells.toList=[v]:=by
  cases v with
  | agg cs=>simp[Cell.okWide,ht,Cell.ok]at hk
  | _=>rfl
 rw[hv]at hf
 obtain⟨l,h1,h2,h3,_⟩:=lZ ht hn hl hA hmono hk hf
 exact⟨l,h1,h2,h3⟩
theorem E8{t:TypeId}{n:Nat}{ls:List Lf}(hl:fj P n t=some ls){v:Value}{d:DataW H}{ps:List MemPlace}(h:DataW.Trod enc P W 0 sp held t v d ps):Fit (Rows.uptoBulk d) ls v.cells.toList:=by
 obtain⟨fuel,hf⟩:=h
 exact iB n hl hf
end
theorem ga{W W':World}{may:MemPlace→Prop}(h:Below W.heap.size W W'):W.keptBut W' may:=by
 refine⟨h.os,h.output,fun i hi=>?_⟩
 rw[h.block i hi]
 cases W.heap[i]? with
 | none=>rfl
 | some o=>cases o<;>first|rfl|exact⟨rfl,rfl,rfl,fun _ _=>rfl⟩|exact .inr ⟨rfl,rfl⟩
theorem gc:laidOutB Tryz.prog=true:=by kernel_rfl
theorem own:ownKnob Tryz.prog.godebug=none:=by kernel_rfl
theorem nP{f:FuncId}{args:List AV}{W:World}{cargs:Array Value}(hg:jM W (BU W))(h:PureA Tryz.prog f args (aB true))(hr:mM W (BU W) args cargs) :
  Calls Tryz.prog f cargs W fun e W'=>e = .returned (.bool true)∧Below W.heap.size W W':=by
 refine(h.2 W (BU W) cargs ⟨fun b i hb=>hb,hg⟩ hr).mono ?_
 rintro e W' ⟨y,imm',rfl,_,hy,hb⟩
 have:y = .bool true:=by
  unfold aB at hy
  cases hy
  rfl
 subst this
 exact⟨rfl,hb⟩
end Go.Proofs.YtgncapdjheghfaaGreatDoor
namespace Go.Proofs.YtgncapdjheghfaaGreatDoor
open Go.Am Go.Proofs Go
def ce{α:Type}(p:α→Bool):Nat→List α→Int
 | _,[]=> -1
 | i,x::xs=>if p x then i else ce p (i+1) xs
def idx{α:Type}(p:α→Bool)(l:List α):Int:=ce p 0 l
def bU(n l m:Int):Bool:=l≤n&&n≤m
def aW(l m n:Int):Bool:=n<l||m<n
def dw(b:UInt8):Bool:=97≤b.toNat&&b.toNat≤122
def fJ(b:UInt8):Bool:=(48≤b.toNat&&b.toNat≤57)||b.toNat==46
def j9:Bool→List UInt8→Bool
 | _,[]=>true
 | first,b::bs=>(dw b||(!first&&fJ b))&&j9 false bs
def cp(s:ByteArray):Bool:=decide (s.data.toList≠[])&&decide (s.data.toList.length≤16)&&j9 true s.data.toList
def a6{α:Type}(g:Nat→α→Int):Nat→List α→Int×Int
 | _,[]=>(0,0)
 | i,x::xs=>if g i x=0 then a6 g (i+1) xs else(i,g i x)
def cB:List Int→List Int→Bool
 | [],[]=>false
 | [],_::_=>true
 | _::_,[]=>false
 | x::a,y::b=>if x=y then cB a b else decide (x<y)
def ex(a b:List Int):Bool:=if a.length=b.length then cB a b else decide (a.length<b.length)
def dx(before:List Fig)(f:Fig):Bool:=match before.getLast? with
 | none=>false
 | some y=>decide (f.room<y.room)
def fL(before:List Fig)(f:Fig):Int :=
 if cp f.name=false then 6 else if before.any (fun x=>decide (x.name=f.name))=true then 5 else if cp f.role=false then 6 else if(aW 0 9 f.room||aW 1 6 f.height)=true then 7
 else if dx before f=true then 2 else 0
def cN(n:Nat)(before:List Int)(t:Int):Int :=
 if aW 0 (2^n-1) t=true then 4 else if before.any (fun x=>decide (x=t))=true then 5 else 0
def Bill.figsErr(s:Bill):Int×Int:=a6 (fun i f=>fL (s.figs.take i) f) 0 s.figs
def Bill.truthsErr(s:Bill):Int×Int:=a6 (fun i t=>cN s.figs.length (s.truths.take i) t) 0 s.truths
def Bill.check(s:Bill):Int×Int×Int :=
 if aW 14 30 s.lines=true then(1,0,7)else if(6:Int)<s.figs.length then(2,0,3)else if s.figsErr.2≠0 then(2,s.figsErr.1,s.figsErr.2)
 else if aW 1 6 s.truths.length=true then(3,0,3)else if s.truthsErr.2≠0 then(3,s.truthsErr.1,s.truthsErr.2)else(0,0,0)
def Bill.small(s:Bill):Prop:=s.figs.length≤1048576∧s.truths.length≤1048576∧∀f∈s.figs,f.name.size≤1048576∧f.role.size≤1048576
def nv(t:Int)(i:Nat):Bool:=t.toNat.testBit i
def Bill.inAll(s:Bill)(i:Nat):Bool:=s.truths.all (nv · i)
def Bill.inSome(s:Bill)(i:Nat):Bool:=s.truths.any (nv · i)
def Bill.oneOf(s:Bill)(a b:Nat):Bool:=s.truths.all fun t=>nv t a||nv t b
def Bill.allN(s:Bill):Nat:=s.truths.foldl (fun x t=>x&&&t.toNat) 63
def Bill.someN(s:Bill):Nat:=s.truths.foldl (fun x t=>x|||t.toNat) 0
def Bill.sure(s:Bill)(set:Int):Bool:= !s.truths.any fun t=>decide (t.toNat&&&set.toNat=0)
def Bill.roomAt(s:Bill)(i:Int):Int:=match s.figs[i.toNat]? with|none=>0|some f=>f.room
def Bill.heightAt(s:Bill)(i:Int):Int:=match s.figs[i.toNat]? with|none=>0|some f=>f.height
def Bill.so(s:Bill)(x:Ent):Bool :=
 if x.says=0 then decide (x.b=0)&&s.inAll x.a.toNat
 else if x.says=1 then decide (x.a<x.b)&&(decide (s.roomAt x.a=s.roomAt x.b)&&((!s.inAll x.a.toNat&& !s.inAll x.b.toNat)&&s.oneOf x.a.toNat x.b.toNat))
 else decide (x.b=0)&&(s.inSome x.a.toNat&& !s.inAll x.a.toNat)
def Ent.named(x:Ent):Nat:=if x.says=1 then 2^x.a.toNat|||2^x.b.toNat else 2^x.a.toNat
def Bill.holdsL(s:Bill):List Ent→Nat→Int→Bool
 | [],met,_=>decide (met=s.someN)
 | x::l,met,last =>
  if(aW 0 2 x.says||(aW (last+1) (s.figs.length-1) x.a||aW 0 (s.figs.length-1) x.b))=true then false
  else if(!s.so x||decide (met&&&x.named≠0))=true then false else s.holdsL l (met|||x.named) x.a
def Bill.holds(s:Bill)(c:List Ent):Bool:=s.holdsL c 0 (-1)
def Bill.tries(s:Bill)(a:Nat):List Ent:=(List.range 3).flatMap fun(k:Nat)=>(List.range s.figs.length).map fun(b:Nat)=>⟨(k:Int),(a:Int),(b:Int)⟩
def Bill.fitsIn(s:Bill)(left:Nat)(x:Ent):Bool:=s.so x&&decide (x.named&&&left=x.named)
def bc(left m:Nat):Nat:=left&&&(63^^^m)
def Bill.catsN(s:Bill):Nat→Nat→Nat→List (List Ent)
 | 0,_,left=>if left=0 then [[]]else []
 | f+1,a,left=>if left=0 then [[]]else if left.testBit a=false then s.catsN f (a+1) left
  else((s.tries a).filter (s.fitsIn left)).flatMap fun x=>(s.catsN f (a+1) (bc left x.named)).map (x:: ·)
def Bill.cats(s:Bill):List (List Ent):=s.catsN 6 0 s.someN
def dZ(l:List Ent):Nat:=l.countP fun x=>decide (x.says=2)
def dg:Option (List Ent×Int)→List (List Ent)→Option (List Ent×Int)
 | o,[]=>o
 | none,c::l=>dg (some (c,dZ c)) l
 | some (b,n),c::l=>if(dZ c:Int)<n then dg (some (c,dZ c)) l else dg (some (b,n)) l
def Bill.bestR(s:Bill):List Ent×Int×Int:=if s.check.2.2≠0 then([],0,s.check.2.2)else match dg none s.cats with|none=>([], -1,0)|some (b,n)=>(b,n,0)
def Bill.heading(s:Bill)(c:List Ent)(i:Nat)(top:Bool):Int :=
 match c[i]? with
 | none=>0
 | some x=>match(if i=0 then none else c[i-1]?)with
  | none=>2
  | some y=>if s.roomAt x.a≠s.roomAt y.a then 2 else if top=true then 1 else 0
def Bill.height(s:Bill)(x:Ent):Int:=s.heightAt x.a+(if x.says=1 then s.heightAt x.b else 0)
def Bill.lineOf(s:Bill)(c:List Ent)(i:Nat)(top:Bool):Int:=s.heading c i top+(match c[i]? with|none=>0|some x=>s.height x)
def Bill.linesOn(s:Bill)(c:List Ent)(i:Nat):Nat→Int
 | 0=>0
 | n+1=>s.linesOn c i n+s.lineOf c (i+n) (n==0)
def Bill.left(s:Bill)(c:List Ent)(i j:Nat):Int:=s.lines-s.linesOn c i (j-i)
def bZ(s:Bill)(c:List Ent):Int:=if s.check.2.2≠0 then s.check.2.2 else if s.holds c=true then 0 else 9
def bV(c:List Ent):List Nat→Nat
 | []=>c.length
 | j::_=>j
def Bill.whiteL(s:Bill)(c:List Ent):List Nat→Option Int
 | []=>some 0
 | i::l=>if s.left c i (bV c l)<0 then none else match s.whiteL c l with
  | none=>none
  | some w=>some ((if bV c l<c.length then s.left c i (bV c l) * s.left c i (bV c l)else 0)+w)
structure Press where
 pages:List Int
 white:Int
def bq(p q:Press):Bool:=if p.white≠q.white then decide (p.white<q.white)else ex p.pages q.pages
def db(best:Option Press)(x:Press):Press:=match best with
 | none=>x
 | some b=>if bq x b=true then x else b
def Bill.pressTo(s:Bill)(c:List Ent)(press:Nat→Press)(i:Nat):Nat→Nat→Option Press→Option Press
 | 0,_,best=>best
 | f+1,j,best=>if s.left c i j<0 then best
  else s.pressTo c press i f (j+1) (some (db best ⟨(i:Int)::(press j).pages,(press j).white+(if j<c.length then s.left c i j * s.left c i j else 0)⟩))
def Bill.pressN(s:Bill)(c:List Ent):Nat→Nat→Press
 | 0,_=>⟨[],0⟩
 | f+1,i=>if i=c.length then⟨[],0⟩else match s.pressTo c (s.pressN c f) i (c.length-i) (i+1) none with
  | none=>⟨[],0⟩
  | some p=>p
def Bill.press(s:Bill)(c:List Ent)(i:Nat):Press:=s.pressN c (c.length-i) i
def Bill.fullTo(s:Bill)(c:List Ent)(i:Nat):Nat→Nat→Nat
 | 0,j=>j
 | f+1,j=>if j<c.length∧0≤s.left c i (j+1)then s.fullTo c i f (j+1)else j
def Bill.fullN(s:Bill)(c:List Ent):Nat→Nat→Nat
 | 0,_=>0
 | f+1,i=>if i<c.length then s.fullN c f (s.fullTo c i c.length (i+1))+1 else 0
def Bill.few(s:Bill)(c:List Ent):Nat:=s.fullN c c.length 0
end Go.Proofs.YtgncapdjheghfaaGreatDoor
namespace Go.Proofs.YtgncapdjheghfaaGreatDoor
open Go.Am Go.Proofs Go Go.ChangeShapes Go.WideShapes Go.RowKit
def LP:List Int:=[0,1,28,2,29,14,24,3,30,22,20,15,25,17,4,8,31,27,13,23,21,19,16,7,26,12,18,6,11,5,10,9]
def LQ:List Int:=[0,1,56,2,57,49,28,3,61,58,42,50,38,29,17,4,62,47,59,36,45,43,51,22,53,39,33,30,24,18,12,5,63,55,48,27,60,41,37,16,46,35,44,21,52,32,23,11,54,26,40,15,34,20,31,10,25,14,19,9,13,8,7,6]
def LR:List Int:=[1,10,100,1000,10000,100000,1000000,10000000,100000000,1000000000,10000000000,100000000000,1000000000000,10000000000000,100000000000000,1000000000000000,10000000000000000,100000000000000000,1000000000000000000,10000000000000000000]
theorem vE{L:List (String×DataW Unit)}{W:World}(_h:laidMetH Tryz.prog L W):jM W (BU W):=by
 intro g cs hg
 unfold vD E9 at hg
 cases hg
section
variable {H:Type} {enc:TypeId×Value→H} {W:World} {sp:Nat→Bool} {held:Bool}
def IA(b:Nat)(f:Fig):Prop:=f.name.size≤b∧f.role.size≤b
def lfF:List Lf:=[.str,.str,.int .i64,.int .i64]
def lfE:List Lf:=[.int .i64,.int .i64,.int .i64]
theorem Iw(b:Nat)(vs:List Value)(h:Fit b lfF vs):∃y:Fig,(dS y).cells=vs.map .v∧IA b y:=by
 match vs,h with
 | [.string s,.string u,.int k1 a,.int k2 c],h =>
  obtain⟨h0,h1,⟨rfl,_⟩,⟨rfl,_⟩,_⟩:=h
  exact⟨⟨s,u,a,c⟩,rfl,h0,h1⟩
theorem Il(b:Nat)(vs:List Value)(h:Fit b lfE vs):∃y:Ent,(bB y).cells=vs.map .v∧True:=by
 match vs,h with
 | [.int k0 s,.int k1 a,.int k2 c],h =>
  obtain⟨⟨rfl,_⟩,⟨rfl,_⟩,⟨rfl,_⟩,_⟩:=h
  exact⟨⟨s,a,c⟩,rfl,trivial⟩
theorem BD(b:Nat)(vs:List Value)(h:Fit b [.int .i64] vs):∃y:Int,(aj y).cells=vs.map .v∧True:=by
 match vs,h with
 | [.int k m],h =>
  obtain⟨⟨rfl,_⟩,_⟩:=h
  exact⟨m,rfl,trivial⟩
theorem IG:fj Tryz.prog 6 74=some lfF:=by kernel_rfl
theorem IF:fj Tryz.prog 6 55=some lfE:=by kernel_rfl
theorem BM:fj Tryz.prog 6 3=some [.int .i64]:=by kernel_rfl
theorem IH:fj Tryz.prog 6 9=some [.str]:=by kernel_rfl
theorem Kj:Tryz.prog.cellsOf 74=lfF.length:=by kernel_rfl
theorem Ki:Tryz.prog.cellsOf 55=lfE.length:=by kernel_rfl
theorem K7:Tryz.prog.cellTypes Tryz.prog.depth 25=some [3,22,23]:=by kernel_rfl
theorem Ij:Tryz.prog.cellsOf 25=3:=by kernel_rfl
theorem Bb:Tryz.prog.cellsOf 3=1:=by kernel_rfl
theorem Ih:Tryz.prog.cellsOf 22=1:=by kernel_rfl
theorem Ii:Tryz.prog.cellsOf 23=1:=by kernel_rfl
theorem K1{α:Type}{l:List α}(h:l.length=3):∃a b c,l=[a,b,c] :=
 match l,h with
 | [a,b,c],_=>⟨a,b,c,rfl⟩
set_option maxRecDepth 100000 in
theorem oR{r:Reach}{b0:Nat}{v:Value}{d:DataW H}{ps:List MemPlace}(hk:Value.okWide Tryz.prog W r b0 25 v)(h:DataW.Trod enc Tryz.prog W 0 sp held 25 v d ps) :
  ∃s:Bill,(s.figs.length≤Rows.uptoBulk d∧s.truths.length≤Rows.uptoBulk d∧∀f∈s.figs,f.name.size≤Rows.uptoBulk d∧f.role.size≤Rows.uptoBulk d)∧PRel W (BU W) (aI s) v:=by
 simp only[Value.okWide,Tryz.underlying25]at hk
 obtain⟨vs,rfl,hsz,ts,hts,_,hcell⟩:=hk
 rw[K7]at hts
 simp only[Option.some.injEq]at hts
 subst hts
 rw[Ij]at hsz
 obtain⟨fuel,hf⟩:=h
 obtain⟨l⟩:=vs
 obtain⟨c0,c1,c2,rfl⟩:=K1 (by simpa using hsz)
 obtain⟨xs,n,rfl,e,hl,hx,hfs⟩:=DataW.trod_struct Tryz.underlying25 hf
 obtain⟨x0,x1,x2,rfl⟩:=K1 hx
 have h0:DataW.trod enc Tryz.prog W 0 sp held n 3 (([c0,c1,c2].drop 0).take (Tryz.prog.cellsOf 3))=some x0:=hfs 0 _ rfl
 have h1:DataW.trod enc Tryz.prog W 0 sp held n 22 (([c0,c1,c2].drop 1).take (Tryz.prog.cellsOf 22))=some x1:=hfs 1 _ rfl
 have h2:DataW.trod enc Tryz.prog W 0 sp held n 23 (([c0,c1,c2].drop 2).take (Tryz.prog.cellsOf 23))=some x2:=hfs 2 _ rfl
 rw[Bb]at h0
 rw[Ih]at h1
 rw[Ii]at h2
 obtain⟨u1,hu1,k1⟩:=hcell 1 c1 rfl
 obtain⟨u2,hu2,k2⟩:=hcell 2 c2 rfl
 simp at hu1 hu2
 subst hu1 hu2
 obtain⟨m,e2,rfl,hw⟩:=DataW.trod_int Tryz.underlying3 h0
 obtain⟨fs,a1,a2,a3,a4⟩:=lZ (A:=dS) (good:=IA) Tryz.underlying22 Kj IG Iw (fun b b' y h g=>⟨Nat.le_trans g.1 h,Nat.le_trans g.2 h⟩) k1 h1
 obtain⟨is,b1,b2,b3,b4⟩:=lZ (ls:=[.int .i64]) (A:=aj) (good:=fun _ _=>True) Tryz.underlying23 Bb BM BD (fun _ _ _ _ g=>g) k2 h2
 simp at e2
 subst e2
 have hb:=qO ([(.lit (.int .i64 m),[]),x1,x2].map (·.1))
 have p1:=cl (d:=x1.1) (l:=[(.lit (.int .i64 m),[]),x1,x2].map (·.1)) (by simp)
 have p2:=cl (d:=x2.1) (l:=[(.lit (.int .i64 m),[]),x1,x2].map (·.1)) (by simp)
 simp only[Prod.mk.injEq]at e
 obtain⟨rfl,_⟩:=e
 refine⟨⟨m,fs,is⟩,⟨by simp only;omega,by simp only;omega,fun f hh=>by have:=a2 f hh;unfold IA at this;omega⟩,?_⟩
 refine PRel.agg rfl (fun i x y hx hy=>?_) (fun y hy=>?_)
 ·match i with
  | 0=>simp at hx hy;subst hx hy;exact .v _
  | 1=>simp at hx hy;subst hx hy;exact a3
  | 2=>simp at hx hy;subst hx hy;exact b3
  | i+3=>simp at hx
 ·simp at hy
  rcases hy with rfl|rfl|rfl
  ·rfl
  ·exact a4
  ·exact b4
set_option maxRecDepth 100000 in
theorem sx{r:Reach}{b0:Nat}{v:Value}{d:DataW H}{ps:List MemPlace}(hk:Value.okWide Tryz.prog W r b0 26 v)(h:DataW.Trod enc Tryz.prog W 0 sp held 26 v d ps) :
  ∃l:List Ent,l.length≤Rows.uptoBulk d∧PRel W (BU W) (aJ l) v:=by
 obtain⟨l,h1,_,h3⟩:=oT (A:=bB) (good:=fun _ _=>True) Tryz.underlying26 Ki IF Il (fun _ _ _ _ g=>g) hk h
 exact⟨l,h1,h3⟩
set_option maxRecDepth 100000 in
theorem BE{r:Reach}{b0:Nat}{v:Value}{d:DataW H}{ps:List MemPlace}(hk:Value.okWide Tryz.prog W r b0 23 v)(h:DataW.Trod enc Tryz.prog W 0 sp held 23 v d ps) :
  ∃l:List Int,l.length≤Rows.uptoBulk d∧PRel W (BU W) (aD l) v:=by
 obtain⟨l,h1,_,h3⟩:=oT (ls:=[.int .i64]) (A:=aj) (good:=fun _ _=>True) Tryz.underlying23 Bb BM BD (fun _ _ _ _ g=>g) hk h
 exact⟨l,h1,h3⟩
set_option maxRecDepth 100000 in
theorem FQ{r:Reach}{b0:Nat}{v:Value}{d:DataW H}{ps:List MemPlace}(hk:Value.okWide Tryz.prog W r b0 9 v)(h:DataW.Trod enc Tryz.prog W 0 sp held 9 v d ps) :
  ∃s:ByteArray,v = .string s∧s.size≤Rows.uptoBulk d:=by
 have f:=E8 IH h
 cases v with
 | string s=>exact⟨s,rfl,f.1⟩
 | int k n=>exact absurd f.1 (fun h=>h)
 | bool b=>exact absurd f.1 (fun h=>h)
 | _=>simp[Value.okWide,Tryz.underlying9,Cell.okWide,Cell.ok]at hk
theorem K9{n:Int}(h:(Lit.int .u8 n).wf=true):0≤n∧n≤255:=bounds_u8 h
def u8V(n:Int):AV:= .v (.int .u8 n)
theorem K8(b:Nat)(vs:List Value)(h:Fit b [.int .u8] vs):∃y:Int,(u8V y).cells=vs.map .v∧(0≤y∧y≤255):=by
 match vs,h with
 | [.int k m],h =>
  obtain⟨⟨rfl,w⟩,_⟩:=h
  exact⟨m,rfl,K9 w⟩
theorem II:fj Tryz.prog 6 5=some [.int .u8]:=by kernel_rfl
theorem Kk:Tryz.prog.cellsOf 5=1:=by kernel_rfl
set_option maxRecDepth 100000 in
theorem Gl{r:Reach}{b0:Nat}{v:Value}{d:DataW H}{ps:List MemPlace}(hk:Value.okWide Tryz.prog W r b0 63 v)(h:DataW.Trod enc Tryz.prog W 0 sp held 63 v d ps) :
  ∃l:List Int,l.length≤Rows.uptoBulk d∧(∀y∈l,0≤y∧y≤255)∧PRel W (BU W) (.slice 1 (l.map u8V) .no) v:=by
 obtain⟨l,h1,h2,h3⟩:=oT (ls:=[.int .u8]) (A:=u8V) (good:=fun _ y=>0≤y∧y≤255) Tryz.underlying63 Kk II K8 (fun _ _ _ _ g=>g) hk h
 exact⟨l,h1,h2,h3⟩
end
end Go.Proofs.YtgncapdjheghfaaGreatDoor
namespace Go.Proofs.YtgncapdjheghfaaGreatDoor
open Go.Am Go.Proofs Go
theorem fB{α:Type}(g:Nat→α→Int):∀(l:List α) (i:Nat),(a6 g i l).2=0→∀j x,l[j]?=some x→g (i+j) x=0
 | [],i,h,j,x,hx=>by simp at hx
 | y::l,i,h,j,x,hx=>by
  simp only[a6]at h
  by_cases hy:g i y=0
  ·rw[if_pos hy]at h
   cases j with
   | zero=>simp at hx;subst hx;exact hy
   | succ j =>
    have:=fB g l (i+1) h j x (by simpa using hx)
    rwa [show i+(j+1)=i+1+j by omega]
  ·rw[if_neg hy]at h;exact absurd h hy
theorem bD(a b c:Int):(aW a b c=false)↔a≤c∧c≤b:=by
 unfold aW
 simp
theorem fY(n l m:Int):(bU n l m=true)↔l≤n∧n≤m:=by
 unfold bU
 simp
theorem iS(n l m:Int):bU n l m = !aW l m n:=by
 rw[Bool.eq_iff_iff];unfold bU aW;simp
structure Bill.Good (s:Bill):Prop where
 lines:14≤s.lines∧s.lines≤30
 len:s.figs.length≤6
 figs:∀f∈s.figs,(cp f.name=true∧cp f.role=true)∧(0≤f.room∧f.room≤9)∧1≤f.height∧f.height≤6
 apart:∀(i j:Nat) (f g:Fig),i<j→s.figs[i]?=some f→s.figs[j]?=some g→f.name≠g.name
 rooms:∀(i:Nat) (f g:Fig),s.figs[i]?=some f→s.figs[i+1]?=some g→f.room≤g.room
 lenT:1≤s.truths.length∧s.truths.length≤6
 truths:∀t∈s.truths,0≤t∧t<2^s.figs.length
 apartT:s.truths.Nodup
theorem y9{l:List Int}(h:∀(j:Nat) x,l[j]?=some x→(l.take j).any (fun y=>decide (y=x))=false):l.Nodup:=by
 unfold List.Nodup
 rw[List.pairwise_iff_getElem]
 intro i j hi hj hij e
 have:=h j l[j] (by simp[hj])
 rw[List.any_eq_false]at this
 refine this l[i] ?_ (by simp[e])
 rw[List.mem_take_iff_getElem]
 exact⟨i,by omega,rfl⟩
theorem Bill.good{s:Bill}(h:s.check.2.2=0):s.Good:=by
 unfold Bill.check at h
 split at h
 ·simp at h
 rename_i h1
 split at h
 ·simp at h
 rename_i h2
 split at h
 ·rename_i h3;exact absurd h h3
 rename_i h3
 split at h
 ·simp at h
 rename_i h4
 split at h
 ·rename_i h5;exact absurd h h5
 rename_i h5
 simp only[Bool.not_eq_true,bD]at h1 h4
 have hf:∀(j:Nat) x,s.figs[j]?=some x→fL (s.figs.take j) x=0:=fun j x hx=>by
  have:=fB _ s.figs 0 (by simpa[Bill.figsErr]using h3) j x hx
  rwa [Nat.zero_add]at this
 have ht:∀(j:Nat) x,s.truths[j]?=some x→cN s.figs.length (s.truths.take j) x=0:=fun j x hx=>by
  have:=fB _ s.truths 0 (by simpa[Bill.truthsErr]using h5) j x hx
  rwa [Nat.zero_add]at this
 have hf':∀(j:Nat) x,s.figs[j]?=some x→cp x.name=true∧(s.figs.take j).any (fun y=>decide (y.name=x.name))=false∧cp x.role=true∧(aW 0 9 x.room=false∧aW 1 6 x.height=false)∧dx (s.figs.take j) x=false:=by
  intro j x hx
  have:=hf j x hx
  unfold fL at this
  split at this
  ·omega
  rename_i q1
  split at this
  ·omega
  rename_i q2
  split at this
  ·omega
  rename_i q3
  split at this
  ·omega
  rename_i q4
  split at this
  ·omega
  rename_i q5
  simp only[Bool.not_eq_true,Bool.or_eq_false_iff]at q4
  exact⟨by simpa using q1,by simpa using q2,by simpa using q3,q4,by simpa using q5⟩
 refine⟨h1,by omega,?_,?_,?_,by omega,?_,?_⟩
 ·intro x hx
  obtain⟨i,hi⟩:=List.mem_iff_getElem?.1 hx
  obtain⟨q1,q2,q3,⟨q4,q4'⟩,q5⟩:=hf' i x hi
  exact⟨⟨q1,q3⟩,(bD ..).1 q4,(bD ..).1 q4'⟩
 ·intro i j f g hij hi hj e
  obtain⟨q1,q2,_⟩:=hf' j g hj
  rw[List.any_eq_false]at q2
  refine q2 f ?_ (by simp[e])
  obtain⟨hi1,hi2⟩:=List.getElem?_eq_some_iff.1 hi
  rw[List.mem_take_iff_getElem]
  have:=(List.getElem?_eq_some_iff.1 hj).1
  exact⟨i,by omega,hi2⟩
 ·intro i f g hi hj
  obtain⟨_,_,_,_,q5⟩:=hf' (i+1) g hj
  unfold dx at q5
  rw[List.take_add_one,hi]at q5
  simp at q5
  exact q5
 ·intro t ht'
  obtain⟨i,hi⟩:=List.mem_iff_getElem?.1 ht'
  have:=ht i t hi
  unfold cN at this
  split at this
  ·omega
  rename_i q
  simp only[Bool.not_eq_true,bD]at q
  omega
 ·refine y9 fun j x hx=>?_
  have:=ht j x hx
  unfold cN at this
  split at this
  ·omega
  split at this
  ·omega
  rename_i q
  exact Bool.eq_false_iff.2 q
theorem qw{h:Nat}(hh:h≤6):2^h≤64:=by
 have:=Nat.pow_le_pow_right (n:=2) (by omega) hh
 omega
theorem Bill.Good.lt{s:Bill}(hg:s.Good){t:Int}(h:t∈s.truths):0≤t∧t<64:=by
 obtain⟨a,b⟩:=hg.truths t h
 have:((2^s.figs.length:Nat):Int)≤64:=by exact_mod_cast qw hg.len
 rw[Int.natCast_pow]at this
 exact⟨a,by push_cast at this;omega⟩
theorem jm(i:Nat):∀(l:List Int) (x:Nat),(l.foldl (fun x t=>x&&&t.toNat) x).testBit i=(x.testBit i&&l.all (nv · i))
 | [],x=>by simp
 | t::l,x=>by
  simp only[List.foldl_cons,List.all_cons]
  rw[jm i l,Nat.testBit_and,Bool.and_assoc]
  rfl
theorem pG(i:Nat):∀(l:List Int) (x:Nat),(l.foldl (fun x t=>x|||t.toNat) x).testBit i=(x.testBit i||l.any (nv · i))
 | [],x=>by simp
 | t::l,x=>by
  simp only[List.foldl_cons,List.any_cons]
  rw[pG i l,Nat.testBit_or,Bool.or_assoc]
  rfl
theorem Eo{i:Nat}:(63:Nat).testBit i=decide (i<6):=by
 rw[show(63:Nat)=2^6-1 by rfl,Nat.testBit_two_pow_sub_one]
theorem jN(s:Bill)(i:Nat):s.allN.testBit i=(decide (i<6)&&s.inAll i):=by
 unfold Bill.allN Bill.inAll
 rw[jm,Eo]
theorem dm(s:Bill)(i:Nat):s.someN.testBit i=s.inSome i:=by
 unfold Bill.someN Bill.inSome
 rw[pG,Nat.zero_testBit,Bool.false_or]
theorem Hi{s:Bill}(hg:s.Good){t:Int}(h:t∈s.truths){i:Nat}(hi:s.figs.length≤i):nv t i=false:=by
 obtain⟨a,b⟩:=hg.truths t h
 unfold nv
 apply Nat.testBit_lt_two_pow
 have h2:((2^s.figs.length:Nat):Int)≤((2^i:Nat):Int):=by exact_mod_cast Nat.pow_le_pow_right (n:=2) (by omega) hi
 have h3:((2^s.figs.length:Nat):Int)=2^s.figs.length:=by push_cast;rfl
 omega
theorem eX{s:Bill}(hg:s.Good){i:Nat}(hi:s.inSome i=true):i<s.figs.length:=by
 rcases Nat.lt_or_ge i s.figs.length with h|h
 ·exact h
 ·unfold Bill.inSome at hi
  obtain⟨t,ht,hb⟩:=List.any_eq_true.1 hi
  rw[Hi hg ht h]at hb
  simp at hb
theorem pN{s:Bill}(hg:s.Good){i:Nat}(hi:s.inAll i=true):s.inSome i=true:=by
 unfold Bill.inAll at hi
 unfold Bill.inSome
 cases ht:s.truths with
 | nil=>have:=hg.lenT;rw[ht]at this;simp at this
 | cons t l =>
  rw[ht,List.all_cons,Bool.and_eq_true]at hi
  rw[List.any_cons,hi.1,Bool.true_or]
theorem FM{s:Bill}(hg:s.Good):s.someN<2^s.figs.length:=by
 apply Nat.lt_pow_two_of_testBit
 intro i hi
 rw[dm]
 cases h:s.inSome i with
 | false=>rfl
 | true=>have:=eX hg h;omega
theorem ft{s:Bill}(hg:s.Good):s.someN<64:=by
 have:=FM hg
 have:=qw hg.len
 omega
theorem uM(s:Bill):s.allN<64:=by
 apply Nat.lt_pow_two_of_testBit (n:=6)
 intro i hi
 rw[jN,decide_eq_false (by omega),Bool.false_and]
theorem cF(a b:Nat):a&&&b=0↔∀i,¬(a.testBit i=true∧b.testBit i=true):=by
 constructor
 ·intro h i ⟨h1,h2⟩
  have:=congrArg (·.testBit i) h
  simp[h1,h2]at this
 ·intro h
  apply Nat.eq_of_testBit_eq
  intro i
  rw[Nat.testBit_and,Nat.zero_testBit]
  cases ha:a.testBit i with
  | false=>rfl
  | true=>cases hb:b.testBit i with
   | false=>rfl
   | true=>exact absurd ⟨ha,hb⟩ (h i)
theorem FU(s:Bill)(set:Int):s.sure set=true↔∀t∈s.truths,∃i,nv t i=true∧nv set i=true:=by
 unfold Bill.sure
 rw[Bool.not_eq_true',List.any_eq_false]
 constructor
 ·intro h t ht
  have:=h t ht
  simp only[decide_eq_true_eq]at this
  rw[cF]at this
  exact Classical.byContradiction fun h=>this fun i hi=>h ⟨i,hi⟩
 ·intro h t ht
  simp only[decide_eq_true_eq]
  rw[cF]
  obtain⟨i,hi⟩:=h t ht
  exact fun h=>h i hi
theorem gH(a i:Nat):(2^a).testBit i=decide (a=i):=by rw[Nat.testBit_two_pow]
theorem Db(s:Bill)(a b:Nat):s.sure ((2^a|||2^b:Nat):Int)=s.oneOf a b:=by
 rw[Bool.eq_iff_iff,FU]
 unfold Bill.oneOf
 rw[List.all_eq_true]
 refine⟨fun h t ht=>?_,fun h t ht=>?_⟩
 ·obtain⟨i,h1,h2⟩:=h t ht
  unfold nv at h2
  rw[Int.toNat_natCast,Nat.testBit_or,gH,gH,Bool.or_eq_true,decide_eq_true_eq,decide_eq_true_eq]at h2
  rw[Bool.or_eq_true]
  rcases h2 with rfl|rfl
  ·exact .inl h1
  ·exact .inr h1
 ·have:=h t ht
  rw[Bool.or_eq_true]at this
  rcases this with h|h
  ·exact⟨a,h,by unfold nv;rw[Int.toNat_natCast,Nat.testBit_or,gH];simp⟩
  ·exact⟨b,h,by unfold nv;rw[Int.toNat_natCast,Nat.testBit_or,gH b];simp⟩
end Go.Proofs.YtgncapdjheghfaaGreatDoor
namespace Go.Proofs.YtgncapdjheghfaaGreatDoor
open Go.Am Go.Proofs Go
def Bill.entry(s:Bill)(x:Ent):Bool :=
 if(bU x.a 0 (s.figs.length-1)&&bU x.b 0 (s.figs.length-1))=true then
  (if x.says=0 then decide (x.b=0)&&s.inAll x.a.toNat else if x.says=1 then decide (x.a<x.b)&&(decide (x.a≠x.b)&&decide (s.roomAt x.a=s.roomAt x.b)&& !s.inAll x.a.toNat&& !s.inAll x.b.toNat&&s.oneOf x.a.toNat x.b.toNat)
   else if x.says=2 then decide (x.b=0)&& !s.inAll x.a.toNat&&s.inSome x.a.toNat else false)
 else false
def Ent.who(x:Ent):List Int:=if x.says=1 then [x.a,x.b]else [x.a]
def bC(c:List Ent):List Int:=c.flatMap Ent.who
def k7(n:Int)(l:List Int):Bool:=l.any (fun x=>decide (x=n))
theorem nf{n:Int}{l:List Int}:k7 n l=true↔n∈l:=by
 unfold k7;rw[List.any_eq_true];constructor
 ·rintro⟨x,hx,h⟩;rw[decide_eq_true_eq]at h;subst h;exact hx
 ·intro h;exact⟨n,h,by simp⟩
def xl:Option Int→List Ent→Bool
 | _,[]=>true
 | none,x::l=>xl (some x.a) l
 | some p,x::l=>decide (p<x.a)&&xl (some x.a) l
def qU:List Int→List Int→Bool
 | _,[]=>true
 | before,x::l=> !k7 x before&&qU (before++[x]) l
def Bill.valid(s:Bill)(c:List Ent):Bool :=
 decide (c.length≤s.figs.length)&&(c.all s.entry&&xl none c)&&qU [] (bC c)&&(List.range s.figs.length).all fun f=> !s.inSome f||k7 (f:Int) (bC c)
structure Bill.OkE (s:Bill) (x:Ent):Prop where
 says:x.says=0∨x.says=1∨x.says=2
 a:0≤x.a∧x.a<s.figs.length
 b:0≤x.b∧x.b<s.figs.length
 so:s.so x=true
theorem sw(s:Bill)(x:Ent):s.entry x=true↔s.OkE x:=by
 unfold Bill.entry
 constructor
 ·intro h
  split at h
  ·rename_i hr
   rw[Bool.and_eq_true,fY,fY]at hr
   split at h
   ·rename_i h0
    exact⟨.inl h0,by omega,by omega,by unfold Bill.so;rw[if_pos h0];exact h⟩
   ·rename_i h0
    split at h
    ·rename_i h1
     refine⟨.inr (.inl h1),by omega,by omega,?_⟩
     unfold Bill.so
     rw[if_neg h0,if_pos h1]
     simp only[Bool.and_eq_true]at h ⊢
     exact⟨h.1,h.2.1.1.1.2,⟨h.2.1.1.2,h.2.1.2⟩,h.2.2⟩
    ·rename_i h1
     split at h
     ·rename_i h2
      refine⟨.inr (.inr h2),by omega,by omega,?_⟩
      unfold Bill.so
      rw[if_neg h0,if_neg h1]
      simp only[Bool.and_eq_true]at h ⊢
      exact⟨h.1.1,h.2,h.1.2⟩
     ·simp at h
  ·simp at h
 ·rintro⟨hs,ha,hb,h⟩
  rw[if_pos (by rw[Bool.and_eq_true,fY,fY];omega)]
  unfold Bill.so at h
  split at h
  ·rename_i h0
   rw[if_pos h0];exact h
  ·rename_i h0
   rw[if_neg h0]
   split at h
   ·rename_i h1
    rw[if_pos h1]
    simp only[Bool.and_eq_true]at h ⊢
    have hl:=h.1
    rw[decide_eq_true_eq]at hl
    exact⟨h.1,⟨⟨⟨decide_eq_true (by omega),h.2.1⟩,h.2.2.1.1⟩,h.2.2.1.2⟩,h.2.2.2⟩
   ·rename_i h1
    rw[if_neg h1,if_pos (by omega)]
    simp only[Bool.and_eq_true]at h ⊢
    exact⟨⟨h.1,h.2.2⟩,h.2.1⟩
theorem Bill.OkE.lt{s:Bill}{x:Ent}(h:s.OkE x)(h1:x.says=1):x.a<x.b:=by
 have:=h.so
 unfold Bill.so at this
 rw[if_neg (by omega),if_pos h1,Bool.and_eq_true,decide_eq_true_eq]at this
 exact this.1
theorem bp(x:Ent)(i:Nat):x.named.testBit i=decide (i=x.a.toNat∨(x.says=1∧i=x.b.toNat)):=by
 unfold Ent.named
 by_cases h:x.says=1
 ·rw[if_pos h,Nat.testBit_or,gH,gH,Bool.eq_iff_iff]
  simp only[Bool.or_eq_true,decide_eq_true_eq,h,true_and]
  omega
 ·rw[if_neg h,gH,Bool.eq_iff_iff]
  simp only[decide_eq_true_eq,h,false_and,or_false]
  omega
theorem Bill.OkE.some{s:Bill}(hg:s.Good){x:Ent}(h:s.OkE x){i:Nat}(hi:x.named.testBit i=true):s.inSome i=true:=by
 rw[bp,decide_eq_true_eq]at hi
 have hso:=h.so
 unfold Bill.so at hso
 split at hso
 ·rename_i h0
  rw[Bool.and_eq_true]at hso
  rcases hi with rfl|⟨h1,_⟩
  ·exact pN hg hso.2
  ·omega
 ·split at hso
  ·rename_i h1
   simp only[Bool.and_eq_true,Bool.not_eq_true']at hso
   obtain⟨_,_,⟨na,nb⟩,ho⟩:=hso
   unfold Bill.inAll at na nb
   unfold Bill.oneOf at ho
   rw[List.all_eq_true]at ho
   rw[List.all_eq_false]at na nb
   unfold Bill.inSome
   rw[List.any_eq_true]
   rcases hi with rfl|⟨_,rfl⟩
   ·obtain⟨t,ht,hb⟩:=nb
    have:=ho t ht
    rw[Bool.or_eq_true]at this
    exact⟨t,ht,this.resolve_right hb⟩
   ·obtain⟨t,ht,ha⟩:=na
    have:=ho t ht
    rw[Bool.or_eq_true]at this
    exact⟨t,ht,this.resolve_left ha⟩
  ·rename_i h0 h1
   simp only[Bool.and_eq_true]at hso
   rcases hi with rfl|⟨h,_⟩
   ·exact hso.2.1
   ·exact absurd h h1
def Asc:Int→List Ent→Prop
 | _,[]=>True
 | p,x::l=>p<x.a∧Asc x.a l
theorem Asc.mono{p q:Int}(h:p≤q):∀{l:List Ent},Asc q l→Asc p l
 | [],_=>trivial
 | _::_,⟨h1,h2⟩=>⟨by omega,h2⟩
theorem Asc.all{p:Int}:∀{l:List Ent},Asc p l→∀x∈l,p<x.a
 | [],_,x,hx=>by simp at hx
 | y::l,⟨h1,h2⟩,x,hx=>by
  rcases List.mem_cons.1 hx with rfl|hx
  ·exact h1
  ·have:=Asc.all h2 x hx;omega
theorem r7:∀{l:List Ent} {p:Int},xl (some p) l=true↔Asc p l
 | [],p=>by simp[xl,Asc]
 | x::l,p=>by simp only[xl,Asc,Bool.and_eq_true,decide_eq_true_eq,r7]
theorem r6{l:List Ent}(h:∀x∈l,0≤x.a):xl none l=true↔Asc (-1) l:=by
 cases l with
 | nil=>simp[xl,Asc]
 | cons x l =>
  simp only[xl,Asc,r7]
  have:=h x (by simp)
  exact⟨fun h=>⟨by omega,h⟩,fun h=>h.2⟩
theorem Asc.len{n:Nat}:∀{l:List Ent} {p:Int},Asc p l→ -1≤p→p<n→(∀x∈l,x.a<n)→(l.length:Int)≤n-1-p
 | [],p,_,h0,h1,_=>by simp;omega
 | x::l,p,⟨h1,h2⟩,h0,hn,hl=>by
  have:=Asc.len h2 (by omega) (hl x (by simp)) fun y hy=>hl y (by simp[hy])
  simp only[List.length_cons]
  push_cast
  omega
def dY:List Ent→Nat
 | []=>0
 | x::l=>x.named|||dY l
def lm:Nat→List Ent→Prop
 | _,[]=>True
 | met,x::l=>met&&&x.named=0∧lm (met|||x.named) l
theorem gK:∀{l:List Ent} {met:Nat},lm met l↔(met&&&dY l=0∧lm 0 l)
 | [],met=>by simp[lm,dY]
 | x::l,met=>by
  have h1:=gK (l:=l) (met:=met|||x.named)
  have h2:=gK (l:=l) (met:=0|||x.named)
  simp only[lm,dY]
  rw[h1,h2]
  simp only[Nat.zero_and,Nat.zero_or,true_and]
  rw[cF,cF,cF,cF]
  simp only[Nat.testBit_or,Bool.or_eq_true]
  constructor
  ·rintro⟨a,b,c⟩
   refine⟨fun i hi=>?_,fun i hi=>b i ⟨.inr hi.1,hi.2⟩,c⟩
   rcases hi.2 with h|h
   ·exact a i ⟨hi.1,h⟩
   ·exact b i ⟨.inl hi.1,h⟩
  ·rintro⟨a,b,c⟩
   refine⟨fun i hi=>a i ⟨hi.1,.inl hi.2⟩,fun i hi=>?_,c⟩
   rcases hi.1 with h|h
   ·exact a i ⟨h,.inr hi.2⟩
   ·exact b i ⟨h,hi.2⟩
structure Bill.Cat (s:Bill) (p:Int) (c:List Ent):Prop where
 ok:∀x∈c,s.OkE x
 asc:Asc p c
 disj:lm 0 c
theorem lw{s:Bill}:∀(l:List Ent) (met:Nat) (last:Int), -1≤last→(s.holdsL l met last=true↔((∀x∈l,s.OkE x)∧Asc last l∧lm met l)∧met|||dY l=s.someN)
 | [],met,last,_=>by simp[Bill.holdsL,Asc,lm,dY]
 | x::l,met,last,hlast=>by
  unfold Bill.holdsL
  constructor
  ·intro h
   split at h
   ·simp at h
   rename_i h1
   split at h
   ·simp at h
   rename_i h2
   simp only[Bool.not_eq_true,Bool.or_eq_false_iff,bD,Bool.not_eq_false',decide_eq_false_iff_not,Decidable.not_not]at h1 h2
   obtain⟨a1,a2,a3⟩:=h1
   obtain⟨b1,b2⟩:=h2
   obtain⟨⟨k1,k2,k3⟩,k4⟩:=(lw l _ _ (by omega)).1 h
   refine⟨⟨fun y hy=>?_,⟨by omega,k2⟩,b2,k3⟩,by rw[←k4,dY,Nat.or_assoc]⟩
   rcases List.mem_cons.1 hy with rfl|hy
   ·exact⟨by omega,by omega,by omega,by simpa using b1⟩
   ·exact k1 y hy
  ·rintro⟨⟨k1,⟨k2,k3⟩,k4,k5⟩,k6⟩
   have ho:=k1 x (by simp)
   obtain⟨o1,o2,o3,o4⟩:=ho
   rw[if_neg,if_neg]
   ·exact(lw l _ _ (by omega)).2 ⟨⟨fun y hy=>k1 y (by simp[hy]),k3,k5⟩,by rw[←k6,dY,Nat.or_assoc]⟩
   ·rw[o4,k4];simp
   ·rw[Bool.not_eq_true]
    simp only[Bool.or_eq_false_iff,bD]
    omega
theorem jX{s:Bill}{c:List Ent}:s.holds c=true↔s.Cat (-1) c∧dY c=s.someN:=by
 unfold Bill.holds
 rw[lw _ _ _ (by omega),Nat.zero_or]
 exact⟨fun⟨⟨a,b,d⟩,e⟩=>⟨⟨a,b,d⟩,e⟩,fun⟨⟨a,b,d⟩,e⟩=>⟨⟨a,b,d⟩,e⟩⟩
theorem j8:∀(l:List Ent) (i:Nat),(∀x∈l,0≤x.a∧0≤x.b)→((dY l).testBit i=true↔(i:Int)∈bC l)
 | [],i,_=>by simp[dY,bC]
 | x::l,i,h=>by
  have ih:=j8 l i fun y hy=>h y (by simp[hy])
  obtain⟨h1,h2⟩:=h x (by simp)
  simp only[dY,Nat.testBit_or,Bool.or_eq_true,ih,bp,decide_eq_true_eq]
  show _↔(i:Int)∈(x::l).flatMap Ent.who
  rw[List.flatMap_cons,List.mem_append]
  refine or_congr ?_ Iff.rfl
  unfold Ent.who
  by_cases q:x.says=1
  ·rw[if_pos q];simp[q];omega
  ·rw[if_neg q];simp[q];omega
theorem nC:∀(l before:List Int),qU before l=true↔(∀x∈l,x∉before)∧l.Nodup
 | [],before=>by simp[qU]
 | x::l,before=>by
  simp only[qU,Bool.and_eq_true,Bool.not_eq_true',nC l,List.nodup_cons,List.mem_append,List.mem_cons,List.not_mem_nil,or_false]
  have hh:k7 x before=false↔x∉before:=by rw[←Bool.not_eq_true,nf]
  rw[hh]
  constructor
  ·rintro⟨a,b,c⟩
   refine⟨fun y hy=>?_,fun h=>b x h (.inr rfl),c⟩
   rcases hy with rfl|hy
   ·exact a
   ·exact fun h=>b y hy (.inl h)
  ·rintro⟨a,b,c⟩
   refine⟨a x (.inl rfl),fun y hy h=>?_,c⟩
   rcases h with h|rfl
   ·exact a y (.inr hy) h
   ·exact b hy
theorem ln{s:Bill}:∀{l:List Ent},(∀x∈l,s.OkE x)→(lm 0 l↔(bC l).Nodup)
 | [],_=>by simp[lm,bC]
 | x::l,h=>by
  have hx:=h x (by simp)
  have hl:∀y∈l,s.OkE y:=fun y hy=>h y (by simp[hy])
  have ih:=ln hl
  have hbit:=fun i=>j8 l i fun y hy=>⟨(hl y hy).a.1,(hl y hy).b.1⟩
  have hin:∀z,z∈bC l→0≤z:=by
   intro z hz
   obtain⟨y,hy,hz⟩:=List.mem_flatMap.1 hz
   unfold Ent.who at hz
   have:=(hl y hy).a
   have:=(hl y hy).b
   split at hz<;>simp at hz<;>omega
  simp only[lm,Nat.zero_and,true_and,Nat.zero_or]
  rw[gK,ih,cF]
  show _↔((x::l).flatMap Ent.who).Nodup
  rw[List.flatMap_cons,List.nodup_append]
  have hw:(∀i,¬(x.named.testBit i=true∧(dY l).testBit i=true))↔∀z∈x.who,∀y∈bC l,z≠y:=by
   constructor
   ·intro hh z hz y hy e
    subst e
    have h0:=hin z hy
    refine hh z.toNat ⟨?_,(hbit _).2 (by rw[show((z.toNat:Nat):Int)=z by omega];exact hy)⟩
    rw[bp,decide_eq_true_eq]
    unfold Ent.who at hz
    split at hz
    ·rename_i q
     simp at hz
     rcases hz with rfl|rfl
     ·exact .inl rfl
     ·exact .inr ⟨q,rfl⟩
    ·simp at hz;subst hz;exact .inl rfl
   ·intro hh i ⟨h1,h2⟩
    rw[bp,decide_eq_true_eq]at h1
    have h2:=(hbit i).1 h2
    refine hh i ?_ i h2 rfl
    unfold Ent.who
    have:=hx.a
    have:=hx.b
    rcases h1 with h1|⟨q,h1⟩
    ·split<;>simp<;>omega
    ·rw[if_pos q];simp;omega
  rw[hw]
  have hd:(x.who).Nodup:=by
   unfold Ent.who
   split
   ·rename_i q
    have:=hx.lt q
    simp;omega
   ·simp
  exact⟨fun⟨a,b⟩=>⟨hd,b,a⟩,fun⟨_,b,a⟩=>⟨a,b⟩⟩
theorem ta{s:Bill}(hg:s.Good):∀{l:List Ent},(∀x∈l,s.OkE x)→∀i,(dY l).testBit i=true→s.inSome i=true
 | [],_,i,h=>by simp[dY]at h
 | x::l,hl,i,h=>by
  simp only[dY,Nat.testBit_or,Bool.or_eq_true]at h
  rcases h with h|h
  ·exact(hl x (by simp)).some hg h
  ·exact ta hg (fun y hy=>hl y (by simp[hy])) i h
theorem xf{s:Bill}(hg:s.Good)(c:List Ent):s.valid c=s.holds c:=by
 rw[Bool.eq_iff_iff,jX]
 unfold Bill.valid
 simp only[Bool.and_eq_true,List.all_eq_true,decide_eq_true_eq,sw]
 constructor
 ·rintro⟨⟨⟨_,h1,h2⟩,h3⟩,h4⟩
  have h2:=(r6 fun x hx=>(h1 x hx).a.1).1 h2
  have h3:=((nC _ _).1 h3).2
  refine⟨⟨h1,h2,(ln h1).2 h3⟩,?_⟩
  apply Nat.eq_of_testBit_eq
  intro i
  rw[dm,Bool.eq_iff_iff]
  refine⟨ta hg h1 i,fun hi=>?_⟩
  have hl:=eX hg hi
  have:=h4 i (List.mem_range.2 hl)
  rw[hi]at this
  simp only[Bool.not_true,Bool.false_or]at this
  exact(j8 c i fun y hy=>⟨(h1 y hy).a.1,(h1 y hy).b.1⟩).2 (nf.1 this)
 ·rintro⟨⟨h1,h2,h3⟩,h4⟩
  refine⟨⟨⟨?_,h1,(r6 fun x hx=>(h1 x hx).a.1).2 h2⟩,(nC _ _).2 ⟨by simp,(ln h1).1 h3⟩⟩,?_⟩
  ·have:=h2.len (n:=s.figs.length) (by omega) (by omega) fun x hx=>(h1 x hx).a.2
   omega
  ·intro f hf
   cases hi:s.inSome f with
   | false=>rfl
   | true =>
    rw[←dm, ←h4]at hi
    exact nf.2 ((j8 c f fun y hy=>⟨(h1 y hy).a.1,(h1 y hy).b.1⟩).1 hi)
end Go.Proofs.YtgncapdjheghfaaGreatDoor
namespace Go.Proofs.YtgncapdjheghfaaGreatDoor
open Go.Am Go.Proofs Go
theorem cH(l m i:Nat)(hl:l<64):(bc l m).testBit i=(l.testBit i&& !m.testBit i):=by
 unfold bc
 rw[Nat.testBit_and,Nat.testBit_xor,Eo]
 by_cases hi:i<6
 ·rw[decide_eq_true hi,Bool.true_xor]
 ·have:l.testBit i=false:=Nat.testBit_lt_two_pow (Nat.lt_of_lt_of_le hl (by have:=Nat.pow_le_pow_right (n:=2) (by omega) (show 6≤i by omega);omega))
  rw[this,Bool.false_and,Bool.false_and]
theorem iF{l m:Nat}(hl:l<64):bc l m<64:=Nat.lt_of_le_of_lt Nat.and_le_left hl
def xh(a left:Nat):Prop:=∀i,left.testBit i=true→a≤i
theorem xh.next{a left:Nat}(h:xh a left)(hb:left.testBit a=false):xh (a+1) left:=fun i hi=>by
 have:=h i hi
 rcases Nat.lt_or_ge a i with h|h
 ·exact h
 ·obtain rfl:i=a:=by omega
  rw[hb]at hi;simp at hi
theorem xh.zero{a left:Nat}(h:xh a left)(hl:left<64)(ha:6≤a):left=0:=by
 apply Nat.eq_of_testBit_eq
 intro i
 rw[Nat.zero_testBit]
 cases hb:left.testBit i with
 | false=>rfl
 | true =>
  have:=h i hb
  have:left.testBit i=false:=Nat.testBit_lt_two_pow (Nat.lt_of_lt_of_le hl (by have:=Nat.pow_le_pow_right (n:=2) (by omega) (show 6≤i by omega);omega))
  rw[this]at hb;simp at hb
theorem Jw(m left:Nat):m&&&left=m↔∀i,m.testBit i=true→left.testBit i=true:=by
 constructor
 ·intro h i hi
  have:=congrArg (·.testBit i) h
  simp only[Nat.testBit_and,hi,Bool.true_and]at this
  exact this
 ·intro h
  apply Nat.eq_of_testBit_eq
  intro i
  rw[Nat.testBit_and]
  cases hm:m.testBit i with
  | false=>rfl
  | true=>rw[h i hm];rfl
theorem dM{s:Bill}{a:Nat}{x:Ent}:x∈s.tries a↔(x.says=0∨x.says=1∨x.says=2)∧x.a=a∧0≤x.b∧x.b<s.figs.length:=by
 unfold Bill.tries
 rw[List.mem_flatMap]
 constructor
 ·rintro⟨k,hk,h⟩
  obtain⟨b,hb,rfl⟩:=List.mem_map.1 h
  have:=List.mem_range.1 hk
  have:=List.mem_range.1 hb
  refine⟨?_,rfl,?_,?_⟩<;>simp only<;>omega
 ·obtain⟨k,y,b⟩:=x
  rintro⟨h1,h2,h3,h4⟩
  simp only at h1 h2 h3 h4
  refine⟨k.toNat,List.mem_range.2 (by omega),List.mem_map.2 ⟨b.toNat,List.mem_range.2 (by omega),?_⟩⟩
  simp only[Ent.mk.injEq]
  omega
theorem eL{s:Bill}{left:Nat}{x:Ent}:s.fitsIn left x=true↔s.so x=true∧∀i,x.named.testBit i=true→left.testBit i=true:=by
 unfold Bill.fitsIn
 rw[Bool.and_eq_true,decide_eq_true_eq,Jw]
theorem Cat.cons{s:Bill}{p:Int}{x:Ent}{c:List Ent}:s.Cat p (x::c)↔s.OkE x∧p<x.a∧s.Cat x.a c∧x.named&&&dY c=0:=by
 constructor
 ·rintro⟨h1,⟨h2,h3⟩,h4⟩
  simp only[lm,Nat.zero_and,true_and,Nat.zero_or]at h4
  obtain⟨h5,h6⟩:=gK.1 h4
  exact⟨h1 x (by simp),h2,⟨fun y hy=>h1 y (by simp[hy]),h3,h6⟩,h5⟩
 ·rintro⟨h1,h2,⟨h3,h4,h5⟩,h6⟩
  refine⟨fun y hy=>?_,⟨h2,h4⟩,?_⟩
  ·rcases List.mem_cons.1 hy with rfl|hy
   ·exact h1
   ·exact h3 y hy
  ·simp only[lm,Nat.zero_and,true_and,Nat.zero_or]
   exact gK.2 ⟨h6,h5⟩
theorem Cat.nil(s:Bill)(p:Int):s.Cat p []:=⟨by simp,trivial,trivial⟩
theorem xS{l m k:Nat}(hl:l<64):k=bc l m∧(∀i,m.testBit i=true→l.testBit i=true)↔m|||k=l∧m&&&k=0:=by
 rw[cF]
 constructor
 ·rintro⟨rfl,h⟩
  refine⟨Nat.eq_of_testBit_eq fun i=>?_,fun i hi=>?_⟩
  ·rw[Nat.testBit_or,cH _ _ _ hl]
   cases hm:m.testBit i with
   | false=>simp
   | true=>rw[h i hm];rfl
  ·rw[cH _ _ _ hl,hi.1]at hi
   simp at hi
 ·rintro⟨h1,h2⟩
  have hb:∀i,(m.testBit i||k.testBit i)=l.testBit i:=fun i=>by rw[←Nat.testBit_or,h1]
  refine⟨Nat.eq_of_testBit_eq fun i=>?_,fun i hi=>by rw[←hb,hi];rfl⟩
  rw[cH _ _ _ hl, ←hb]
  cases hm:m.testBit i with
  | false=>simp
  | true =>
   cases hk:k.testBit i with
   | false=>rfl
   | true=>exact absurd ⟨hm,hk⟩ (h2 i)
theorem B5{s:Bill}:∀{c:List Ent} {p:Int},s.Cat p c→∀i,(dY c).testBit i=true→p<i
 | [],p,_,i,h=>by simp[dY]at h
 | x::c,p,hc,i,h=>by
  obtain⟨h1,h2,h3,_⟩:=Cat.cons.1 hc
  simp only[dY,Nat.testBit_or,Bool.or_eq_true,bp,decide_eq_true_eq]at h
  have:=h1.a
  have:=h1.b
  rcases h with(h|⟨q,h⟩)|h
  ·omega
  ·have:=h1.lt q;omega
  ·have:=B5 h3 i h;omega
theorem jS{s:Bill}(hg:s.Good):∀(f a left:Nat) (c:List Ent),left<64→xh a left→6≤a+f→(c∈s.catsN f a left↔s.Cat ((a:Int)-1) c∧dY c=left)
 | 0,a,left,c,hl,hf,ha=>by
  have h0:=hf.zero hl (by omega)
  subst h0
  unfold Bill.catsN
  rw[if_pos rfl,List.mem_singleton]
  constructor
  ·rintro rfl;exact⟨Cat.nil ..,rfl⟩
  ·rintro⟨_,h⟩
   cases c with
   | nil=>rfl
   | cons x c =>
    have:=congrArg (·.testBit x.a.toNat) h
    simp[dY,bp]at this
 | f+1,a,left,c,hl,hf,ha=>by
  unfold Bill.catsN
  by_cases h0:left=0
  ·subst h0
   rw[if_pos rfl,List.mem_singleton]
   constructor
   ·rintro rfl;exact⟨Cat.nil ..,rfl⟩
   ·rintro⟨_,h⟩
    cases c with
    | nil=>rfl
    | cons x c =>
     have:=congrArg (·.testBit x.a.toNat) h
     simp[dY,bp]at this
  rw[if_neg h0]
  by_cases hb:left.testBit a=false
  ·rw[if_pos hb,jS hg f (a+1) left c hl (hf.next hb) (by omega)]
   constructor
   ·rintro⟨⟨h1,h2,h3⟩,h4⟩
    exact⟨⟨h1,h2.mono (by omega),h3⟩,h4⟩
   ·rintro⟨h1,h4⟩
    refine⟨⟨h1.ok,?_,h1.disj⟩,h4⟩
    cases c with
    | nil=>trivial
    | cons x c =>
     obtain⟨k1,k2,k3,_⟩:=Cat.cons.1 h1
     refine⟨?_,k3.asc⟩
     have:x.a.toNat≠a:=fun e=>by
      have:(dY (x::c)).testBit a=true:=by simp[dY,bp,e]
      rw[h4,hb]at this;simp at this
     have:=k1.a
     omega
  ·rw[if_neg hb,List.mem_flatMap]
   have hb:left.testBit a=true:=by simpa using hb
   constructor
   ·rintro⟨x,hx,hc⟩
    obtain⟨d,hd,rfl⟩:=List.mem_map.1 hc
    obtain⟨h1,h2⟩:=List.mem_filter.1 hx
    obtain⟨t1,t2,t3⟩:=dM.1 h1
    obtain⟨t4,t5⟩:=eL.1 h2
    have ha':a<s.figs.length∨s.figs.length≤a:=by omega
    have hxa:x.named.testBit a=true:=by rw[bp,t2];simp
    have hf':xh (a+1) (bc left x.named):=fun i hi=>by
     rw[cH _ _ _ hl,Bool.and_eq_true,Bool.not_eq_true']at hi
     have:=hf i hi.1
     rcases Nat.lt_or_ge a i with h|h
     ·exact h
     ·obtain rfl:i=a:=by omega
      rw[hxa]at hi;simp at hi
    obtain⟨k1,k2⟩:=(jS hg f (a+1) _ d (iF hl) hf' (by omega)).1 hd
    obtain⟨m1,m2⟩:=(xS hl).1 ⟨k2,t5⟩
    have hso:s.inSome a=true∨True:= .inr trivial
    have haf:(a:Int)<s.figs.length:=by
     have hn:=t4
     unfold Bill.so at hn
     rcases ha' with h|h
     ·omega
     ·exfalso
      have hna:s.inSome a=false:=by
       cases hq:s.inSome a with
       | false=>rfl
       | true=>have:=eX hg hq;omega
      have hnl:s.inAll a=false:=by
       cases hq:s.inAll a with
       | false=>rfl
       | true=>rw[pN hg hq]at hna;simp at hna
      rw[t2]at hn
      simp only[Int.toNat_natCast,hna,hnl]at hn
      split at hn
      ·simp at hn
      ·split at hn
       ·rw[Bool.and_eq_true,decide_eq_true_eq]at hn
        omega
       ·simp at hn
    refine⟨Cat.cons.2 ⟨⟨t1,by omega,t3,t4⟩,by omega,?_,m2⟩,m1⟩
    rw[t2]
    rw[show((a+1:Nat):Int)-1=(a:Int) by omega]at k1
    exact k1
   ·rintro⟨h1,h4⟩
    cases c with
    | nil=>simp[dY]at h4;rw[←h4]at hb;simp at hb
    | cons x c =>
     obtain⟨k1,k2,k3,k4⟩:=Cat.cons.1 h1
     have hxa:x.a=a:=by
      rw[←h4]at hb
      simp only[dY,Nat.testBit_or,Bool.or_eq_true,bp,decide_eq_true_eq]at hb
      have:=k1.a
      have:=k1.b
      rcases hb with(h|⟨q,h⟩)|h
      ·omega
      ·have:=k1.lt q;omega
      ·have:=B5 k3 a h;omega
     have hm:=(xS hl).2 ⟨h4,k4⟩
     have hxb:x.named.testBit a=true:=by rw[bp,hxa];simp
     have hf':xh (a+1) (bc left x.named):=fun i hi=>by
      rw[cH _ _ _ hl,Bool.and_eq_true,Bool.not_eq_true']at hi
      have:=hf i hi.1
      rcases Nat.lt_or_ge a i with h|h
      ·exact h
      ·obtain rfl:i=a:=by omega
       rw[hxb]at hi;simp at hi
     refine⟨x,List.mem_filter.2 ⟨dM.2 ⟨k1.says,hxa,k1.b⟩,eL.2 ⟨k1.so,hm.2⟩⟩,List.mem_map.2 ⟨c,?_,rfl⟩⟩
     refine(jS hg f (a+1) _ c (iF hl) hf' (by omega)).2 ⟨?_,hm.1⟩
     rw[show((a+1:Nat):Int)-1=(a:Int) by omega, ←hxa]
     exact k3
theorem iu{s:Bill}(hg:s.Good)(c:List Ent):c∈s.cats↔s.holds c=true:=by
 rw[jX]
 exact jS hg 6 0 s.someN c (ft hg) (fun i _=>Nat.zero_le i) (by omega)
def Bill.onE(s:Bill)(c:List Ent)(x:Ent):Bool:=s.entry x&&(decide (x.says≠1)|| !k7 x.b (bC c))
def Bill.onN(s:Bill):Nat→List Ent→Nat→List (List Ent)
 | 0,c,_=>[c]
 | f+1,c,a=>if(k7 (a:Int) (bC c)|| !s.inSome a)=true then s.onN f c (a+1)else((s.tries a).filter (s.onE c)).flatMap fun x=>s.onN f (c++[x]) (a+1)
def Bill.onA(s:Bill):List (List Ent):=s.onN s.figs.length [] 0
theorem xV{s:Bill}{c:List Ent}:∀(f a:Nat),(∀i,a≤i→(k7 (i:Int) (bC c)|| !s.inSome i)=true)→s.onN f c a=[c]
 | 0,a,_=>rfl
 | f+1,a,h=>by
  unfold Bill.onN
  rw[if_pos (h a (Nat.le_refl _))]
  exact xV f (a+1) fun i hi=>h i (by omega)
theorem rh(c:List Ent)(x:Ent):bC (c++[x])=bC c++x.who:=by unfold bC;rw[List.flatMap_append];simp
theorem qV{α:Type}{p q:α→Bool}{l:List α}(h:∀x∈l,p x=q x):l.filter p=l.filter q:=List.filter_congr h
theorem Ck{s:Bill}(hg:s.Good):∀(f f' a left:Nat) (c:List Ent),a+f=s.figs.length→6≤a+f'→left<64→xh a left→(∀i,left.testBit i=(s.inSome i&& !k7 (i:Int) (bC c))) →
  s.onN f c a=(s.catsN f' a left).map (c++ ·)
 | f,f',a,left,c,ha,hf6,hl,hfr,hb=>by
  by_cases h0:left=0
  ·subst h0
   have e:s.catsN f' a 0=[[]]:=by cases f'<;>simp[Bill.catsN]
   rw[e,xV f a fun i _=>by
    have:=hb i
    rw[Nat.zero_testBit]at this
    cases h1:s.inSome i with
    | false=>simp
    | true=>rw[h1,Bool.true_and]at this;simpa using this.symm]
   simp
  ·cases f with
   | zero =>
    exfalso
    apply h0
    apply Nat.eq_of_testBit_eq
    intro i
    rw[Nat.zero_testBit]
    cases h1:left.testBit i with
    | false=>rfl
    | true =>
     have h2:=hfr i h1
     rw[hb i,Bool.and_eq_true]at h1
     have:=eX hg h1.1
     omega
   | succ f =>
    have hlen:=hg.len
    obtain⟨g,rfl⟩:∃g,f'=g+1:=⟨f'-1,by omega⟩
    unfold Bill.onN Bill.catsN
    rw[if_neg h0]
    have hba:=hb a
    by_cases hbit:left.testBit a=false
    ·rw[if_pos hbit,if_pos]
     ·exact Ck hg f g (a+1) left c (by omega) (by omega) hl (hfr.next hbit) hb
     ·rw[hbit]at hba
      cases h1:s.inSome a with
      | false=>simp
      | true=>rw[h1,Bool.true_and]at hba;simpa using hba.symm
    ·have hbit:left.testBit a=true:=by simpa using hbit
     rw[hbit]at hba
     have hba:=hba.symm
     rw[Bool.and_eq_true,Bool.not_eq_true']at hba
     rw[if_neg (by rw[hba.1,hba.2];simp),if_neg (by rw[hbit];simp)]
     have hfil:(s.tries a).filter (s.onE c)=(s.tries a).filter (s.fitsIn left):=by
      refine qV fun x hx=>?_
      obtain⟨t1,t2,t3⟩:=dM.1 hx
      rw[Bool.eq_iff_iff,eL]
      unfold Bill.onE
      rw[Bool.and_eq_true,sw,Bool.or_eq_true,decide_eq_true_eq,Bool.not_eq_true']
      constructor
      ·rintro⟨h1,h2⟩
       refine⟨h1.so,fun i hi=>?_⟩
       rw[hb i,h1.some hg hi,Bool.true_and,Bool.not_eq_true']
       rw[bp,decide_eq_true_eq,t2]at hi
       rcases hi with rfl|⟨q,rfl⟩
       ·exact hba.2
       ·have:=h2.resolve_left (by simp[q])
        rw[show((x.b.toNat:Nat):Int)=x.b by omega]
        exact this
      ·rintro⟨h1,h2⟩
       refine⟨⟨t1,?_,t3,h1⟩,?_⟩
       ·have:=eX hg hba.1;omega
       ·by_cases q:x.says=1
        ·right
         have:=h2 x.b.toNat (by rw[bp];simp[q])
         rw[hb,Bool.and_eq_true,Bool.not_eq_true',show((x.b.toNat:Nat):Int)=x.b by omega]at this
         exact this.2
        ·exact .inl q
     rw[hfil,List.map_flatMap]
     have hstep:∀x∈(s.tries a).filter (s.fitsIn left),s.onN f (c++[x]) (a+1)=((s.catsN g (a+1) (bc left x.named)).map (x:: ·)).map (c++ ·):=by
      intro x hx
      obtain⟨h1,h2⟩:=List.mem_filter.1 hx
      obtain⟨t1,t2,t3⟩:=dM.1 h1
      obtain⟨t4,t5⟩:=eL.1 h2
      have hxb:x.named.testBit a=true:=by rw[bp,t2];simp
      rw[Ck hg f g (a+1) (bc left x.named) (c++[x]) (by omega) (by omega) (iF hl) ?_ ?_,List.map_map]
      ·congr 1
       funext d
       simp
      ·intro i hi
       rw[cH _ _ _ hl,Bool.and_eq_true,Bool.not_eq_true']at hi
       have:=hfr i hi.1
       rcases Nat.lt_or_ge a i with h|h
       ·exact h
       ·obtain rfl:i=a:=by omega
        rw[hxb]at hi;simp at hi
      ·intro i
       have hw:k7 (i:Int) x.who=x.named.testBit i:=by
        rw[Bool.eq_iff_iff,nf,bp,decide_eq_true_eq]
        unfold Ent.who
        by_cases q:x.says=1
        ·rw[if_pos q];simp[q];omega
        ·rw[if_neg q];simp[q];omega
       rw[cH _ _ _ hl,hb i,rh]
       have:k7 (i:Int) (bC c++x.who)=(k7 (i:Int) (bC c)||k7 (i:Int) x.who):=by unfold k7;rw[List.any_append]
       rw[this,hw]
       cases s.inSome i<;>cases k7 (i:Int) (bC c)<;>simp
     rw[List.flatMap_def,List.flatMap_def]
     congr 1
     exact List.map_congr_left hstep
theorem Cj{s:Bill}(hg:s.Good):s.onA=s.cats:=by
 unfold Bill.onA Bill.cats
 rw[Ck hg s.figs.length 6 0 s.someN [] (by omega) (by omega) (ft hg) (fun i _=>Nat.zero_le i) (fun i=>by rw[dm];simp[bC,k7])]
 simp
theorem qT{s:Bill}(hg:s.Good):∀(f a left:Nat),left<64→xh a left→6≤a+f→(∀i,left.testBit i=true→s.inSome i=true)→s.catsN f a left≠[]
 | 0,a,left,hl,hf,ha,_=>by
  have h0:=hf.zero hl (by omega)
  subst h0
  simp[Bill.catsN]
 | f+1,a,left,hl,hf,ha,hs=>by
  unfold Bill.catsN
  split
  ·simp
  split
  ·rename_i hb
   exact qT hg f (a+1) left hl (hf.next hb) (by omega) hs
  ·rename_i hb
   have hb:left.testBit a=true:=by simpa using hb
   have hsa:=hs a hb
   have hla:=eX hg hsa
   obtain⟨x,h1,h2,h3⟩:∃x∈s.tries a,s.fitsIn left x=true∧x.named=2^a:=by
    cases hall:s.inAll a with
    | true =>
     refine⟨⟨0,a,0⟩,dM.2 ⟨.inl rfl,rfl,by simp;omega⟩,eL.2 ⟨by simp[Bill.so,hall],fun i hi=>?_⟩,by simp[Ent.named]⟩
     rw[bp]at hi
     simp at hi
     subst hi;exact hb
    | false =>
     refine⟨⟨2,a,0⟩,dM.2 ⟨.inr (.inr rfl),rfl,by simp;omega⟩,eL.2 ⟨by simp[Bill.so,hall,hsa],fun i hi=>?_⟩,by simp[Ent.named]⟩
     rw[bp]at hi
     simp at hi
     subst hi;exact hb
   have hf':xh (a+1) (bc left x.named):=fun i hi=>by
    rw[cH _ _ _ hl,Bool.and_eq_true,Bool.not_eq_true',h3,gH]at hi
    have:=hf i hi.1
    rcases Nat.lt_or_ge a i with h|h
    ·exact h
    ·obtain rfl:i=a:=by omega
     simp at hi
   have ih:=qT hg f (a+1) (bc left x.named) (iF hl) hf' (by omega) fun i hi=>by
    rw[cH _ _ _ hl,Bool.and_eq_true]at hi
    exact hs i hi.1
   obtain⟨c,hc⟩:=List.exists_mem_of_ne_nil _ ih
   intro he
   have:(x::c)∈((s.tries a).filter (s.fitsIn left)).flatMap fun x=>(s.catsN f (a+1) (bc left x.named)).map (x:: ·) :=
    List.mem_flatMap.2 ⟨x,List.mem_filter.2 ⟨h1,h2⟩,List.mem_map.2 ⟨c,hc,rfl⟩⟩
   rw[he]at this
   simp at this
theorem u4{s:Bill}(hg:s.Good):s.cats≠[]:=qT hg 6 0 s.someN (ft hg) (fun i _=>Nat.zero_le i) (by omega) fun i hi=>by rw[←dm];exact hi
end Go.Proofs.YtgncapdjheghfaaGreatDoor
namespace Go.Proofs.YtgncapdjheghfaaGreatDoor
open Go.Am Go.Proofs Go
theorem gd:∀{a b:List Int},cB a b=true→cB b a=false
 | [],[],h=>by simp[cB]at h
 | [],_::_,_=>rfl
 | _::_,[],h=>by simp[cB]at h
 | x::a,y::b,h=>by
  simp only[cB]at h ⊢
  split at h
  ·rename_i e
   rw[if_pos e.symm]
   exact gd h
  ·rename_i e
   rw[if_neg (fun h=>e h.symm)]
   simp at h ⊢
   omega
theorem fk:∀a:List Int,cB a a=false
 | []=>rfl
 | x::a=>by simp[cB,fk a]
theorem nU:∀{a b:List Int},cB a b=false→cB b a=false→a=b
 | [],[],_,_=>rfl
 | [],_::_,h,_=>by simp[cB]at h
 | _::_,[],_,h=>by simp[cB]at h
 | x::a,y::b,h,k=>by
  simp only[cB]at h k
  split at h
  ·rename_i e
   rw[if_pos e.symm]at k
   rw[e,nU h k]
  ·rename_i e
   rw[if_neg (fun h=>e h.symm)]at k
   simp at h k
   omega
theorem nV:∀{a b c:List Int},cB a b=true→cB b c=true→cB a c=true
 | [],_,[],h,k=>by rename_i b;cases b<;>simp[cB]at h k
 | [],_,_::_,_,_=>rfl
 | _::_,[],_,h,_=>by simp[cB]at h
 | _::_,_::_,[],_,k=>by simp[cB]at k
 | x::a,y::b,z::c,h,k=>by
  simp only[cB]at h k ⊢
  by_cases e1:x=y
  ·rw[if_pos e1]at h
   by_cases e2:y=z
   ·rw[if_pos e2]at k
    rw[if_pos (e1.trans e2)]
    exact nV h k
   ·rw[if_neg e2]at k
    rw[if_neg (by rw[e1];exact e2),e1]
    exact k
  ·rw[if_neg e1]at h
   by_cases e2:y=z
   ·rw[if_neg (by rw[←e2];exact e1), ←e2]
    exact h
   ·rw[if_neg e2]at k
    simp at h k
    rw[if_neg (by omega)]
    simp;omega
def vB(c:List Ent):List Int:=c.flatMap fun x=>[x.a,x.says,x.b]
def before(c d:List Ent):Bool:=cB (vB c) (vB d)
theorem iy(x:Ent)(c:List Ent):vB (x::c)=x.a::x.says::x.b::vB c:=by unfold vB;rw[List.flatMap_cons];rfl
def KA(x:Ent):List Int:=[x.says,x.b]
theorem uy(s:Bill)(a:Nat):(s.tries a).Pairwise fun x y=>cB (KA x) (KA y)=true:=by
 unfold Bill.tries
 rw[List.flatMap_def,List.pairwise_flatten]
 constructor
 ·intro l hl
  obtain⟨k,_,rfl⟩:=List.mem_map.1 hl
  rw[List.pairwise_map]
  refine List.Pairwise.imp ?_ List.pairwise_lt_range
  intro i j hij
  simp only[KA,cB,if_true]
  rw[if_neg (by omega)]
  simp;omega
 ·rw[List.pairwise_map]
  refine List.Pairwise.imp ?_ List.pairwise_lt_range
  intro i j hij x hx y hy
  obtain⟨b,_,rfl⟩:=List.mem_map.1 hx
  obtain⟨b',_,rfl⟩:=List.mem_map.1 hy
  simp only[KA,cB]
  rw[if_neg (by omega)]
  simp;omega
theorem gJ(s:Bill):∀(f a left:Nat),(s.catsN f a left).Pairwise fun c d=>before c d=true
 | 0,a,left=>by unfold Bill.catsN;split<;>simp
 | f+1,a,left=>by
  unfold Bill.catsN
  split
  ·simp
  split
  ·exact gJ s f (a+1) left
  ·rw[List.flatMap_def,List.pairwise_flatten]
   constructor
   ·intro l hl
    obtain⟨x,_,rfl⟩:=List.mem_map.1 hl
    rw[List.pairwise_map]
    refine List.Pairwise.imp ?_ (gJ s f (a+1) (bc left x.named))
    intro c d h
    unfold before at h ⊢
    rw[iy,iy]
    simp only[cB,if_true]
    exact h
   ·rw[List.pairwise_map]
    have hs:=(uy s a).sublist (List.filter_sublist (l:=s.tries a) (p:=s.fitsIn left))
    rw[List.pairwise_iff_forall_sublist]at hs ⊢
    intro x y hxy c hc d hd
    have hlt:=hs hxy
    have hx:=(List.mem_filter.1 (hxy.subset (by simp:x∈[x,y]))).1
    have hy:=(List.mem_filter.1 (hxy.subset (by simp:y∈[x,y]))).1
    obtain⟨c,_,rfl⟩:=List.mem_map.1 hc
    obtain⟨d,_,rfl⟩:=List.mem_map.1 hd
    unfold before
    rw[iy,iy,(dM.1 hx).2.1,(dM.1 hy).2.1]
    simp only[KA,cB]at hlt ⊢
    rw[if_pos trivial]
    split
    ·rename_i e
     rw[if_pos e]at hlt
     split at hlt
     ·simp at hlt
     ·rename_i e2
      rw[if_neg e2];exact hlt
    ·rename_i e
     rw[if_neg e]at hlt
     exact hlt
theorem u6(s:Bill):s.cats.Pairwise fun c d=>before c d=true:=gJ s 6 0 s.someN
def LeB(c d:List Ent):Prop:=dZ c<dZ d∨(dZ c=dZ d∧(d=c∨before c d=true))
theorem jf:∀(l:List (List Ent)) (b:List Ent),(b::l).Pairwise (fun c d=>before c d=true)→∃c,dg (some (b,(dZ b:Int))) l=some (c,(dZ c:Int))∧c∈b::l∧∀d∈b::l,LeB c d
 | [],b,_=>⟨b,rfl,by simp,fun d hd=>by simp at hd;subst hd;exact .inr ⟨rfl,.inl rfl⟩⟩
 | x::l,b,hp=>by
  obtain⟨hb,hx,hl⟩:(∀d∈x::l,before b d=true)∧(∀d∈l,before x d=true)∧l.Pairwise (fun c d=>before c d=true):=by
   rw[List.pairwise_cons,List.pairwise_cons]at hp
   exact⟨hp.1,hp.2.1,hp.2.2⟩
  unfold dg
  by_cases h:(dZ x:Int)<(dZ b:Int)
  ·rw[if_pos h]
   obtain⟨c,h1,h2,h3⟩:=jf l x (List.pairwise_cons.2 ⟨hx,hl⟩)
   refine⟨c,h1,List.mem_cons_of_mem _ h2,fun d hd=>?_⟩
   rcases List.mem_cons.1 hd with rfl|hd
   ·left
    rcases h3 x (by simp)with k|⟨k,_⟩<;>omega
   ·exact h3 d hd
  ·rw[if_neg h]
   obtain⟨c,h1,h2,h3⟩:=jf l b (List.pairwise_cons.2 ⟨fun d hd=>hb d (by simp[hd]),hl⟩)
   refine⟨c,h1,?_,fun d hd=>?_⟩
   ·rcases List.mem_cons.1 h2 with rfl|h2
    ·simp
    ·simp[h2]
   ·rcases List.mem_cons.1 hd with rfl|hd
    ·exact h3 d (by simp)
    rcases List.mem_cons.1 hd with rfl|hd
    ·rcases List.mem_cons.1 h2 with rfl|hc
     ·by_cases e:dZ c=dZ d
      ·exact .inr ⟨e,.inr (hb d (by simp))⟩
      ·left;omega
     ·left
      have hbc:=hb c (by simp[hc])
      rcases h3 b (by simp)with k|⟨k,rfl|k2⟩
      ·omega
      ·unfold before at hbc;rw[fk]at hbc;simp at hbc
      ·have:=gd (show cB (vB b) (vB c)=true from hbc)
       unfold before at k2;rw[this]at k2;simp at k2
    ·exact h3 d (by simp[hd])
theorem LeB.not{c d:List Ent}(h:LeB c d):dZ c≤dZ d∧(dZ c=dZ d→before d c=false):=by
 rcases h with h|⟨h,rfl|h2⟩
 ·exact⟨by omega,fun e=>by omega⟩
 ·exact⟨by omega,fun _=>fk _⟩
 ·exact⟨by omega,fun _=>gd h2⟩
theorem r9{s:Bill}(hg:s.Good):∃c,dg none s.cats=some (c,(dZ c:Int))∧s.holds c=true∧∀d,s.holds d=true→LeB c d:=by
 have hne:=u4 hg
 have hs:=u6 s
 have hi:=fun c=>iu hg c
 cases hc:s.cats with
 | nil=>exact absurd hc hne
 | cons b l =>
  rw[hc]at hs
  obtain⟨c,h1,h2,h3⟩:=jf l b hs
  refine⟨c,h1,(hi c).1 (by rw[hc];exact h2),fun d hd=>h3 d ?_⟩
  rw[←hc]
  exact(hi d).2 hd
end Go.Proofs.YtgncapdjheghfaaGreatDoor
namespace Go.Proofs.YtgncapdjheghfaaGreatDoor
open Go.Am Go.Proofs Go
theorem yN(i:Int)(a b:List Int):ex (i::a) (i::b)=ex a b:=by
 unfold ex
 simp only[List.length_cons,Nat.add_right_cancel_iff,cB,if_true,Nat.add_lt_add_iff_right]
theorem sC(a:List Int):ex a a=false:=by unfold ex;rw[if_pos rfl,fk]
theorem vj{a b:List Int}(h:ex a b=true):ex b a=false:=by
 unfold ex at *
 split at h
 ·rename_i e
  rw[if_pos e.symm]
  exact gd h
 ·rename_i e
  rw[if_neg (fun h=>e h.symm)]
  simp at h ⊢
  omega
theorem vk{a b:List Int}(h:ex a b=false)(k:ex b a=false):a=b:=by
 unfold ex at *
 split at h
 ·rename_i e
  rw[if_pos e.symm]at k
  exact nU h k
 ·rename_i e
  rw[if_neg (fun h=>e h.symm)]at k
  simp at h k
  omega
theorem vl{a b c:List Int}(h:ex a b=true)(k:ex b c=true):ex a c=true:=by
 unfold ex at *
 by_cases e1:a.length=b.length
 ·rw[if_pos e1]at h
  by_cases e2:b.length=c.length
  ·rw[if_pos e2]at k
   rw[if_pos (e1.trans e2)]
   exact nV h k
  ·rw[if_neg e2]at k
   rw[if_neg (by omega)]
   simp at k ⊢;omega
 ·rw[if_neg e1]at h
  by_cases e2:b.length=c.length
  ·rw[if_neg (by omega)]
   simp at h ⊢;omega
  ·rw[if_neg e2]at k
   simp at h k
   rw[if_neg (by omega)]
   simp;omega
theorem fy(p:Press):bq p p=false:=by unfold bq;rw[if_neg (by simp),sC]
theorem qK{p q:Press}(h:bq p q=true):bq q p=false:=by
 unfold bq at *
 split at h
 ·rename_i e
  rw[if_pos (fun h=>e h.symm)]
  simp at h ⊢;omega
 ·rename_i e
  rw[if_neg (fun h=>e (fun k=>h k.symm))]
  exact vj h
theorem jO{p q:Press}(h:bq p q=false)(k:bq q p=false):p=q:=by
 unfold bq at *
 split at h
 ·rename_i e
  rw[if_pos (fun h=>e h.symm)]at k
  simp at h k;omega
 ·rename_i e
  have e:p.white=q.white:=Decidable.not_not.1 e
  rw[if_neg (by rw[e];simp)]at k
  obtain⟨a,b⟩:=p
  obtain⟨c,d⟩:=q
  simp only at e h k
  rw[e,vk h k]
theorem qL{p q r:Press}(h:bq p q=true)(k:bq q r=true):bq p r=true:=by
 unfold bq at *
 by_cases e1:p.white=q.white
 ·rw[if_neg (by simp[e1])]at h
  by_cases e2:q.white=r.white
  ·rw[if_neg (by simp[e2])]at k
   rw[if_neg (by simp[e1,e2])]
   exact vl h k
  ·rw[if_pos e2]at k
   rw[if_pos (by rw[e1];exact e2),e1];exact k
 ·rw[if_pos e1]at h
  by_cases e2:q.white=r.white
  ·rw[if_pos (by rw[←e2];exact e1), ←e2];exact h
  ·rw[if_pos e2]at k
   simp at h k
   rw[if_pos (by omega)]
   simp;omega
def LeP(p q:Press):Prop:=bq q p=false
theorem LeP.refl(p:Press):LeP p p:=fy p
theorem LeP.trans{p q r:Press}(h:LeP p q)(k:LeP q r):LeP p r:=by
 unfold LeP at *
 cases h1:bq r p with
 | false=>rfl
 | true =>
  cases h2:bq p q with
  | true=>rw[qL h1 h2]at k;simp at k
  | false=>have:=jO h2 h;subst this;rw[h1]at k;simp at k
theorem LeP.antisymm{p q:Press}(h:LeP p q)(k:LeP q p):p=q:=jO k h
theorem x6(b x:Press):LeP (db (some b) x) b∧LeP (db (some b) x) x:=by
 unfold db LeP
 simp only
 by_cases h:bq x b=true
 ·rw[if_pos h];exact⟨qK h,fy x⟩
 ·rw[if_neg h];exact⟨fy b,Bool.eq_false_iff.2 h⟩
theorem x7(b x:Press):db (some b) x=b∨db (some b) x=x:=by
 unfold db
 simp only
 split
 ·exact .inr rfl
 ·exact .inl rfl
theorem LeP.shift{a b:List Int}{w v:Int}(h:LeP ⟨a,w⟩ ⟨b,v⟩)(i k:Int):LeP ⟨i::a,w+k⟩ ⟨i::b,v+k⟩:=by
 unfold LeP bq at *
 simp only at *
 rw[yN]
 by_cases e:v=w
 ·rw[if_neg (by simp[e])]at h
  rw[if_neg (by simp[e])];exact h
 ·rw[if_pos e]at h
  rw[if_pos (by omega)]
  simp at h ⊢;omega
theorem lv{s:Bill}(hg:s.Good){x:Ent}(hx:s.OkE x):1≤s.height x∧s.height x≤12:=by
 have ha:1≤s.heightAt x.a∧s.heightAt x.a≤6:=by
  unfold Bill.heightAt
  have:=hx.a
  rw[List.getElem?_eq_getElem (by omega)]
  exact(hg.figs _ (List.getElem_mem _)).2.2
 have hb:1≤s.heightAt x.b∧s.heightAt x.b≤6:=by
  unfold Bill.heightAt
  have:=hx.b
  rw[List.getElem?_eq_getElem (by omega)]
  exact(hg.figs _ (List.getElem_mem _)).2.2
 unfold Bill.height
 split<;>omega
theorem eE(s:Bill)(c:List Ent)(i:Nat)(t:Bool):0≤s.heading c i t∧s.heading c i t≤2:=by
 unfold Bill.heading
 split
 ·omega
 split
 ·omega
 split
 ·omega
 split<;>omega
theorem dq{s:Bill}(hg:s.Good){c:List Ent}(hc:∀x∈c,s.OkE x){i:Nat}(hi:i<c.length)(t:Bool):1≤s.lineOf c i t∧s.lineOf c i t≤14:=by
 unfold Bill.lineOf
 have h1:=eE s c i t
 rw[List.getElem?_eq_getElem hi]
 have h2:=lv hg (hc _ (List.getElem_mem hi))
 simp only
 omega
theorem y4(s:Bill)(c:List Ent)(i:Nat):s.lineOf c i true≤s.lineOf c i false+1:=by
 have:s.heading c i true≤s.heading c i false+1:=by
  unfold Bill.heading
  split
  ·omega
  split
  ·omega
  split
  ·omega
  simp
 unfold Bill.lineOf
 omega
theorem s4{s:Bill}(hg:s.Good){c:List Ent}(hc:∀x∈c,s.OkE x)(i:Nat):∀n,i+n<c.length→s.linesOn c i n≤s.linesOn c i (n+1):=fun n hn=>by
 have:=dq hg hc hn (n==0)
 show _≤s.linesOn c i n+s.lineOf c (i+n) (n==0)
 omega
theorem j6{s:Bill}(hg:s.Good){c:List Ent}(hc:∀x∈c,s.OkE x)(i:Nat):∀n,i+1+n<c.length→s.linesOn c (i+1) (n+1)≤s.linesOn c i (n+2)
 | 0,hn=>by
  have h1:=dq hg hc (i:=i) (by omega) true
  have h2:=y4 s c (i+1)
  show 0+s.lineOf c (i+1+0) true≤0+s.lineOf c (i+0) true+s.lineOf c (i+1) false
  simp only[Nat.add_zero]
  omega
 | n+1,hn=>by
  have ih:=j6 hg hc i n (by omega)
  show s.linesOn c (i+1) (n+1)+s.lineOf c (i+1+(n+1)) false≤s.linesOn c i (n+2)+s.lineOf c (i+(n+2)) false
  rw[show i+1+(n+1)=i+(n+2) by omega]
  omega
theorem BP{s:Bill}(hg:s.Good){c:List Ent}(hc:∀x∈c,s.OkE x){i j:Nat}(hij:i≤j)(hj:j<c.length):s.left c i (j+1)≤s.left c i j:=by
 have:=s4 hg hc i (j-i) (by omega)
 unfold Bill.left
 rw[show j+1-i=j-i+1 by omega]
 omega
theorem j3{s:Bill}(hg:s.Good){c:List Ent}(hc:∀x∈c,s.OkE x){i:Nat}:∀(k j:Nat),i≤j→j+k≤c.length→s.left c i (j+k)≤s.left c i j
 | 0,j,_,_=>Int.le_refl _
 | k+1,j,hij,hk=>by
  have h1:=j3 hg hc k j hij (by omega)
  have h2:=BP hg hc (i:=i) (j:=j+k) (by omega) (by omega)
  rw[show j+(k+1)=j+k+1 by omega]
  omega
theorem yZ{s:Bill}(hg:s.Good){c:List Ent}(hc:∀x∈c,s.OkE x){i j:Nat}(hij:i+1<j)(hj:j≤c.length):s.left c i j≤s.left c (i+1) j:=by
 obtain⟨n,rfl⟩:∃n,j=i+2+n:=⟨j-(i+2),by omega⟩
 have:=j6 hg hc i n (by omega)
 unfold Bill.left
 rw[show i+2+n-i=n+2 by omega,show i+2+n-(i+1)=n+1 by omega]
 omega
theorem nS{s:Bill}(hg:s.Good){c:List Ent}(hc:∀x∈c,s.OkE x){j:Nat}(hj:j≤c.length):∀(k i:Nat),i+k<j→s.left c i j≤s.left c (i+k) j
 | 0,i,_=>Int.le_refl _
 | k+1,i,hk=>by
  have h1:=nS hg hc hj k i (by omega)
  have h2:=yZ hg hc (i:=i+k) (j:=j) (by omega) hj
  rw[show i+(k+1)=i+k+1 by omega]
  omega
theorem q9{s:Bill}(hg:s.Good){c:List Ent}(hc:∀x∈c,s.OkE x){i:Nat}(hi:i<c.length):0≤s.left c i (i+1):=by
 have h1:=dq hg hc hi true
 have:=hg.lines
 unfold Bill.left
 rw[show i+1-i=1 by omega]
 show 0≤s.lines-(0+s.lineOf c (i+0) true)
 rw[Nat.add_zero]
 omega
theorem sZ(s:Bill)(c:List Ent)(i:Nat):s.left c i i=s.lines:=by unfold Bill.left;rw[Nat.sub_self];show s.lines-0=_;omega
theorem nT{s:Bill}(hg:s.Good){c:List Ent}(hc:∀x∈c,s.OkE x){i j:Nat}(hij:i≤j)(hj:j≤c.length):s.left c i j≤30:=by
 have:=j3 hg hc (i:=i) (j-i) i (Nat.le_refl _) (by omega)
 rw[show i+(j-i)=j by omega,sZ]at this
 have:=hg.lines
 omega
theorem BN{s:Bill}(hg:s.Good){c:List Ent}(hc:∀x∈c,s.OkE x){i:Nat}:∀(n:Nat),i+n≤c.length→14-14 * (n:Int)≤s.left c i (i+n)
 | 0,_=>by rw[Nat.add_zero,sZ];have:=hg.lines;omega
 | n+1,hn=>by
  have ih:=BN hg hc (i:=i) n (by omega)
  have:=dq hg hc (i:=i+n) (by omega) (n==0)
  unfold Bill.left at ih ⊢
  rw[show i+n-i=n by omega]at ih
  rw[show i+(n+1)-i=n+1 by omega]
  show _≤s.lines-(s.linesOn c i n+s.lineOf c (i+n) (n==0))
  push_cast
  omega
def bK(c:List Ent):Nat→List Nat→Prop
 | i,[]=>i=c.length
 | i,j::l=>i=j∧i<bV c l∧bK c (bV c l) l
theorem bK.le{c:List Ent}:∀{l:List Nat} {i:Nat},bK c i l→i≤c.length
 | [],i,h=>Nat.le_of_eq h
 | j::l,i,⟨_,h2,h3⟩=>by have:=h3.le;omega
theorem bK.end_le{c:List Ent}{l:List Nat}{i:Nat}(h:bK c i l):bV c l=i:=by
 cases l with
 | nil=>exact h.symm
 | cons j l=>exact h.1.symm
def fH(l:List Nat)(w:Int):Press:=⟨l.map fun(i:Nat)=>(i:Int),w⟩
structure Bill.BestP (s:Bill) (c:List Ent) (i:Nat) (p:Press):Prop where
 is:∃l w,p=fH l w∧bK c i l∧s.whiteL c l=some w
 le:∀l w,bK c i l→s.whiteL c l=some w→LeP p (fH l w)
theorem BestP.unique{s:Bill}{c:List Ent}{i:Nat}{p q:Press}(hp:s.BestP c i p)(hq:s.BestP c i q):p=q:=by
 obtain⟨l,w,rfl,h1,h2⟩:=hp.is
 obtain⟨l',w',rfl,k1,k2⟩:=hq.is
 exact(hp.le _ _ k1 k2).antisymm (hq.le _ _ h1 h2)
theorem cV{s:Bill}{c:List Ent}{i:Nat}{l:List Nat}{w:Int}:s.whiteL c (i::l)=some w↔0≤s.left c i (bV c l)∧∃v,s.whiteL c l=some v∧w=(if bV c l<c.length then s.left c i (bV c l) * s.left c i (bV c l)else 0)+v:=by
 show(if s.left c i (bV c l)<0 then none else match s.whiteL c l with|none=>none|some v=>some (_+v))=some w↔_
 by_cases h:s.left c i (bV c l)<0
 ·rw[if_pos h]
  constructor
  ·intro h;simp at h
  ·rintro⟨h1,_⟩;omega
 ·rw[if_neg h]
  cases s.whiteL c l with
  | none=>simp
  | some v =>
   simp only[Option.some.injEq,exists_eq_left']
   exact⟨fun e=>⟨by omega,e.symm⟩,fun e=>e.2.symm⟩
def jR(s:Bill)(c:List Ent)(press:Nat→Press)(i j:Nat):Press:=⟨(i:Int)::(press j).pages,(press j).white+(if j<c.length then s.left c i j * s.left c i j else 0)⟩
theorem g9{s:Bill}(hg:s.Good){c:List Ent}(hc:∀x∈c,s.OkE x){press:Nat→Press}{i:Nat}:∀(f j:Nat) (best:Option Press),i<j→j+f=c.length+1 →
  match s.pressTo c press i f j best with
  | none=>best=none∧(f=0∨s.left c i j<0)
  | some p=>(best=some p∨∃k,j≤k∧k≤c.length∧0≤s.left c i k∧p=jR s c press i k)∧(∀b,best=some b→LeP p b)∧∀k,j≤k→k≤c.length→0≤s.left c i k→LeP p (jR s c press i k)
 | 0,j,best,hij,hf=>by
  unfold Bill.pressTo
  cases best with
  | none=>exact⟨rfl,.inl rfl⟩
  | some p=>exact⟨.inl rfl,fun b hb=>by cases hb;exact LeP.refl _,fun k h1 h2=>by omega⟩
 | f+1,j,best,hij,hf=>by
  unfold Bill.pressTo
  by_cases h:s.left c i j<0
  ·rw[if_pos h]
   cases best with
   | none=>exact⟨rfl,.inr h⟩
   | some p =>
    refine⟨.inl rfl,fun b hb=>by cases hb;exact LeP.refl _,fun k h1 h2 h3=>?_⟩
    have:=j3 hg hc (i:=i) (k-j) j (by omega) (by omega)
    rw[show j+(k-j)=k by omega]at this
    omega
  ·rw[if_neg h]
   have ih:=g9 hg hc (press:=press) (i:=i) f (j+1) (some (db best (jR s c press i j))) (by omega) (by omega)
   show match s.pressTo c press i f (j+1) (some (db best (jR s c press i j)))with|none=>_|some p=>_
   cases hr:s.pressTo c press i f (j+1) (some (db best (jR s c press i j)))with
   | none=>rw[hr]at ih;simp at ih
   | some p =>
    rw[hr]at ih
    obtain⟨h1,h2,h3⟩:=ih
    have h2:=h2 _ rfl
    have hx:LeP p (jR s c press i j)∧∀b,best=some b→LeP p b:=by
     cases best with
     | none=>exact⟨h2,fun b hb=>by cases hb⟩
     | some b =>
      obtain⟨k1,k2⟩:=x6 b (jR s c press i j)
      exact⟨h2.trans k2,fun b' hb=>by cases hb;exact h2.trans k1⟩
    refine⟨?_,hx.2,fun k k1 k2 k3=>?_⟩
    ·rcases h1 with h1|⟨k,k1,k2,k3,k4⟩
     ·simp only[Option.some.injEq]at h1
      cases best with
      | none=>exact .inr ⟨j,Nat.le_refl _,by omega,by omega,h1.symm⟩
      | some b =>
       rcases x7 b (jR s c press i j)with e|e
       ·left;rw[←h1,e]
       ·right;exact⟨j,Nat.le_refl _,by omega,by omega,by rw[←h1,e]⟩
     ·exact .inr ⟨k,by omega,k2,k3,k4⟩
    ·by_cases e:k=j
     ·subst e;exact hx.1
     ·exact h3 k (by omega) k2 k3
theorem fT{s:Bill}(hg:s.Good){c:List Ent}(hc:∀x∈c,s.OkE x):∀(f i:Nat),i≤c.length→c.length-i≤f→s.BestP c i (s.pressN c f i)
 | 0,i,hi,hf=>by
  have:i=c.length:=by omega
  subst this
  unfold Bill.pressN
  refine⟨⟨[],0,rfl,rfl,rfl⟩,fun l w h1 h2=>?_⟩
  cases l with
  | nil=>cases h2;exact LeP.refl _
  | cons j l=>obtain⟨_,a,b⟩:=h1;have:=b.le;omega
 | f+1,i,hi,hf=>by
  unfold Bill.pressN
  by_cases h:i=c.length
  ·subst h
   rw[if_pos rfl]
   refine⟨⟨[],0,rfl,rfl,rfl⟩,fun l w h1 h2=>?_⟩
   cases l with
   | nil=>cases h2;exact LeP.refl _
   | cons j l=>obtain⟨_,a,b⟩:=h1;have:=b.le;omega
  ·rw[if_neg h]
   have ih:=fun j (h1:i<j) (h2:j≤c.length)=>fT hg hc f j h2 (by omega)
   have hs:=g9 hg hc (press:=s.pressN c f) (i:=i) (c.length-i) (i+1) none (by omega) (by omega)
   have h1:=q9 hg hc (i:=i) (by omega)
   cases hr:s.pressTo c (s.pressN c f) i (c.length-i) (i+1) none with
   | none=>rw[hr]at hs;rcases hs.2 with h|h<;>omega
   | some p =>
    rw[hr]at hs
    obtain⟨h1,_,h3⟩:=hs
    simp only
    refine⟨?_,fun l w k1 k2=>?_⟩
    ·rcases h1 with h1|⟨k,k1,k2,k3,rfl⟩
     ·simp at h1
     ·obtain⟨l,w,e,h4,h5⟩:=(ih k (by omega) k2).is
      refine⟨i::l,_,?_,⟨rfl,by rw[h4.end_le];omega,by rw[h4.end_le];exact h4⟩,cV.2 ⟨by rw[h4.end_le];exact k3,w,h5,rfl⟩⟩
      unfold jR
      rw[e,h4.end_le]
      unfold fH
      simp only[List.map_cons,Press.mk.injEq,true_and]
      omega
    ·cases l with
     | nil=>exact absurd k1 h
     | cons j l =>
      obtain⟨rfl,k3,k4⟩:=k1
      obtain⟨k5,v,k6,rfl⟩:=cV.1 k2
      have hle:=k4.le
      refine(h3 _ (by omega) hle k5).trans ?_
      have:=(ih _ k3 hle).le _ _ k4 k6
      unfold fH at this
      have:=LeP.shift (a:=(s.pressN c f (bV c l)).pages) (w:=(s.pressN c f (bV c l)).white) this (i:Int) (if bV c l<c.length then s.left c i (bV c l) * s.left c i (bV c l)else 0)
      unfold jR fH
      rw[Int.add_comm _ v,List.map_cons]
      exact this
theorem kK{s:Bill}(hg:s.Good){c:List Ent}(hc:∀x∈c,s.OkE x):s.BestP c 0 (s.press c 0):=fT hg hc _ 0 (Nat.zero_le _) (Nat.le_refl _)
theorem nL{s:Bill}(hg:s.Good){c:List Ent}(hc:∀x∈c,s.OkE x){i:Nat}:∀(f j:Nat),i<j→j≤c.length→c.length≤j+f→0≤s.left c i j →
  j≤s.fullTo c i f j∧s.fullTo c i f j≤c.length∧0≤s.left c i (s.fullTo c i f j)∧∀k,k≤c.length→0≤s.left c i k→i<k→k≤s.fullTo c i f j
 | 0,j,hij,hj,hf,h0=>by
  unfold Bill.fullTo
  exact⟨Nat.le_refl _,hj,h0,fun k hk _ _=>by omega⟩
 | f+1,j,hij,hj,hf,h0=>by
  unfold Bill.fullTo
  by_cases h:j<c.length∧0≤s.left c i (j+1)
  ·rw[if_pos h]
   obtain⟨a,b,d,e⟩:=nL hg hc f (j+1) (by omega) (by omega) (by omega) h.2
   exact⟨by omega,b,d,e⟩
  ·rw[if_neg h]
   refine⟨Nat.le_refl _,hj,h0,fun k hk h1 h2=>?_⟩
   rcases Nat.lt_or_ge j k with hlt|hge
   ·exfalso
    have:=j3 hg hc (i:=i) (k-(j+1)) (j+1) (by omega) (by omega)
    rw[show j+1+(k-(j+1))=k by omega]at this
    exact h ⟨by omega,by omega⟩
   ·exact hge
def Bill.full(s:Bill)(c:List Ent)(i:Nat):Nat:=s.fullTo c i c.length (i+1)
theorem eg{s:Bill}(hg:s.Good){c:List Ent}(hc:∀x∈c,s.OkE x){i:Nat}(hi:i<c.length) :
  i<s.full c i∧s.full c i≤c.length∧0≤s.left c i (s.full c i)∧∀k,k≤c.length→0≤s.left c i k→i<k→k≤s.full c i:=by
 obtain⟨a,b⟩:=nL hg hc (i:=i) c.length (i+1) (by omega) (by omega) (by omega) (q9 hg hc hi)
 exact⟨a,b⟩
theorem Bv{s:Bill}(hg:s.Good){c:List Ent}(hc:∀x∈c,s.OkE x){i j:Nat}(hij:i≤j)(hj:j<c.length):s.full c i≤s.full c j:=by
 obtain⟨a1,a2,a3,_⟩:=eg hg hc (i:=i) (by omega)
 obtain⟨b1,_,_,b4⟩:=eg hg hc hj
 by_cases h:j<s.full c i
 ·have:=nS hg hc a2 (j-i) i (by omega)
  rw[show i+(j-i)=j by omega]at this
  exact b4 _ a2 (by omega) h
 ·omega
theorem dX(s:Bill)(c:List Ent)(f i:Nat)(hi:i<c.length):s.fullN c (f+1) i=s.fullN c f (s.full c i)+1:=by
 show(if i<c.length then _ else 0)=_
 rw[if_pos hi]
 rfl
theorem ef(s:Bill)(c:List Ent)(f i:Nat)(hi:c.length≤i):s.fullN c f i=0:=by
 cases f with
 | zero=>rfl
 | succ f=>show(if i<c.length then _ else 0)=0;rw[if_neg (by omega)]
theorem pI{s:Bill}(hg:s.Good){c:List Ent}(hc:∀x∈c,s.OkE x):∀(f g i:Nat),c.length≤i+f→c.length≤i+g→s.fullN c f i=s.fullN c g i
 | 0,g,i,hf,_=>by rw[ef s c 0 i (by omega),ef s c g i (by omega)]
 | f+1,g,i,hf,hgg=>by
  by_cases hi:i<c.length
  ·obtain⟨g,rfl⟩:∃k,g=k+1:=⟨g-1,by omega⟩
   have:=(eg hg hc hi).1
   rw[dX _ _ _ _ hi,dX _ _ _ _ hi,pI hg hc f g _ (by omega) (by omega)]
  ·rw[ef _ _ _ _ (by omega),ef _ _ _ _ (by omega)]
theorem pH{s:Bill}(hg:s.Good){c:List Ent}(hc:∀x∈c,s.OkE x):∀(f i j:Nat),i≤j→c.length≤i+f→s.fullN c f j≤s.fullN c f i
 | 0,i,j,_,_=>by simp[Bill.fullN]
 | f+1,i,j,hij,hf=>by
  by_cases hj:j<c.length
  ·have hi:i<c.length:=by omega
   rw[dX _ _ _ _ hi,dX _ _ _ _ hj]
   have:=(eg hg hc hi).1
   have:=pH hg hc f (s.full c i) (s.full c j) (Bv hg hc hij hj) (by omega)
   omega
  ·rw[ef _ _ _ _ (by omega)]
   omega
theorem sU{s:Bill}(hg:s.Good){c:List Ent}(hc:∀x∈c,s.OkE x):∀(l:List Nat) (f i:Nat) (w:Int),c.length≤i+f→bK c i l→s.whiteL c l=some w→s.fullN c f i≤l.length
 | [],f,i,w,hf,h1,_=>by rw[ef _ _ _ _ (Nat.le_of_eq h1.symm)];omega
 | j::l,f,i,w,hf,h1,h2=>by
  obtain⟨rfl,k1,k2⟩:=h1
  obtain⟨k3,v,k4,_⟩:=cV.1 h2
  have hle:=k2.le
  obtain⟨f,rfl⟩:∃k,f=k+1:=⟨f-1,by omega⟩
  rw[dX _ _ _ _ (by omega)]
  have h5:=(eg hg hc (i:=i) (by omega)).2.2.2 _ hle k3 k1
  have h6:=pH hg hc f _ _ h5 (by omega)
  have h7:=sU hg hc l f _ v (by omega) k2 k4
  simp only[List.length_cons]
  omega
theorem xK{s:Bill}(hg:s.Good){c:List Ent}(hc:∀x∈c,s.OkE x):∀(f i:Nat),i≤c.length→c.length≤i+f→∃l w,bK c i l∧s.whiteL c l=some w∧l.length=s.fullN c f i
 | 0,i,hi,hf=>⟨[],0,by show i=c.length;omega,rfl,rfl⟩
 | f+1,i,hi,hf=>by
  by_cases h:i=c.length
  ·exact⟨[],0,h,rfl,by rw[ef _ _ _ _ (by omega)];rfl⟩
  ·have hlt:i<c.length:=by omega
   obtain⟨a,b,d,_⟩:=eg hg hc hlt
   obtain⟨l,w,h1,h2,h3⟩:=xK hg hc f (s.full c i) b (by omega)
   refine⟨i::l,_,⟨rfl,by rw[h1.end_le];exact a,by rw[h1.end_le];exact h1⟩,cV.2 ⟨by rw[h1.end_le];exact d,w,h2,rfl⟩,?_⟩
   rw[dX _ _ _ _ hlt,List.length_cons,h3]
theorem m8{s:Bill}(hg:s.Good){c:List Ent}(hc:∀x∈c,s.OkE x):(∃l w,bK c 0 l∧s.whiteL c l=some w∧l.length=s.few c)∧∀l w,bK c 0 l→s.whiteL c l=some w→s.few c≤l.length :=
 ⟨xK hg hc _ 0 (Nat.zero_le _) (by omega),fun l w h1 h2=>sU hg hc l _ 0 w (by omega) h1 h2⟩
end Go.Proofs.YtgncapdjheghfaaGreatDoor
namespace Go.Proofs.YtgncapdjheghfaaGreatDoor
open Go.Am Go.Proofs Go
def cA(l:List Int):Int:=match l.getLast? with|none=> -1|some x=>x
def ke(below:Int)(l:List Int):List (List Int):=((List.range (below-(cA l+1)).toNat).map fun j:Nat=>l++[cA l+1+(j:Int)])
def dU(below:Int):Nat→List (List Int)
 | 0=>[[]]
 | n+1=>(dU below n).flatMap (ke below)
def iX(l:List Int):List Int:=0::l.map (· + 1)
def b7(n:Nat):List (List Int):=if n=0 then [[]]else(List.range n).flatMap fun(k:Nat)=>(dU ((n:Int)-1) k).map iX
def JX(n:Nat):Nat→Nat→List (List Nat)
 | 0,i=>if i=n then [[]]else []
 | f+1,i=>if i=n then [[]]else(List.range (n-i)).flatMap fun k=>(JX n f (i+1+k)).map (i:: ·)
theorem mY{c:List Ent}:∀(f i:Nat) (l:List Nat),i≤c.length→c.length≤i+f→(l∈JX c.length f i↔bK c i l)
 | 0,i,l,hi,hf=>by
  unfold JX
  rw[if_pos (by omega),List.mem_singleton]
  constructor
  ·rintro rfl;show i=c.length;omega
  ·intro h
   cases l with
   | nil=>rfl
   | cons j l=>obtain⟨_,a,b⟩:=h;have:=b.le;omega
 | f+1,i,l,hi,hf=>by
  unfold JX
  by_cases h:i=c.length
  ·rw[if_pos h,List.mem_singleton]
   constructor
   ·rintro rfl;exact h
   ·intro h
    cases l with
    | nil=>rfl
    | cons j l=>obtain⟨_,a,b⟩:=h;have:=b.le;omega
  ·rw[if_neg h,List.mem_flatMap]
   constructor
   ·rintro⟨k,hk,hl⟩
    obtain⟨m,hm,rfl⟩:=List.mem_map.1 hl
    have hk:=List.mem_range.1 hk
    have:=(mY f (i+1+k) m (by omega) (by omega)).1 hm
    exact⟨rfl,by rw[this.end_le];omega,by rw[this.end_le];exact this⟩
   ·intro hp
    cases l with
    | nil=>exact absurd hp h
    | cons j l =>
     obtain⟨rfl,h1,h2⟩:=hp
     have:=h2.le
     refine⟨bV c l-(i+1),List.mem_range.2 (by omega),List.mem_map.2 ⟨l,?_,rfl⟩⟩
     rw[show i+1+(bV c l-(i+1))=bV c l by omega]
     exact(mY f _ l this (by omega)).2 h2
def bz(l:List Nat):List Int:=l.map fun(i:Nat)=>(i:Int)
theorem sb:∀n,n<7→((JX n 6 0).all fun l=>(b7 n).contains (bz l))=true∧((b7 n).all fun l=>((JX n 6 0).map bz).contains l&&decide (l.length≤6))=true:=by decide +kernel
theorem ed(l:List Nat):(bz l).map Int.toNat=l:=by unfold bz;rw[List.map_map];induction l with
 | nil=>rfl
 | cons x l ih=>simp only[List.map_cons,ih];rfl
theorem fK{c:List Ent}(h6:c.length≤6)(l:List Int):l∈b7 c.length↔∃m,l=bz m∧bK c 0 m:=by
 obtain⟨h1,h2⟩:=sb c.length (by omega)
 rw[List.all_eq_true]at h1 h2
 constructor
 ·intro h
  have:=h2 l h
  simp only[Bool.and_eq_true,List.contains_eq_mem,decide_eq_true_eq,List.mem_map]at this
  obtain⟨⟨m,hm,rfl⟩,_⟩:=this
  exact⟨m,rfl,(mY 6 0 m (Nat.zero_le _) (by omega)).1 hm⟩
 ·rintro⟨m,rfl,hm⟩
  have:=h1 m ((mY 6 0 m (Nat.zero_le _) (by omega)).2 hm)
  simpa using this
theorem ir{n:Nat}(h6:n≤6){l:List Int}(h:l∈b7 n):l.length≤6:=by
 obtain⟨_,h2⟩:=sb n (by omega)
 rw[List.all_eq_true]at h2
 have:=h2 l h
 rw[Bool.and_eq_true,decide_eq_true_eq]at this
 exact this.2
def Bill.whiteI(s:Bill)(c:List Ent)(l:List Int):Option Int:=s.whiteL c (l.map Int.toNat)
def Bill.refPress(s:Bill)(c:List Ent):List (List Int)→Option Press→Option Press
 | [],b=>b
 | l::L,b=>match s.whiteI c l with
  | none=>s.refPress c L b
  | some w=>s.refPress c L (some (db b ⟨l,w⟩))
def Bill.refFew(s:Bill)(c:List Ent):List (List Int)→Nat→Nat
 | [],b=>b
 | l::L,b=>match s.whiteI c l with
  | none=>s.refFew c L b
  | some _=>s.refFew c L (min b l.length)
theorem gj{s:Bill}{c:List Ent}:∀(L:List (List Int)) (b:Option Press),
  match s.refPress c L b with
  | none=>b=none∧∀l∈L,s.whiteI c l=none
  | some p=>(b=some p∨∃l∈L,s.whiteI c l=some p.white∧p.pages=l)∧(∀q,b=some q→LeP p q)∧∀l∈L,∀w,s.whiteI c l=some w→LeP p ⟨l,w⟩
 | [],b=>by
  unfold Bill.refPress
  cases b with
  | none=>exact⟨rfl,by simp⟩
  | some p=>exact⟨.inl rfl,fun q hq=>by cases hq;exact LeP.refl _,by simp⟩
 | l::L,b=>by
  unfold Bill.refPress
  cases hw:s.whiteI c l with
  | none =>
   have ih:=gj (s:=s) (c:=c) L b
   simp only
   cases hr:s.refPress c L b with
   | none =>
    rw[hr]at ih
    refine⟨ih.1,fun m hm=>?_⟩
    rcases List.mem_cons.1 hm with rfl|hm
    ·exact hw
    ·exact ih.2 m hm
   | some p =>
    rw[hr]at ih
    obtain⟨h1,h2,h3⟩:=ih
    refine⟨h1.imp_right fun⟨m,hm,k⟩=>⟨m,List.mem_cons_of_mem _ hm,k⟩,h2,fun m hm w k=>?_⟩
    rcases List.mem_cons.1 hm with rfl|hm
    ·rw[hw]at k;simp at k
    ·exact h3 m hm w k
  | some w =>
   have ih:=gj (s:=s) (c:=c) L (some (db b ⟨l,w⟩))
   simp only
   cases hr:s.refPress c L (some (db b ⟨l,w⟩))with
   | none=>rw[hr]at ih;simp at ih
   | some p =>
    rw[hr]at ih
    obtain⟨h1,h2,h3⟩:=ih
    have h2:=h2 _ rfl
    have hx:LeP p ⟨l,w⟩∧∀q,b=some q→LeP p q:=by
     cases b with
     | none=>exact⟨h2,fun b hb=>by cases hb⟩
     | some b =>
      obtain⟨k1,k2⟩:=x6 b ⟨l,w⟩
      exact⟨h2.trans k2,fun b' hb=>by cases hb;exact h2.trans k1⟩
    refine⟨?_,hx.2,fun m hm v k=>?_⟩
    ·rcases h1 with h1|⟨m,hm,k⟩
     ·simp only[Option.some.injEq]at h1
      cases b with
      | none=>subst h1;exact .inr ⟨l,by simp,hw,rfl⟩
      | some b =>
       rcases x7 b ⟨l,w⟩with e|e
       ·left;rw[←h1,e]
       ·right;rw[←h1,e];exact⟨l,by simp,hw,rfl⟩
     ·exact .inr ⟨m,List.mem_cons_of_mem _ hm,k⟩
    ·rcases List.mem_cons.1 hm with rfl|hm
     ·rw[hw]at k;cases k;exact hx.1
     ·exact h3 m hm v k
theorem wT{s:Bill}(hg:s.Good){c:List Ent}(hc:∀x∈c,s.OkE x)(h6:c.length≤6):s.refPress c (b7 c.length) none=some (s.press c 0):=by
 have hb:=kK hg hc
 obtain⟨l,w,e,h1,h2⟩:=hb.is
 have hs:=gj (s:=s) (c:=c) (b7 c.length) none
 have hin:bz l∈b7 c.length:=(fK h6 _).2 ⟨l,rfl,h1⟩
 have hwl:s.whiteI c (bz l)=some w:=by unfold Bill.whiteI;rw[ed];exact h2
 cases hr:s.refPress c (b7 c.length) none with
 | none=>rw[hr]at hs;have:=hs.2 _ hin;rw[hwl]at this;simp at this
 | some p =>
  rw[hr]at hs
  obtain⟨k1,_,k3⟩:=hs
  rcases k1 with k1|⟨m,hm,k1,k2⟩
  ·simp at k1
  ·obtain⟨m',rfl,hm'⟩:=(fK h6 _).1 hm
   unfold Bill.whiteI at k1
   rw[ed]at k1
   have a:=hb.le _ _ hm' k1
   have b:=k3 _ hin w hwl
   have ep:p=fH m' p.white:=by
    obtain⟨p1,p2⟩:=p
    simp only at k2
    subst k2
    rfl
   rw[←ep]at a
   rw[e]at a ⊢
   congr 1
   exact LeP.antisymm b a
theorem oJ{s:Bill}{c:List Ent}:∀(L:List (List Int)) (b:Nat),s.refFew c L b≤b∧(∀l∈L,s.whiteI c l≠none→s.refFew c L b≤l.length)∧(s.refFew c L b=b∨∃l∈L,s.whiteI c l≠none∧s.refFew c L b=l.length)
 | [],b=>⟨Nat.le_refl _,by simp,.inl rfl⟩
 | l::L,b=>by
  unfold Bill.refFew
  cases hw:s.whiteI c l with
  | none =>
   obtain⟨h1,h2,h3⟩:=oJ (s:=s) (c:=c) L b
   refine⟨h1,fun m hm k=>?_,h3.imp_right fun⟨m,hm,k⟩=>⟨m,List.mem_cons_of_mem _ hm,k⟩⟩
   rcases List.mem_cons.1 hm with rfl|hm
   ·exact absurd hw k
   ·exact h2 m hm k
  | some w =>
   obtain⟨h1,h2,h3⟩:=oJ (s:=s) (c:=c) L (min b l.length)
   refine⟨by simp only;omega,fun m hm k=>?_,?_⟩
   ·rcases List.mem_cons.1 hm with rfl|hm
    ·simp only;omega
    ·exact h2 m hm k
   ·simp only
    rcases h3 with h3|⟨m,hm,k⟩
    ·by_cases q:b≤l.length
     ·left;omega
     ·right;exact⟨l,by simp,by rw[hw];simp,by omega⟩
    ·exact .inr ⟨m,List.mem_cons_of_mem _ hm,k⟩
theorem cG{c:List Ent}:∀{l:List Nat} {i:Nat},bK c i l→l.length+i≤c.length
 | [],i,h=>by have:i=c.length:=h;simp;omega
 | j::l,i,⟨_,h2,h3⟩=>by have:=cG h3;simp only[List.length_cons];omega
theorem CO{s:Bill}(hg:s.Good){c:List Ent}(hc:∀x∈c,s.OkE x)(h6:c.length≤6):s.refFew c (b7 c.length) c.length=s.few c:=by
 obtain⟨⟨l,w,h1,h2,h3⟩,h4⟩:=m8 hg hc
 obtain⟨k1,k2,k3⟩:=oJ (s:=s) (c:=c) (b7 c.length) c.length
 have hin:bz l∈b7 c.length:=(fK h6 _).2 ⟨l,rfl,h1⟩
 have hwl:s.whiteI c (bz l)=some w:=by unfold Bill.whiteI;rw[ed];exact h2
 have a:=k2 _ hin (by rw[hwl];simp)
 have b:(bz l).length=s.few c:=by unfold bz;rw[List.length_map];exact h3
 have d:=cG h1
 rcases k3 with k3|⟨m,hm,k3,k4⟩
 ·omega
 ·obtain⟨m',rfl,hm'⟩:=(fK h6 _).1 hm
  unfold Bill.whiteI at k3
  rw[ed]at k3
  cases hwm:s.whiteL c m' with
  | none=>exact absurd hwm k3
  | some v =>
   have:=h4 m' v hm' hwm
   have e:(bz m').length=m'.length:=by unfold bz;rw[List.length_map]
   omega
end Go.Proofs.YtgncapdjheghfaaGreatDoor
namespace Go.Proofs.YtgncapdjheghfaaGreatDoor
open Go.Am Go.Proofs Go
abbrev Bs:=List UInt8
def cJ:Bs:=[112,97,103,101]
def a7:Bs:=[114,111,111,109]
def wIs:Bs:=[105,115]
def Ag:Bs:=[109,97,121]
def wBe:Bs:=[98,101]
def wAs:Bs:=[97,115]
def wOr:Bs:=[111,114]
def cY:Bs:=[99,111,110,116,105,110,117,101,100]
def num(n:Int):Bs:=[UInt8.ofNat (48+n.toNat)]
def bytes(s:ByteArray):Bs:=s.data.toList
def aC:List Bs→Bs
 | []=>[]
 | [w]=>w
 | w::ws=>w++32::aC ws
def Bill.whoW(s:Bill)(a:Int):List Bs:=match s.figs[a.toNat]? with
 | none=>[]
 | some f=>[bytes f.name,wAs,bytes f.role]
def Bill.entW(s:Bill)(i:Nat)(x:Ent):List Bs:=num ((i:Int)+1)::((if x.says=2 then [Ag,wBe]else [wIs])++s.whoW x.a++(if x.says=1 then wOr::s.whoW x.b else []))
def Bill.headW(s:Bill)(c:List Ent)(i:Nat)(top:Bool)(x:Ent):List (List Bs) :=
 if s.heading c i top=2 then [[a7,num (s.roomAt x.a)]]else if s.heading c i top=1 then [[a7,num (s.roomAt x.a),cY]]else []
def mU(p:Nat):List Bs:=[cJ,num ((p:Int)+1)]
def Bill.rowW(s:Bill)(c:List Ent)(pages:List Nat)(i:Nat):List (List Bs):=match c[i]? with
 | none=>[]
 | some x=>(match pages.findIdx? (· ==i)with|none=>[]|some p=>[mU p])++s.headW c i ((pages.findIdx? (· ==i)).isSome) x++[s.entW i x]
def Bill.rowsW(s:Bill)(c:List Ent)(pages:List Nat):List (List Bs):=(List.range c.length).flatMap (s.rowW c pages)
def aM(ws:List Bs):Bs:=aC ws++[10]
def mA(p:Press):List Nat:=p.pages.map Int.toNat
def Bill.textL(s:Bill)(c:List Ent):Bs:=(s.rowsW c (mA (s.press c 0))).flatMap aM
def fM:Bs→Bs→List Bs
 | cur,[]=>if cur=[]then []else [cur]
 | cur,b::l=>if b=10 then cur::fM [] l else fM (cur++[b]) l
def okB(b:UInt8):Bool:=dw b||fJ b
def bM:Bs→Bs→Option (List Bs)
 | w,[]=>some [w]
 | w,b::l=>if b=32 then(bM [] l).map (w:: ·)else if okB b=true then bM (w++[b]) l else none
def Bill.whoAt(s:Bill)(w:Bs):Int:=idx (fun f=>decide (bytes f.name=w)) s.figs
def Bill.readE(s:Bill)(ws:List Bs):Option Ent :=
 if ws.length=5∧ws[1]?=some wIs then some ⟨0,s.whoAt (ws.getD 2 []),0⟩
 else if ws.length=9∧ws[1]?=some wIs then some ⟨1,s.whoAt (ws.getD 2 []),s.whoAt (ws.getD 6 [])⟩
 else if ws.length=6∧ws[1]?=some Ag then some ⟨2,s.whoAt (ws.getD 3 []),0⟩else none
def gF(ws:List Bs):Bool:=decide (ws[0]?=some cJ)||decide (ws[0]?=some a7)
def Bill.parseW(s:Bill):List Bs→Option (List Ent)
 | []=>some []
 | l::ls=>match bM [] l with
  | none=>none
  | some ws=>if gF ws=true then s.parseW ls else match s.readE ws with
   | none=>none
   | some x=>(s.parseW ls).map (x:: ·)
def Bill.parse(s:Bill)(t:Bs):Option (List Ent):=s.parseW (fM [] t)
def Bill.readR(s:Bill)(t:ByteArray):List Ent×Int :=
 if s.check.2.2≠0 then([],s.check.2.2)else if 800<t.size then([],3)else match s.parse (bytes t)with
  | none=>([],6)
  | some l=>if s.holds l=true∧s.textL l=bytes t then(l,0)else([],6)
theorem jo:∀(w cur rest:Bs),(10:UInt8)∉w→fM cur (w++10::rest)=(cur++w)::fM [] rest
 | [],cur,rest,_=>by simp[fM]
 | b::w,cur,rest,h=>by
  simp only[List.mem_cons,not_or]at h
  simp only[List.cons_append,fM]
  rw[if_neg (fun e=>h.1 e.symm),jo w _ rest h.2]
  simp
theorem pT:∀(ls:List (List Bs)),(∀l∈ls,(10:UInt8)∉aC l)→fM [] (ls.flatMap aM)=ls.map aC
 | [],_=>rfl
 | l::ls,h=>by
  rw[List.flatMap_cons,aM,List.append_assoc,List.singleton_append,jo _ _ _ (h l (by simp)),pT ls fun m hm=>h m (by simp[hm])]
  simp
theorem o0:∀(w cur rest:Bs),(∀b∈w,okB b=true∧b≠32)→bM cur (w++32::rest)=(bM [] rest).map ((cur++w):: ·)
 | [],cur,rest,_=>by simp[bM]
 | b::w,cur,rest,h=>by
  obtain⟨h1,h2⟩:=h b (by simp)
  simp only[List.cons_append,bM]
  rw[if_neg h2,if_pos h1,o0 w _ rest fun x hx=>h x (by simp[hx])]
  simp
theorem oZ:∀(w cur:Bs),(∀b∈w,okB b=true∧b≠32)→bM cur w=some [cur++w]
 | [],cur,_=>by simp[bM]
 | b::w,cur,h=>by
  obtain⟨h1,h2⟩:=h b (by simp)
  simp only[bM]
  rw[if_neg h2,if_pos h1,oZ w _ fun x hx=>h x (by simp[hx])]
  simp
def gR(w:Bs):Prop:=∀b∈w,okB b=true∧b≠32∧b≠10
theorem jE:∀(ws:List Bs),ws≠[]→(∀w∈ws,gR w)→bM [] (aC ws)=some ws
 | [],h,_=>absurd rfl h
 | [w],_,h=>by
  have:=oZ w [] fun b hb=>⟨(h w (by simp) b hb).1,(h w (by simp) b hb).2.1⟩
  simpa[aC]using this
 | w::v::ws,_,h=>by
  show bM [] (w++32::aC (v::ws))=_
  rw[o0 w [] _ fun b hb=>⟨(h w (by simp) b hb).1,(h w (by simp) b hb).2.1⟩,jE (v::ws) (by simp) fun u hu=>h u (by simp only[List.mem_cons]at hu ⊢;exact .inr hu)]
  simp
theorem BH:∀(ws:List Bs),(∀w∈ws,gR w)→(10:UInt8)∉aC ws
 | [],_=>by simp[aC]
 | [w],h=>fun hm=>(h w (by simp) 10 (by simpa[aC]using hm)).2.2 rfl
 | w::v::ws,h=>by
  show(10:UInt8)∉w++32::aC (v::ws)
  rw[List.mem_append,List.mem_cons]
  rintro(hm|hm|hm)
  ·exact(h w (by simp) 10 hm).2.2 rfl
  ·exact absurd hm (by decide)
  ·exact BH (v::ws) (fun u hu=>h u (by simp only[List.mem_cons]at hu ⊢;exact .inr hu)) hm
theorem G0{b:UInt8}(h:okB b=true):b≠32∧b≠10:=by
 constructor
 ·rintro rfl;exact absurd h (by decide)
 ·rintro rfl;exact absurd h (by decide)
theorem xT:∀{l:Bs} {f:Bool},j9 f l=true→∀b∈l,okB b=true
 | [],_,_,b,hb=>by simp at hb
 | x::l,f,h,b,hb=>by
  simp only[j9,Bool.and_eq_true,Bool.or_eq_true]at h
  rcases List.mem_cons.1 hb with rfl|hb
  ·unfold okB
   rw[Bool.or_eq_true]
   rcases h.1 with h|h
   ·exact .inl h
   ·exact .inr h.2
  ·exact xT h.2 b hb
theorem te{s:ByteArray}(h:cp s=true):gR (bytes s):=by
 unfold cp at h
 simp only[Bool.and_eq_true]at h
 intro b hb
 have:=xT h.2 b hb
 exact⟨this,G0 this⟩
theorem nh{n:Int}(h:0≤n∧n≤9):gR (num n):=by
 have key:∀k:Nat,k<10→okB (UInt8.ofNat (48+k))=true:=by decide
 intro b hb
 unfold num at hb
 rw[List.mem_singleton]at hb
 subst hb
 have:=key n.toNat (by omega)
 exact⟨this,G0 this⟩
theorem yE:gR cJ∧gR a7∧gR wIs∧gR Ag∧gR wBe∧gR wAs∧gR wOr∧gR cY:=by
 unfold gR cJ a7 wIs Ag wBe wAs wOr cY
 refine⟨?_,?_,?_,?_,?_,?_,?_,?_⟩<;>decide
theorem md{s:Bill}{a:Int}{f:Fig}(h:s.figs[a.toNat]?=some f):s.whoW a=[bytes f.name,wAs,bytes f.role]:=by unfold Bill.whoW;rw[h]
theorem pM{α:Type}{p:α→Bool}:∀{l:List α} {i n:Nat} {x:α},l[n]?=some x→p x=true→(∀m,m<n→∀y,l[m]?=some y→p y=false)→ce p i l=((i+n:Nat):Int)
 | [],i,n,x,h,_,_=>by simp at h
 | y::l,i,0,x,h,hp,_=>by
  simp at h;subst h
  simp[ce,hp]
 | y::l,i,n+1,x,h,hp,hn=>by
  have:=hn 0 (by omega) y rfl
  simp only[ce,this]
  rw[if_neg (by simp),pM (i:=i+1) (n:=n) (by simpa using h) hp fun m hm z hz=>hn (m+1) (by omega) z (by simpa using hz)]
  rw[show i+1+n=i+(n+1) by omega]
theorem aR{s t:ByteArray}(h:bytes s=bytes t):s=t:=by
 obtain⟨⟨a⟩⟩:=s
 obtain⟨⟨b⟩⟩:=t
 unfold bytes at h
 simp only at h
 subst h;rfl
theorem yn{s:Bill}(hg:s.Good){a:Int}(h0:0≤a){f:Fig}(h:s.figs[a.toNat]?=some f):s.whoAt (bytes f.name)=a:=by
 unfold Bill.whoAt idx
 rw[pM (n:=a.toNat) h (by simp) fun m hm y hy=>?_]
 ·omega
 ·rw[decide_eq_false_iff_not]
  intro e
  exact hg.apart m a.toNat y f hm hy h (aR e)
theorem Bg{s:Bill}(hg:s.Good){i:Nat}{x:Ent}(hx:s.OkE x):s.readE (s.entW i x)=some x:=by
 obtain⟨h1,h2,h3,h4⟩:=hx
 obtain⟨f,hf⟩:∃f,s.figs[x.a.toNat]?=some f:=⟨_,List.getElem?_eq_getElem (by omega)⟩
 obtain⟨g,hgb⟩:∃f,s.figs[x.b.toNat]?=some f:=⟨_,List.getElem?_eq_getElem (by omega)⟩
 have ha:=yn hg h2.1 hf
 have hb:=yn hg h3.1 hgb
 obtain⟨k,a,b⟩:=x
 simp only at *
 unfold Bill.so at h4
 simp only at h4
 unfold Bill.entW Bill.readE
 rw[md hf,md hgb]
 rcases h1 with rfl|rfl|rfl
 ·simp only[if_true,Bool.and_eq_true,decide_eq_true_eq]at h4
  simp[ha,h4.1]
 ·simp[ha,hb]
 ·rw[if_neg (by decide),if_neg (by decide),Bool.and_eq_true,decide_eq_true_eq]at h4
  simp[ha,h4.1]
theorem KJ{n:Int}(h:0≤n∧n≤9):num n≠cJ∧num n≠a7:=by
 constructor<;>(intro e;have:=congrArg List.length e;simp[num,cJ,a7]at this)
theorem ue{s:Bill}(hg:s.Good){a:Int}:0≤s.roomAt a∧s.roomAt a≤9:=by
 unfold Bill.roomAt
 cases h:s.figs[a.toNat]? with
 | none=>simp
 | some f=>exact(hg.figs f (List.mem_of_getElem? h)).2.1
theorem Asc.idx{n:Nat}:∀{c:List Ent} {p:Int},Asc p c→ -1≤p→(∀x∈c,x.a<n)→c≠[]→(c.length:Int)≤n-1-p
 | c,p,h,h0,hn,_=>by
  cases c with
  | nil=>contradiction
  | cons x c=>exact h.len h0 (by have:=hn x (by simp);have:=h.1;omega) hn
theorem iw{l:List Nat}{i p:Nat}(h:l.findIdx? (· ==i)=some p):p<l.length:=by
 have:=List.findIdx?_eq_some_iff_getElem.1 h
 exact this.1
structure TextOk (s:Bill) (c:List Ent) (pages:List Nat):Prop where
 good:s.Good
 ok:∀x∈c,s.OkE x
 len:c.length≤6
 pages:pages.length≤6
theorem uf{s:Bill}{c:List Ent}{pages:List Nat}(h:TextOk s c pages){i:Nat}(hi:i<c.length):∀ws∈s.rowW c pages i,ws≠[]∧∀w∈ws,gR w:=by
 obtain⟨hg,hok,hlen,hpl⟩:=h
 obtain⟨c1,c2,c3,c4,c5,c6,c7,c8⟩:=yE
 have hx:=hok c[i] (List.getElem_mem hi)
 have hwho:∀a:Int,∀w∈s.whoW a,gR w:=by
  intro a w hw
  unfold Bill.whoW at hw
  split at hw
  ·simp at hw
  ·rename_i f hf
   have:=(hg.figs f (List.mem_of_getElem? hf)).1
   simp only[List.mem_cons,List.not_mem_nil,or_false]at hw
   rcases hw with rfl|rfl|rfl
   ·exact te this.1
   ·exact c6
   ·exact te this.2
 have hr:=ue hg (a:=c[i].a)
 intro ws hws
 unfold Bill.rowW at hws
 rw[List.getElem?_eq_getElem hi]at hws
 simp only[List.mem_append,List.mem_singleton]at hws
 rcases hws with(hws|hws)|rfl
 ·split at hws
  ·simp at hws
  ·rename_i p hp
   have:=iw hp
   rw[List.mem_singleton]at hws
   subst hws
   refine⟨by simp[mU],fun w hw=>?_⟩
   unfold mU at hw
   simp only[List.mem_cons,List.not_mem_nil,or_false]at hw
   rcases hw with rfl|rfl
   ·exact c1
   ·exact nh (by omega)
 ·unfold Bill.headW at hws
  split at hws
  ·rw[List.mem_singleton]at hws
   subst hws
   refine⟨by simp,fun w hw=>?_⟩
   simp only[List.mem_cons,List.not_mem_nil,or_false]at hw
   rcases hw with rfl|rfl
   ·exact c2
   ·exact nh hr
  ·split at hws
   ·rw[List.mem_singleton]at hws
    subst hws
    refine⟨by simp,fun w hw=>?_⟩
    simp only[List.mem_cons,List.not_mem_nil,or_false]at hw
    rcases hw with rfl|rfl|rfl
    ·exact c2
    ·exact nh hr
    ·exact c8
   ·simp at hws
 ·refine⟨by simp[Bill.entW],fun w hw=>?_⟩
  unfold Bill.entW at hw
  simp only[List.mem_cons,List.mem_append]at hw
  rcases hw with rfl|(hw|hw)|hw
  ·exact nh (by omega)
  ·split at hw
   ·simp only[List.mem_cons,List.not_mem_nil,or_false]at hw
    rcases hw with rfl|rfl
    ·exact c4
    ·exact c5
   ·rw[List.mem_singleton]at hw;subst hw;exact c3
  ·exact hwho _ w hw
  ·split at hw
   ·rcases List.mem_cons.1 hw with rfl|hw
    ·exact c7
    ·exact hwho _ w hw
   ·simp at hw
theorem zR{s:Bill}{c:List Ent}{pages:List Nat}(h:TextOk s c pages){i:Nat}{x:Ent}(hx:c[i]?=some x)(ls:List Bs) :
  s.parseW ((s.rowW c pages i).map aC++ls)=(s.parseW ls).map (x:: ·):=by
 obtain⟨hi,hxe⟩:=List.getElem?_eq_some_iff.1 hx
 have hgd:=uf h hi
 have hxo:=h.ok x (List.mem_of_getElem? hx)
 have hskip:∀(ws:List Bs) (ls:List Bs),ws≠[]→(∀w∈ws,gR w)→gF ws=true→s.parseW (aC ws::ls)=s.parseW ls:=by
  intro ws ls h1 h2 h3
  show(match bM [] (aC ws)with|none=>none|some ws=>_)=_
  rw[jE ws h1 h2]
  simp only
  rw[if_pos h3]
 have hent:∀(ls:List Bs),s.entW i x≠[]→(∀w∈s.entW i x,gR w)→s.parseW (aC (s.entW i x)::ls)=(s.parseW ls).map (x:: ·):=by
  intro ls h1 h2
  show(match bM [] (aC (s.entW i x))with|none=>none|some ws=>_)=_
  rw[jE _ h1 h2]
  simp only
  rw[if_neg,Bg h.good hxo]
  have:=KJ (n:=(i:Int)+1) (by have:=h.len;omega)
  unfold gF Bill.entW
  simp[this.1,this.2]
 unfold Bill.rowW at hgd ⊢
 rw[hx]at hgd ⊢
 simp only at hgd ⊢
 have hlast:=hgd (s.entW i x) (by simp)
 have e1:=hent ls hlast.1 hlast.2
 have e2:s.parseW ((s.headW c i ((pages.findIdx? (· ==i)).isSome) x).map aC++(aC (s.entW i x)::ls))=(s.parseW ls).map (x:: ·):=by
  rw[←e1]
  unfold Bill.headW at hgd ⊢
  split
  ·rename_i q
   rw[if_pos q]at hgd
   have:=hgd [a7,num (s.roomAt x.a)] (by simp)
   exact hskip _ _ this.1 this.2 (by simp[gF])
  ·rename_i q
   rw[if_neg q]at hgd
   split
   ·rename_i q2
    rw[if_pos q2]at hgd
    have:=hgd [a7,num (s.roomAt x.a),cY] (by simp)
    exact hskip _ _ this.1 this.2 (by simp[gF])
   ·rfl
 rw[List.map_append,List.map_append,List.append_assoc,List.append_assoc]
 show s.parseW (_++((s.headW c i ((pages.findIdx? (· ==i)).isSome) x).map aC++(aC (s.entW i x)::ls)))=_
 rw[←e2]
 cases hp:pages.findIdx? (· ==i)with
 | none=>rfl
 | some p =>
  rw[hp]at hgd
  have:=hgd (mU p) (by simp)
  exact hskip _ _ this.1 this.2 (by simp[gF,mU])
theorem i6{s:Bill}{c:List Ent}{pages:List Nat}(h:TextOk s c pages):∀(n i:Nat),i+n=c.length→s.parseW (((List.range' i n).flatMap (s.rowW c pages)).map aC)=some (c.drop i)
 | 0,i,hi=>by rw[List.drop_eq_nil_of_le (by omega)];rfl
 | n+1,i,hi=>by
  have hx:c[i]?=some c[i]:=List.getElem?_eq_getElem (by omega)
  have hd:c.drop i=c[i]::c.drop (i+1):=List.drop_eq_getElem_cons (by omega)
  rw[List.range'_succ,List.flatMap_cons,List.map_append,zR h hx,i6 h n (i+1) (by omega),hd]
  rfl
theorem zS{s:Bill}{c:List Ent}{pages:List Nat}(h:TextOk s c pages):s.parse ((s.rowsW c pages).flatMap aM)=some c:=by
 unfold Bill.parse
 rw[pT]
 ·unfold Bill.rowsW
  rw[List.range_eq_range']
  have:=i6 h c.length 0 (by omega)
  rwa [List.drop_zero]at this
 ·intro ws hws
  unfold Bill.rowsW at hws
  obtain⟨i,hi,hws⟩:=List.mem_flatMap.1 hws
  exact BH ws (uf h (List.mem_range.1 hi) ws hws).2
theorem jZ{s:Bill}{c:List Ent}(h:s.holds c=true):∀x∈c,s.OkE x:=(jX.1 h).1.ok
theorem jY{s:Bill}(hg:s.Good){c:List Ent}(h:s.holds c=true):c.length≤s.figs.length:=by
 have hc:=(jX.1 h).1
 have:=hc.asc.len (n:=s.figs.length) (by omega) (by omega) fun x hx=>(hc.ok x hx).a.2
 omega
theorem oB{s:Bill}(hg:s.Good){c:List Ent}(hc:∀x∈c,s.OkE x):∃l w,s.press c 0=fH l w∧mA (s.press c 0)=l∧bK c 0 l∧s.whiteL c l=some w:=by
 obtain⟨l,w,e,h1,h2⟩:=(kK hg hc).is
 refine⟨l,w,e,?_,h1,h2⟩
 rw[e]
 exact ed l
theorem JB{s:Bill}(hg:s.Good){c:List Ent}(h:s.holds c=true):TextOk s c (mA (s.press c 0)):=by
 obtain⟨l,w,e,e2,h1,_⟩:=oB hg (jZ h)
 have h6:=hg.len
 have h7:=jY hg h
 have h8:=cG h1
 exact⟨hg,jZ h,by omega,by rw[e2];omega⟩
theorem zX{s:Bill}(hg:s.Good){c:List Ent}(h:s.holds c=true):s.parse (s.textL c)=some c:=zS (JB hg h)
def Bill.refRead(s:Bill)(t:Bs):List Ent×Int:=match s.cats.find? fun c=>decide (s.textL c=t)with
 | none=>([],6)
 | some c=>(c,0)
theorem Ja{s:Bill}(hg:s.Good)(t:Bs):(match s.parse t with
  | none=>([],6)
  | some l=>if s.holds l=true∧s.textL l=t then(l,(0:Int))else([],6))=s.refRead t:=by
 unfold Bill.refRead
 cases hf:s.cats.find? fun c=>decide (s.textL c=t)with
 | none =>
  simp only
  cases hp:s.parse t with
  | none=>rfl
  | some l =>
   simp only
   rw[if_neg]
   rintro⟨h1,h2⟩
   have:=List.find?_eq_none.1 hf l ((iu hg l).2 h1)
   exact this (decide_eq_true h2)
 | some c =>
  have h1:=(iu hg c).1 (List.mem_of_find?_eq_some hf)
  have h2:s.textL c=t:=by have:=List.find?_some hf;simpa using this
  rw[←h2,zX hg h1]
  simp only
  rw[if_pos ⟨h1,by simp⟩]
end Go.Proofs.YtgncapdjheghfaaGreatDoor
namespace Go.Proofs.YtgncapdjheghfaaGreatDoor
open Go.Am Go.Proofs Go
theorem f7{α:Type}(g:Nat→α→Int):∀(l:List α) (i:Nat),(∀(j:Nat) x,l[j]?=some x→g (i+j) x=0)→a6 g i l=(0,0)
 | [],i,_=>rfl
 | y::l,i,h=>by
  unfold a6
  rw[if_pos (show g i y=0 from h 0 y rfl)]
  refine f7 g l (i+1) fun j x hx=>?_
  have:=h (j+1) x (by simpa using hx)
  rw[show i+(j+1)=i+1+j by omega]at this
  exact this
theorem Bill.Good.check{s:Bill}(hg:s.Good):s.check=(0,0,0):=by
 have h1:s.figsErr=(0,0):=by
  refine f7 _ _ 0 fun j x hx=>?_
  have hm:=hg.figs x (List.mem_of_getElem? hx)
  rw[Nat.zero_add]
  unfold fL
  rw[if_neg (by rw[hm.1.1];simp),if_neg,if_neg (by rw[hm.1.2];simp),if_neg,if_neg]
  ·unfold dx
   cases j with
   | zero=>simp
   | succ j =>
    obtain⟨y,hy⟩:∃y,s.figs[j]?=some y:=⟨_,List.getElem?_eq_getElem (by have:=(List.getElem?_eq_some_iff.1 hx).1;omega)⟩
    rw[List.take_add_one,hy]
    have:=hg.rooms j y x hy hx
    simp;exact this
  ·simp only[Bool.not_eq_true,Bool.or_eq_false_iff,bD]
   exact⟨hm.2.1,hm.2.2⟩
  ·rw[Bool.not_eq_true,List.any_eq_false]
   intro y hy
   rw[List.mem_take_iff_getElem]at hy
   obtain⟨i,hi,rfl⟩:=hy
   have:=hg.apart i j s.figs[i] x (by omega) (List.getElem?_eq_getElem (by omega)) hx
   simpa using this
 have h2:s.truthsErr=(0,0):=by
  refine f7 _ _ 0 fun j x hx=>?_
  have hm:=hg.truths x (List.mem_of_getElem? hx)
  rw[Nat.zero_add]
  unfold cN
  rw[if_neg,if_neg]
  ·rw[Bool.not_eq_true,List.any_eq_false]
   intro y hy e
   rw[decide_eq_true_eq]at e
   subst e
   rw[List.mem_take_iff_getElem]at hy
   obtain⟨i,hi,e⟩:=hy
   have hnd:=hg.apartT
   unfold List.Nodup at hnd
   rw[List.pairwise_iff_getElem]at hnd
   obtain⟨hj,e2⟩:=List.getElem?_eq_some_iff.1 hx
   exact hnd i j (by omega) hj (by omega) (e.trans e2.symm)
  ·rw[Bool.not_eq_true,bD];omega
 have h3:=hg.lines
 have h4:=hg.len
 have h5:=hg.lenT
 unfold Bill.check
 rw[if_neg (by rw[Bool.not_eq_true,bD];exact h3),if_neg (by omega),if_neg (by rw[h1];simp),if_neg (by rw[Bool.not_eq_true,bD];omega),if_neg (by rw[h2];simp)]
structure Alike (s t:Bill):Prop where
 len:t.figs.length=s.figs.length
 room:∀i,t.roomAt i=s.roomAt i
 all:∀i,t.inAll i=s.inAll i
 some:∀i,t.inSome i=s.inSome i
 one:∀a b,t.oneOf a b=s.oneOf a b
theorem Alike.someN{s t:Bill}(h:Alike s t):t.someN=s.someN:=by
 apply Nat.eq_of_testBit_eq
 intro i
 rw[dm,dm,h.some]
theorem Alike.so{s t:Bill}(h:Alike s t)(x:Ent):t.so x=s.so x:=by
 unfold Bill.so
 simp only[h.room,h.all,h.some,h.one]
theorem Alike.holdsL{s t:Bill}(h:Alike s t):∀(l:List Ent) (m:Nat) (p:Int),t.holdsL l m p=s.holdsL l m p
 | [],m,p=>by unfold Bill.holdsL;rw[h.someN]
 | x::l,m,p=>by unfold Bill.holdsL;rw[h.so,h.len,h.holdsL l]
theorem Alike.holds{s t:Bill}(h:Alike s t)(c:List Ent):t.holds c=s.holds c:=h.holdsL c 0 (-1)
theorem Alike.tries{s t:Bill}(h:Alike s t)(a:Nat):t.tries a=s.tries a:=by unfold Bill.tries;rw[h.len]
theorem Alike.catsN{s t:Bill}(h:Alike s t):∀(f a left:Nat),t.catsN f a left=s.catsN f a left
 | 0,_,_=>rfl
 | f+1,a,left=>by
  unfold Bill.catsN
  have e:t.fitsIn left=s.fitsIn left:=by funext x;unfold Bill.fitsIn;rw[h.so]
  simp only[h.catsN f,h.tries,e]
theorem Alike.cats{s t:Bill}(h:Alike s t):t.cats=s.cats:=by unfold Bill.cats;rw[h.someN,h.catsN]
def Bill.more(s:Bill):Bill:={ s with lines:=s.lines+1}
theorem pX(s:Bill):Alike s s.more:=⟨rfl,fun _=>rfl,fun _=>rfl,fun _=>rfl,fun _ _=>rfl⟩
theorem td{s:Bill}(hg:s.Good)(h:s.lines<30):s.more.Good :=
 ⟨by have:=hg.lines;show 14≤s.lines+1∧s.lines+1≤30;omega,hg.len,hg.figs,hg.apart,hg.rooms,hg.lenT,hg.truths,hg.apartT⟩
theorem BO(s:Bill)(c:List Ent)(i j:Nat):s.more.left c i j=s.left c i j+1:=by
 have h2:∀i t,s.more.lineOf c i t=s.lineOf c i t:=fun _ _=>rfl
 have h3:∀i n,s.more.linesOn c i n=s.linesOn c i n:=fun i n=>by
  induction n with
  | zero=>rfl
  | succ n ih=>unfold Bill.linesOn;rw[ih,h2]
 unfold Bill.left
 rw[h3]
 show s.lines+1-_=_
 omega
theorem qx(s:Bill)(c:List Ent):∀l w,s.whiteL c l=some w→∃v,s.more.whiteL c l=some v
 | [],w,_=>⟨0,rfl⟩
 | i::l,w,h=>by
  obtain⟨h1,v,h2,_⟩:=cV.1 h
  obtain⟨u,hu⟩:=qx s c l v h2
  exact⟨_,cV.2 ⟨by rw[BO];omega,u,hu,rfl⟩⟩
theorem EZ{s:Bill}(hg:s.Good)(h:s.lines<30){c:List Ent}(hc:∀x∈c,s.OkE x):s.more.few c≤s.few c:=by
 have ha:=pX s
 have hc':∀x∈c,s.more.OkE x:=fun x hx=>by
  obtain⟨h1,h2,h3,h4⟩:=hc x hx
  exact⟨h1,h2,h3,by rw[ha.so];exact h4⟩
 obtain⟨⟨l,w,h1,h2,h3⟩,_⟩:=m8 hg hc
 obtain⟨v,hv⟩:=qx s c l w h2
 have:=(m8 (td hg h) hc').2 l v h1 hv
 omega
def Bill.flat(s:Bill):Bill:={ s with lines:=30,figs:=s.figs.map fun f=>{ f with height:=1}}
theorem kX{s:Bill}{c:List Ent}:∀l w,s.whiteL c l=some w→0≤w
 | [],w,h=>by cases h;omega
 | i::l,w,h=>by
  obtain⟨h1,v,h2,rfl⟩:=cV.1 h
  have:=kX l v h2
  split
  ·have:=Int.mul_nonneg h1 h1;omega
  ·omega
def bR(left:Nat):Nat→List Int→List Int
 | _,[]=>[]
 | i,t::l=>if left.testBit i=true then t::bR left (i+1) l else bR left (i+1) l
def Bill.leftT(s:Bill)(left:Nat):Bill:={ s with truths:=bR left 0 s.truths}
theorem gI(left:Nat):∀(l:List Int) (i:Nat),(bR left i l).Sublist l
 | [],_=> .slnil
 | t::l,i=>by
  unfold bR
  split
  ·exact(gI left l (i+1)).cons_cons t
  ·exact(gI left l (i+1)).cons t
theorem mi{left:Nat}:∀{l:List Int} {i j:Nat} {t:Int},l[j]?=some t→left.testBit (i+j)=true→t∈bR left i l
 | [],i,j,t,h,_=>by simp at h
 | x::l,i,0,t,h,hb=>by
  simp at h;subst h
  unfold bR
  rw[if_pos (by simpa using hb)];simp
 | x::l,i,j+1,t,h,hb=>by
  have:=mi (l:=l) (i:=i+1) (j:=j) (by simpa using h) (by rw[show i+1+j=i+(j+1) by omega];exact hb)
  unfold bR
  split
  ·exact List.mem_cons_of_mem _ this
  ·exact this
theorem yY{s:Bill}(hg:s.Good){left:Nat}(h:(bR left 0 s.truths)≠[]):(s.leftT left).Good:=by
 have hs:=gI left s.truths 0
 have:=hg.lenT
 have h1:=hs.length_le
 have h2:(bR left 0 s.truths).length≠0:=fun e=>h (List.length_eq_zero_iff.1 e)
 exact⟨hg.lines,hg.len,hg.figs,hg.apart,hg.rooms,by show 1≤(bR left 0 s.truths).length∧(bR left 0 s.truths).length≤6;omega,fun t ht=>hg.truths t (hs.subset ht),hg.apartT.sublist hs⟩
theorem Hk{left n:Nat}{l:List Int}(hn:l.length=n)(h0:left≠0)(hlt:left<2^n):bR left 0 l≠[]:=by
 obtain⟨i,hi⟩:∃i,left.testBit i=true:=by
  refine Classical.byContradiction fun h=>h0 ?_
  apply Nat.eq_of_testBit_eq
  intro i
  rw[Nat.zero_testBit]
  exact Bool.eq_false_iff.2 fun e=>h ⟨i,e⟩
 have hin:i<n:=by
  rcases Nat.lt_or_ge i n with h|h
  ·exact h
  ·have:=Nat.testBit_lt_two_pow (Nat.lt_of_lt_of_le hlt (Nat.pow_le_pow_right (n:=2) (by omega) h))
   rw[this]at hi;simp at hi
 have:=mi (left:=left) (l:=l) (i:=0) (j:=i) (t:=l[i]) (List.getElem?_eq_getElem (by omega)) (by rw[Nat.zero_add];exact hi)
 intro e
 rw[e]at this
 simp at this
end Go.Proofs.YtgncapdjheghfaaGreatDoor
namespace Go.Proofs.YtgncapdjheghfaaGreatDoor
open Go.Am Go.Proofs Go
theorem nM{α:Type}(p:α→Bool):∀(l:List α) (i:Nat),decide (0≤ce p i l)=l.any p
 | [],i=>by simp[ce]
 | x::xs,i=>by
  simp only[ce,List.any_cons]
  by_cases h:p x=true
  ·simp[h]
  ·simp only[h]
   have:=nM p xs (i+1)
   simpa using this
theorem q7{α:Type}(p:α→Bool)(l:List α):decide (0≤idx p l)=l.any p:=nM p l 0
theorem eu(n l m:Int):PureA Tryz.prog 60 [aj n,aj l,aj m] (aB (bU n l m)):=by
 refine ag ao { l:=0,f:=60} mixed HL Tryz.func60 (by kernel_rfl) ?_
 conv=>whnf
 repeat(any_goals(first|exact ab|(refine ap ?_ ?_<;>intro _<;>first|exact aq|conv=>whnf)|((first|refine ac ?_|refine bi ?_ ?_|intro _)<;>conv=>whnf)))
 all_goals(refine⟨⟨?_⟩,trivial⟩;simp[*,bU,oneOf,aB])
theorem uD(n l m:Int):PureA Tryz.prog 92 [aj n,aj l,aj m] (aB (bU n l m)):=by
 refine ag ao { l:=0,f:=92} mixed Ia Tryz.func92 (by kernel_rfl) ?_
 conv=>whnf
 repeat(any_goals(first|exact ab|(refine ap ?_ ?_<;>intro _<;>first|exact aq|conv=>whnf)|((first|refine ac ?_|refine bi ?_ ?_|intro _)<;>conv=>whnf)))
 all_goals(refine⟨⟨?_⟩,trivial⟩;simp[*,bU,oneOf,aB])
theorem dy(n l m:Int):PureA Tryz.prog 51 [aj l,aj m,aj n] (aB (aW l m n)):=by
 refine ag ao { l:=0,f:=51} mixed HB Tryz.func51 (by kernel_rfl) ?_
 conv=>whnf
 repeat(any_goals(first|exact ab|(refine ap ?_ ?_<;>intro _<;>first|exact aq|conv=>whnf)|((first|refine ac ?_|refine bi ?_ ?_|intro _)<;>conv=>whnf)))
 all_goals(refine⟨⟨?_⟩,trivial⟩;simp[*,aW,oneOf,aB])
theorem ei{α:Type}{p:α→Bool}{l:List α}{i:Nat}{x:α}(hd:l.drop i=x::l.drop (i+1))(H:idx p l=ce p i (l.drop i)) :
 idx p l=if p x then(i:Int)else ce p (i+1) (l.drop (i+1)):=by rw[H,hd];rfl
theorem AR{s:ByteArray}{i:Nat}{b:UInt8}(h:s.data.toList[i]?=some b):iZ s i=b.toNat:=by
 unfold iZ
 rw[Array.getD_eq_getD_getElem?, ←Array.getElem?_toList,h];rfl
theorem rT(s:ByteArray):s.size=s.data.toList.length:=by simp
theorem Fk{s:ByteArray}(h:s.size≠0)(h2:s.size≤16):cp s=j9 true s.data.toList:=by
 have e:=rT s
 have h1:s.data.toList≠[]:=fun e'=>h (by rw[e,e'];rfl)
 unfold cp
 rw[decide_eq_true h1,decide_eq_true (by omega)]
 simp
theorem Fg(b:UInt8):bU (b.toNat:Int) 97 122=dw b:=by rw[Bool.eq_iff_iff];simp[bU,dw];omega
theorem IX(b:UInt8):fJ b=(bU (b.toNat:Int) 48 57||b.toNat==46):=by
 have:bU (b.toNat:Int) 48 57=(48≤b.toNat&&b.toNat≤57):=by rw[Bool.eq_iff_iff];simp[bU];omega
 simp[fJ,this]
theorem t7(s:ByteArray):PureA Tryz.prog 62 [aG s] (aB (cp s)):=by
 have hsz:=rT s
 refine ag ao { l:=0,f:=62} mixed HO Tryz.func62 (by kernel_rfl) ?_
 conv=>whnf
 repeat(any_goals(first|exact ab|(refine ap ?_ ?_<;>intro _<;>first|exact aq|conv=>whnf)|((first|refine ac ?_|refine bi ?_ ?_|intro _)<;>conv=>whnf)))
 ·rename_i h
  have:s.data.toList=[]:=List.eq_nil_of_length_eq_zero (by omega)
  (refine⟨⟨?_⟩,trivial⟩;simp[oneOf,aB,cp,this])
 ·rename_i h1 h2
  have:¬s.data.toList.length≤16:=by omega
  (refine⟨⟨?_⟩,trivial⟩;simp[oneOf,aB,cp];simp at this;omega)
 ·rename_i h1 h2
  have e0:=Fk (s:=s) (by omega) (by omega)
  have hle:s.size≤16:=by omega
  clear h1 h2
  refine aO ao { l:=0,f:=62} mixed (fun i:Nat=>[(3,aj i)]) (fun _=>[]) (fun _=>[]) (fun i=>i≤s.size∧cp s=j9 (i==0) (s.data.toList.drop i)) (fun i=>s.size-i) 0 (by kernel_rfl)
   ⟨Nat.zero_le _,e0⟩ ?_
  conv=>whnf
  refine⟨⟨ai rfl trivial,trivial,trivial⟩,?_⟩
  intro i ⟨hi,H⟩
  conv=>whnf
  refine bH (fun h1=>?_) (fun h1=>?_)
  ·obtain⟨b,hb,hd⟩:=ay (l:=s.data.toList) (i:=i) (by omega)
   have hba:iZ s i=b.toNat:=AR hb
   have hlt:=b.toNat_lt
   have hL:PureA Tryz.prog 92 [aj (iZ s (i:Int).toNat),aj 97,aj 122] (aB (dw b)):=by rw[Int.toNat_natCast,hba, ←Fg];exact uD _ _ _
   have hD:PureA Tryz.prog 92 [aj (iZ s (i:Int).toNat),aj 48,aj 57] (aB (bU b.toNat 48 57)):=by rw[Int.toNat_natCast,hba];exact uD _ _ _
   have h46:(iZ s (i:Int).toNat=46)=(b.toNat=46):=by rw[Int.toNat_natCast,hba];exact propext ⟨fun h=>by omega,fun h=>by omega⟩
   have hin:inI (iZ s (i:Int).toNat):=by rw[Int.toNat_natCast,hba];unfold inI;omega
   rw[hd]at H
   simp only[j9,IX]at H
   clear hlt hb hd hba e0
   conv=>whnf
   repeat(any_goals(first|exact ab|(refine ap ?_ ?_<;>intro _<;>first|exact aq|conv=>whnf)|((first|refine aa hL ?_|refine aa hD ?_|refine And.intro hin ?_|refine ac ?_|refine bi ?_ ?_|intro _)<;>conv=>whnf)))
   all_goals clear hL hD hin
   all_goals first
    | (refine⟨⟨?_⟩,trivial⟩;simp_all [oneOf,aB];done)
    | (refine⟨i+1,⟨by omega,by simp_all⟩,by omega,?_⟩;(conv=>whnf);refine⟨?_,?_,?_⟩<;>repeat(first|exact trivial|refine sc rfl ?_|refine kn ?_|refine kc rfl ?_))
  ·conv=>whnf
   have:s.data.toList.drop i=[]:=List.drop_eq_nil_of_le (by omega)
   rw[this]at H
   (refine⟨⟨?_⟩,trivial⟩;simp[oneOf,aB,H,j9])
theorem GT{s:ByteArray}{i:Nat}{b:UInt8}(h:s.data.toList[i]?=some b):s.get! i=b:=by
 have:s.data[i]?=some b:=by rw[←Array.getElem?_toList];exact h
 show s.data[i]! = b
 rw[getElem!_def,this]
theorem pC{s:ByteArray}{i:Nat}{b:UInt8}(h:s.data.toList[i]?=some b)(hb:b.toNat<128):Utf8.decode s i=(b.toNat,1):=by
 unfold Utf8.decode
 simp only[Nat.add_zero,GT h,if_pos hb]
theorem nB{s:ByteArray}{i:Nat}{b:UInt8}(h:s.data.toList[i]?=some b)(hb:¬b.toNat<128):128≤(Utf8.decode s i).1:=by
 unfold Utf8.decode
 simp only[Nat.add_zero,GT h,if_neg hb]
 repeat(first|split|(simp only[Utf8.runeError];omega)|(simp only[Bool.and_eq_true,decide_eq_true_eq]at *;omega))
theorem GZ(s:ByteArray)(hl:s.size≤1048576):PureA Tryz.prog 54 [aG s] (aB (cp s)):=by
 have hsz:=rT s
 refine ag ao { l:=0,f:=54} mixed HE Tryz.func54 (by kernel_rfl) ?_
 conv=>whnf
 refine aO ao { l:=0,f:=54} mixed (fun _:Nat=>[]) (fun i=>[(⟨0,54,7⟩,(1,some (0,[aG s,aj i])))]) (fun _=>[]) (fun i=>i≤s.size∧j9 true s.data.toList=j9 (i==0) (s.data.toList.drop i)) (fun i=>s.size-i) 0 (by kernel_rfl)
  ⟨Nat.zero_le _,rfl⟩ ?_
 conv=>whnf
 refine⟨⟨trivial,aL rfl trivial,trivial⟩,?_⟩
 intro i ⟨hi,H⟩
 conv=>whnf
 refine bH (fun h1=>?_) (fun h1=>?_)
 ·obtain⟨b,hb,hd⟩:=ay (l:=s.data.toList) (i:=i) (by omega)
  rw[hd]at H
  simp only[j9]at H
  have hlt:=b.toNat_lt
  by_cases h128:b.toNat<128
  ·have hdec:Utf8.decode s (i:Int).toNat=(b.toNat,1):=by rw[Int.toNat_natCast];exact pC hb h128
   have hc:((Utf8.decode s (i:Int).toNat).1:Int)=b.toNat:=by rw[hdec]
   conv=>whnf
   repeat(any_goals(first|exact ab|(refine ap ?_ ?_<;>intro _<;>first|exact aq|conv=>whnf)|((first|refine ac ?_|refine bi ?_ ?_|intro _)<;>conv=>whnf)))
   all_goals first
    | omega
    | (refine⟨⟨?_⟩,trivial⟩;have hf:j9 true s.data.toList=false:=(by rw[H];first|(simp[dw,fJ];done)|(simp[dw,fJ];omega));simp[cp,hf,oneOf,aB];done)
    | (refine⟨i+1,⟨by omega,by(rw[H];first|(simp[dw,fJ];done)|(simp[dw,fJ];omega))⟩,by omega,?_⟩;(conv=>whnf);exact⟨by repeat(first|exact trivial|refine sc rfl ?_),aL (by simp only[hdec];rfl) trivial,trivial⟩)
  ·have hdec:128≤(Utf8.decode s (i:Int).toNat).1:=by rw[Int.toNat_natCast];exact nB hb h128
   have hf:j9 true s.data.toList=false:=by
    have h1:dw b=false:=by simp[dw];omega
    have h2:fJ b=false:=by simp[fJ];omega
    rw[H,h1,h2];simp
   conv=>whnf
   repeat(any_goals(first|exact ab|(refine ap ?_ ?_<;>intro _<;>first|exact aq|conv=>whnf)|((first|refine ac ?_|refine bi ?_ ?_|intro _)<;>conv=>whnf)))
   all_goals first
    | omega
    | (refine⟨⟨?_⟩,trivial⟩;simp[cp,hf,oneOf,aB];done)
 ·conv=>whnf
  have hdr:s.data.toList.drop i=[]:=List.drop_eq_nil_of_le (by omega)
  rw[hdr]at H
  repeat(any_goals(first|exact ab|(refine ap ?_ ?_<;>intro _<;>first|exact aq|conv=>whnf)|((first|refine ac ?_|refine bi ?_ ?_|intro _)<;>conv=>whnf)))
  ·rename_i h
   (refine⟨⟨?_⟩,trivial⟩;simp[cp,oneOf,aB,h])
  ·rename_i h
   have hne:s.data.toList≠[]:=fun e=>h (by cases s with|mk a=>simp at e;simp[e])
   have h16:decide ((s.size:Int)≤16)=decide (s.data.toList.length≤16):=by rw[hsz,Bool.eq_iff_iff,decide_eq_true_eq,decide_eq_true_eq];omega
   refine⟨⟨?_⟩,trivial⟩
   rw[h16]
   simp only[cp,oneOf,aB,H,j9,decide_eq_true hne,Bool.and_true,Bool.true_and]
theorem tJ(a b:Int):zB false a b=min a b:=by
 simp only[zB]
theorem FN(l:List ByteArray)(s:ByteArray)(hl:l.length≤1048576):PureA Tryz.prog 91 [FT l,aG s] (aj (idx (fun x=>decide (x=s)) l)):=by
 refine ag ao { l:=0,f:=91} mixed H9 Tryz.func91 (by kernel_rfl) ?_
 conv=>whnf
 refine aO ao { l:=0,f:=91} mixed (fun i:Nat=>[(5,aj i)]) (fun _=>[]) (fun _=>[]) (fun i=>i≤l.length∧idx (fun x:ByteArray=>decide (x=s)) l=ce (fun x:ByteArray=>decide (x=s)) i (l.drop i)) (fun i=>l.length-i) 0 (by kernel_rfl)
  ⟨Nat.zero_le _,rfl⟩ ?_
 conv=>whnf
 refine⟨⟨ai rfl trivial,trivial,trivial⟩,?_⟩
 intro i ⟨hi,H⟩
 conv=>whnf
 refine bH (fun h1=>?_) (fun h1=>?_)
 ·simp only[List.length_map]at h1
  obtain⟨x,hx,hd⟩:=ay (l:=l) (i:=i) (by omega)
  have H':=ei hd H
  conv=>whnf
  repeat(any_goals(first|exact ab|(refine ap ?_ ?_<;>intro _<;>first|exact aq|conv=>whnf)|((first|refine ae hx rfl ?_|refine ac ?_|refine bi ?_ ?_|intro _)<;>conv=>whnf)))
  ·rename_i he
   simp only[he,decide_true,if_true]at H'
   (refine⟨⟨?_⟩,trivial⟩;simp[oneOf,aj,H'])
  ·rename_i he
   simp only[he,decide_false,Bool.false_eq_true,if_false]at H'
   (refine⟨i+1,⟨by omega,H'⟩,by omega,?_⟩;(conv=>whnf);refine⟨?_,?_,?_⟩<;>repeat(first|exact trivial|refine sc rfl ?_|refine kn ?_|refine kc rfl ?_))
 ·conv=>whnf
  simp only[List.length_map]at h1
  have:i=l.length:=by omega
  subst this
  (refine⟨⟨?_⟩,trivial⟩;simp[oneOf,aj,H,ce])
def tg(s:ByteArray)(l:List ByteArray):Int:=if cp s=false then 6 else if l.any (fun x=>decide (x=s))=true then 5 else 0
theorem LF(l:List ByteArray)(s:ByteArray)(hl:l.length≤1048576):PureA Tryz.prog 61 [aG s,FT l] (aj (tg s l)):=by
 have hn:=t7 s
 have hi:=FN l s hl
 have hx:=q7 (fun x=>decide (x=s)) l
 unfold tg
 rw[←hx]
 generalize cp s=b at *
 generalize idx (fun x=>decide (x=s)) l=n at *
 refine ag ao { l:=0,f:=61} mixed HN Tryz.func61 (by kernel_rfl) ?_
 conv=>whnf
 cases b
 ·repeat(any_goals(first|exact ab|(refine ap ?_ ?_<;>intro _<;>first|exact aq|conv=>whnf)|((first|refine aa hn ?_|refine aa hi ?_|refine ac ?_|refine bi ?_ ?_|intro _)<;>conv=>whnf)))
  all_goals(refine⟨⟨?_⟩,trivial⟩;simp[oneOf,aj, *])
 ·repeat(any_goals(first|exact ab|(refine ap ?_ ?_<;>intro _<;>first|exact aq|conv=>whnf)|((first|refine aa hn ?_|refine aa hi ?_|refine ac ?_|refine bi ?_ ?_|intro _)<;>conv=>whnf)))
  all_goals(refine⟨⟨?_⟩,trivial⟩;simp[oneOf,aj, *])
end Go.Proofs.YtgncapdjheghfaaGreatDoor
