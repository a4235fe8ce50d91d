/- Part 5 of the texts that the last one stands on. -/
import Derived.Lib.Builder
import Derived.Lib.UnsafeStr
import Derived.Test.YtgncapdjheghfaaDoorProg
import Derived.Test.YtgncapdjheghfaaDoorRows
import Derived.WalkKit
import Derived.ProofKit
import Derived.OpenShut
import Derived.JoinedCond
import Derived.Carry
import Derived.Test.YtgncapdjheghfaaDoorTie
import Derived.Deep.DeepHandedRow
import Derived.Lib.LaidTab
import Derived.Test.YtgncapdjheghfaaDoorA4
set_option linter.unusedVariables false
set_option linter.unusedSimpArgs false
namespace Go.Am
open Go.RowKit
def AV.plain1:AV→Bool
 | .v _=>true
 | _=>false
def AV.plainL:List AV→Bool
 | []=>true
 | x::xs=>match x.plain1 with
  | true=>AV.plainL xs
  | false=>false
def AV.plain:AV→Bool
 | .v _=>true
 | .agg cs=>AV.plainL cs
 | .tuple cs=>match cs with
  | [.agg a,.v _]=>AV.plainL a
  | cs=>AV.plainL cs
 | _=>false
theorem AV.plainL_get:∀{cs:List AV},AV.plainL cs=true→∀(i:Nat) (x:AV),cs[i]?=some x→∃v,x = .v v
 | [],_,i,x,h=>by simp at h
 | a::cs,h,i,x,hx=>by
  simp only[AV.plainL]at h
  split at h
  ·rename_i h1
   cases i with
   | zero =>
    simp at hx;subst hx
    cases a<;>simp[AV.plain1]at h1
    exact⟨_,rfl⟩
   | succ i=>exact AV.plainL_get h i x (by simpa using hx)
  ·simp at h
theorem PRel.plain1{w w':World}{imm imm':Nat→Nat→Prop}{x:AV}{y:Value}(hp:∃v,x = .v v)(h:PRel w imm x y):PRel w' imm' x y:=by
 obtain⟨v,rfl⟩:=hp
 cases h
 exact .v _
theorem PRel.plain{w w':World}{imm imm':Nat→Nat→Prop}{x:AV}{y:Value}(hp:x.plain=true)(h:PRel w imm x y):PRel w' imm' x y:=by
 cases x<;>simp only[AV.plain]at hp<;>try(simp at hp;done)
 ·cases h;exact .v _
 ·cases h with
  | agg hl hc h1=>exact .agg hl (fun i x y hx hy=>(hc i x y hx hy).plain1 (AV.plainL_get hp i x hx)) h1
 ·cases h with
  | tuple hl hc =>
   refine .tuple hl fun i x y hx hy=>?_
   split at hp
   ·rename_i a v
    match i,hx with
    | 0,hx =>
     simp at hx;subst hx
     have:=hc 0 (.agg a) y rfl hy
     cases this with
     | agg hl hc h1=>exact .agg hl (fun i x y hx hy=>(hc i x y hx hy).plain1 (AV.plainL_get hp i x hx)) h1
    | 1,hx =>
     simp at hx;subst hx
     exact(hc 1 _ y rfl hy).plain1 ⟨_,rfl⟩
    | n+2,hx=>simp at hx
   ·exact(hc i x y hx hy).plain1 (AV.plainL_get hp i x hx)
theorem PureA.plain{P:Program}{f:FuncId}{args:List AV}{res:AV}(h:PureA P f args res)(hp:res.plain=true):PureF P f args res :=
 ⟨h.1,fun w imm cargs hi hr=>(h.2 w imm cargs hi hr).mono fun _ _ ⟨y,_,he,_,h2,h3⟩=>⟨y,fun _ _=>False,he,fun _ _ h=>h.elim,h2.plain hp,h3⟩⟩
theorem aa{P:Program}{f:FuncId}{args:List AV}{res:AV}{K:AV→Prop}(h:PureA P f args res)(k:K res):BL P f args false K:=⟨res,h,k⟩
theorem ah{P:Program}{f:FuncId}{args:List AV}{res:AV}{K:AV→Prop}(h:PureA P f args res)(hp:res.plain=true)(k:K res):BL P f args true K:=⟨res,h.plain hp,k⟩
theorem aF{α:Type}{l:List α}{i:Nat}(h:i<l.length):∃x,l[i]?=some x∧l.drop i=x::l.drop (i+1):=⟨l[i],by simp[h],List.drop_eq_getElem_cons h⟩
theorem af{α:Type}{f:α→AV}{l:List α}{n:Int}{i:Nat}{x:α}{K:AV→Prop}(hx:l[i]?=some x)(hn:n=i)(h:K (f x)):iv (nth (l.map f) n.toNat) K:=by
 subst hn
 refine ab (x:=f x) ?_ h
 rw[cM];simp[hx]
theorem ac(h:False:=by first|omega|(simp only[List.length_map,List.length_take,List.length_append,List.length_cons,List.length_nil,not_true_eq_false]at * <;>omega)):False:=h
theorem BJ{p K:Prop}(k:K)(h:p:=by first|omega|(simp[inI,maxLen];done)|(simp[inI,maxLen];omega)|(simp[inI,maxLen]at *;omega)):p∧K:=⟨h,k⟩
theorem okI{b:Bool}{K:Prop}(k:K)(h:b=true:=by first|exact Nat.beq_refl _|(simp[AV.cells];done)|(simp[AV.cells];omega)):okP b K:=iW h k
theorem dI{ops:Array Oper}{infos:List (List Loc×List Loc)}{K:Prop}(k:K)(h:ku ops infos=true:=by kernel_rfl):DrawOk ops infos∧K:=⟨⟨h⟩,k⟩
theorem bd{p:Prop}[Decidable p]{A B:Prop}(h:p→A)(k:¬p→B):brP (decide p) A B:=bQ h k
theorem bn{p:Prop}[Decidable p]{A B:Prop}(h:p→B)(k:¬p→A):brP (!decide p) A B:=zf h k
theorem bi{b:Bool}{A B:Prop}(h:b=true→A)(k:b=false→B):brP b A B:=vU h k
theorem bt{n:Nat}{A B:Prop}(h:A):brP (Nat.beq n n) A B:=bO (Nat.beq_refl _) h
theorem ae{G H:Prop}(k:H)(h:H→G:=by first|exact fun k=>dI k|exact fun k=>okI k|exact fun k=>bt k|exact fun k=>BJ k):G:=h k
theorem ao{G A B:Prop}(h:A)(k:B)(e:A→B→G:=by first|exact fun h k=>bd h k|exact fun h k=>bn h k):G:=e h k
theorem ap{G:Prop}(h:False:=by omega):G:=h.elim
theorem sc{l l':List (Nat×AV)}{i:Nat}{v:AV}(h:ck l i=some v)(k:gd l l'):gd l ((i,v)::l'):=aj h k
theorem kc{α:Type}{z:α}{l l':List (Key×Option α)}{k:Key}{c:α}(h:aU l k=some (some c))(t:ct z l l'):ct z l ((k,some c)::l'):=bv h t
theorem kn{α:Type}{z:α}{l l':List (Key×Option α)}{k:Key}(t:ct z l l'):ct z l ((k,none)::l'):=rY t
theorem cO{P:Program}{f:FuncId}{fn:Func}(h:P.funcs[f]?=some fn)(h1:(fn.name == "runtime.NumGoroutine")=false:=by kernel_rfl)(h2:fn.body.isNone=false:=by kernel_rfl):al P f:=ri h h1 h2
end Go.Am
namespace Go.Am
open Go
def Wk(x x':AV):Prop:=∀(w:World) (imm:Nat→Nat→Prop) (y:Value),PRel w imm x y→PRel w imm x' y
theorem Wk.refl(x:AV):Wk x x:=fun _ _ _ h=>h
def nw:AV:= .slice 0 [] .no
theorem Wk.nil(sz:Nat):Wk nw (.slice sz [] .no):=fun w imm y h=>by
 unfold nw at h
 cases h with
 | nil=>exact .nil sz .no (.inl rfl)
 | slice ys hcap ht hm hsz hc hp =>
  exact PRel.slice (es:=[]) (fun _ _=> .bool false) (Nat.zero_le _) (.inl rfl) hm (fun i e h=>by simp at h) (fun i e c x h=>by simp at h) (fun i e c x h=>by simp at h)
def WkL:List AV→List AV→Prop
 | [],[]=>True
 | x::xs,y::ys=>Wk x y∧WkL xs ys
 | _,_=>False
theorem WkL.refl:∀l:List AV,WkL l l
 | []=>trivial
 | x::xs=>⟨Wk.refl x,WkL.refl xs⟩
theorem WkL.cons{x x':AV}{l l':List AV}(h:Wk x x')(t:WkL l l'):WkL (x::l) (x'::l'):=⟨h,t⟩
theorem WkL.get:∀{l l':List AV},WkL l l'→l.length=l'.length∧∀(i:Nat) (x':AV),l'[i]?=some x'→∃x,l[i]?=some x∧Wk x x'
 | [],[],_=>⟨rfl,fun i x' h=>by simp at h⟩
 | x::xs,y::ys,h=>by
  obtain⟨h1,h2⟩:=WkL.get h.2
  refine⟨by simp[h1],fun i x' hx=>?_⟩
  cases i with
  | zero=>simp at hx;subst hx;exact⟨x,rfl,h.1⟩
  | succ i=>exact h2 i x' (by simpa using hx)
theorem Wk.tuple{l l':List AV}(h:WkL l l'):Wk (.tuple l) (.tuple l'):=fun w imm y hy=>by
 obtain⟨h1,h2⟩:=h.get
 cases hy with
 | tuple hl hp =>
  refine .tuple (by rw[hl,h1]) fun i x y hx hy=>?_
  obtain⟨u,hu,hw⟩:=h2 i x hx
  exact hw _ _ _ (hp i u y hu hy)
theorem Wk.agg{l l':List AV}(h:WkL l l'):Wk (.agg l) (.agg l'):=fun w imm y hy=>by
 obtain⟨h1,h2⟩:=h.get
 cases hy with
 | agg hl hp ho =>
  refine .agg (by rw[hl,h1]) (fun i x y hx hy=>?_) ho
  obtain⟨u,hu,hw⟩:=h2 i x hx
  exact hw _ _ _ (hp i u y hu hy)
theorem PureA.wk{P:Program}{f:FuncId}{args:List AV}{res res':AV}(h:PureA P f args res)(hw:Wk res res'):PureA P f args res' :=
 ⟨h.1,fun w imm cargs hi hr=>(h.2 w imm cargs hi hr).mono fun _ _ ⟨y,imm',he,h1,h2,h3⟩=>⟨y,imm',he,h1,hw _ _ _ h2,h3⟩⟩
theorem PureF.wk{P:Program}{f:FuncId}{args:List AV}{res res':AV}(h:PureF P f args res)(hw:Wk res res'):PureF P f args res' :=
 ⟨h.1,fun w imm cargs hi hr=>(h.2 w imm cargs hi hr).mono fun _ _ ⟨y,imm',he,h1,h2,h3⟩=>⟨y,imm',he,h1,hw _ _ _ h2,h3⟩⟩
theorem kK.wk{w:World}{imm:Nat→Nat→Prop}{args args':List AV}{cargs:Array Value}(h:kK w imm args cargs)(hw:WkL args args'):kK w imm args' cargs:=by
 obtain⟨h1,h2⟩:=hw.get
 refine⟨by rw[h.1,h1],fun i x y hx hy=>?_⟩
 obtain⟨u,hu,hk⟩:=h2 i x hx
 exact hk _ _ _ (h.2 i u y hu hy)
theorem PureA.args{P:Program}{f:FuncId}{args args':List AV}{res:AV}(h:PureA P f args' res)(hw:WkL args args'):PureA P f args res :=
 ⟨h.1,fun w imm cargs hi hr=>h.2 w imm cargs hi (hr.wk hw)⟩
theorem kK.put{w:World}{imm:Nat→Nat→Prop}{pre post:List AV}{x x':AV}{cargs:Array Value}(h:kK w imm (pre++x::post) cargs)
  (hx:∀y,PRel w imm x y→cargs[pre.length]?=some y→PRel w imm x' y):kK w imm (pre++x'::post) cargs:=by
 refine⟨by rw[h.1];simp,fun i u y hu hy=>?_⟩
 by_cases hi:i=pre.length
 ·subst hi
  have hu':u=x':=by simpa using hu.symm
  subst hu'
  exact hx y (h.2 pre.length x y (by simp) hy) hy
 ·refine h.2 i u y ?_ hy
  rw[List.getElem?_append]at hu ⊢
  by_cases hl:i<pre.length
  ·simpa[hl]using hu
  ·simp only[if_neg hl]at hu ⊢
   obtain⟨j,hj⟩:∃j,i-pre.length=j+1:=⟨i-pre.length-1,by omega⟩
   rw[hj]at hu ⊢
   simpa using hu
theorem PureA.empty{P:Program}{f:FuncId}{pre post:List AV}{sz:Nat}{tok:Tok}{res:AV}(hn:PureA P f (pre++ .v (.slice none 0 0)::post) res)
  (hs:∀b o c,c≤maxLen→PureA P f (pre++ .v (.slice (some ⟨b,o,none⟩) 0 c)::post) res):PureA P f (pre++ .slice sz [] tok::post) res:=by
 refine⟨hn.1,fun w imm cargs hi hr=>?_⟩
 obtain⟨y,hy⟩:∃y,cargs[pre.length]?=some y:=by
  have:pre.length<cargs.size:=by rw[hr.1];simp
  exact⟨cargs[pre.length],by simp[this]⟩
 have hp:=hr.2 pre.length (.slice sz [] tok) y (by simp) hy
 cases hp with
 | nil=>exact hn.2 w imm cargs hi (hr.put fun y' _ hy'=>by rw[hy]at hy';cases hy';exact .v _)
 | slice ys hcap ht hm=>exact(hs _ _ _ hm).2 w imm cargs hi (hr.put fun y' _ hy'=>by rw[hy]at hy';cases hy';exact .v _)
def AV.bare:AV→Bool
 | .slice _ _ (.own _ _)=>false
 | .slice _ _ _=>true
 | .v _=>true
 | _=>false
theorem BoxA.pure{P:Program}{f:FuncId}{args:List AV}{res:AV}(h:BoxA P (.fn f) [] args res [])(hb:res.bare=true):PureA P f args res:=by
 refine⟨h.1,fun w imm cargs hi hr=>?_⟩
 let C:Ctx:={ w,imm,own:=fun _=>none,gb:=fun _=>0,jb:=fun _=>0,gt:=fun _=>0,hw:=fun _=>0}
 have hR:Rel 0 (fun b=>b<w.heap.size∧C.own b=none) w (eL []) C ⟨#[],[]⟩ w:={
  cw:=rfl,glob:=hi.glob,size:=rfl,defers:=jt.nil _ _,slot:=fun i hi=>absurd hi (by omega)
  gb:=fun k=>rfl,gt:=fun k=>rfl,hw:=fun k=>rfl
  box:=fun k sz es h=>by simp[eL,b8]at h
  ownBox:=fun b k h=>by simp[C]at h
  immLt:=hi.lt
  ownLt:=fun b o h=>by simp[C]at h
  below:=Bel.refl _ _
  base:=fun b h=>h.1}
 refine(h.2 C w cargs hR (fun b o h=>by simp[C]at h) ⟨hr.1,fun i x y hx hy=> .pure (hr.2 i x y hx hy)⟩).mono ?_
 rintro e w' ⟨y,S',C',rfl,hle,hR',hk,_⟩
 refine⟨y,C'.imm,rfl,fun b i hb'=>⟨hR'.immLt b i hb',fun hl=>?_⟩,?_,n9 (hR'.below.mono fun b hb=>⟨hb,rfl⟩)⟩
 ·rcases hle.immOld b i hl hb' with h|⟨k,h⟩|⟨k,h,_⟩
  ·exact h
  ·simp[C]at h
  ·simp[C]at h
 ·rw[←hR'.cw]
  cases hk with
  | pure h=>exact h
  | _=>simp[AV.bare]at hb
def tT(w:World)(imm:Nat→Nat→Prop):Ctx:={ w,imm,own:=fun _=>none,gb:=fun _=>0,jb:=fun _=>0,gt:=fun _=>0,hw:=fun _=>0}
theorem vO{w:World}{imm:Nat→Nat→Prop}(hi:ImmOk w imm):Rel 0 (fun b=>b<w.heap.size∧(tT w imm).own b=none) w (eL []) (tT w imm) ⟨#[],[]⟩ w where
 cw:=rfl
 glob:=hi.glob
 size:=rfl
 defers:=jt.nil _ _
 slot:=fun i hi=>absurd hi (by omega)
 gb:=fun k=>rfl
 gt:=fun k=>rfl
 hw:=fun k=>rfl
 box:=fun k sz es h=>by simp[eL,b8]at h
 ownBox:=fun b k h=>by simp[tT]at h
 immLt:=hi.lt
 ownLt:=fun b o h=>by simp[tT]at h
 below:=Bel.refl _ _
 base:=fun b h=>h.1
theorem KRel.tuple2{C:Ctx}{a b:AV}{y:Value}(h:KRel C (.tuple [a,b]) y):∃u v,y = .tuple #[u,v]∧KRel C a u∧KRel C b v:=by
 have key:∀{vs:Array Value},vs.size=2→(∀(i:Nat) (x:AV) (y:Value),[a,b][i]?=some x→vs[i]?=some y→KRel C x y)→∃u v,(Value.tuple vs) = .tuple #[u,v]∧KRel C a u∧KRel C b v:=by
  intro vs h1 h2
  obtain⟨l⟩:=vs
  match l,h1 with
  | [u,v],_=>exact⟨u,v,rfl,h2 0 a u rfl rfl,h2 1 b v rfl rfl⟩
 cases h with
 | pure hp=>cases hp with
  | tuple hl hp=>exact key hl fun i x y h1 h2=> .pure (hp i x y h1 h2)
 | tuple hl hp=>exact key hl hp
theorem BoxA.fresh{P:Program}{f:FuncId}{args:List AV}{k:Key}{g sz cap:Nat}{es:List AV}{u:Value}(hs0:sz≠0)(hv:∀e∈es,∀x∈e.cells,∃z,x = .v z)
  (h:BoxA P (.fn f) [] args (.tuple [.own k g sz es.length cap,.v u]) [(k,g,sz,es)]):PureF P f args (.tuple [.slice sz es .no,.v u]):=by
 refine⟨h.1,fun w imm cargs hi hr=>?_⟩
 refine(h.2 (tT w imm) w cargs (vO hi) (fun b o h=>by simp[tT]at h) ⟨hr.1,fun i x y hx hy=> .pure (hr.2 i x y hx hy)⟩).mono ?_
 rintro e w' ⟨y,S',C',rfl,hle,hR',hk,hp⟩
 have hbox:=hp _ (List.mem_singleton.2 rfl)
 simp only at hbox
 obtain⟨y0,y1,rfl,hk0,hk1⟩:=hk.tuple2
 have hgb:C'.gb k=g:=by rw[hR'.gb,hbox]
 have hbk:=hR'.box k sz es (by rw[hbox])
 have hbel:RowKit.Below w.heap.size w w':=n9 (hR'.below.mono fun b hb=>⟨hb,rfl⟩)
 have two:∀imm':Nat→Nat→Prop,PRel w' imm' (.slice sz es .no) y0→PRel w' imm' (.tuple [.slice sz es .no,.v u]) (.tuple #[y0,y1]):=by
  intro imm' h0
  have h1:y1=u:=hk1.val rfl
  subst h1
  refine .tuple rfl fun i x y hx hy=>?_
  match i with
  | 0=>simp at hx hy;subst hx hy;exact h0
  | 1=>simp at hx hy;subst hx hy;exact .v _
  | i+2=>simp at hx
 by_cases hne:es=[]
 ·subst hne
  refine⟨_,fun _ _=>False,rfl,fun b i hb=>hb.elim,two _ ?_,hbel⟩
  cases hk0 with
  | pure hp=>cases hp
  | ownOld hlt=>omega
  | own hn hm=>exact PRel.slice (es:=[]) (fun _ _=> .bool false) hn (.inl rfl) hm (fun i e h=>by simp at h) (fun i e c x h=>by simp at h) (fun i e c x h=>by simp at h)
  | ownNil hb =>
   rcases hb with rfl|⟨x,z,rfl⟩
   ·exact .nil sz .no (.inl rfl)
   ·exact PRel.slice (es:=[]) (fun _ _=> .bool false) (Nat.le_refl _) (.inl rfl) (Nat.zero_le _) (fun i e h=>by simp at h) (fun i e c x h=>by simp at h) (fun i e c x h=>by simp at h)
 ·obtain⟨ho,arr,et,ha,hl,hc⟩:=hbk.own hs0 hne
  have hnew:=hR'.ownLt _ _ ho
  refine⟨_,fun b i=>b=C'.jb k∧i<arr.size,rfl,fun b i hb=>?_,two _ ?_,hbel⟩
  ·obtain⟨rfl,_⟩:=hb
   exact⟨hnew.2,fun hlt=>hnew.1 ⟨hlt,rfl⟩⟩
  ·have hn0:es.length≠0:=fun e=>hne (List.length_eq_zero_iff.1 e)
   generalize hN:es.length=N at hk0
   cases hk0 with
   | pure hp=>cases hp
   | ownOld hlt=>omega
   | own hn hm =>
    subst hN
    rw[hR'.cw]at ha
    refine PRel.slice (fun i c=>(arr[i * sz+c]?).getD (.bool false)) hn (.inl rfl) hm (fun i e he=>hbk.wid hs0 i e he) (fun i e c x he hx=>?_) (fun i e c x he hx=>?_)
    ·obtain⟨y,hy,_,h1⟩:=hc i e c x he hx
     have hlt:=(Array.getElem?_eq_some_iff.1 hy).1
     refine⟨?_,⟨rfl,by omega⟩,by rw[hy];exact h1⟩
     rw[Nat.zero_add,hy,Option.getD_some]
     unfold World.cell?
     simp only[ha]
     simpa using hy
    ·obtain⟨y,hy,hk,_⟩:=hc i e c x he hx
     obtain⟨z,rfl⟩:=hv e (List.mem_of_getElem? he) x (List.mem_of_getElem? hx)
     rw[hy,Option.getD_some,hk.val rfl]
     exact .v _
   | ownNil hb=>exact absurd hN hn0
end Go.Am
namespace Go.Am
open Go.RowKit
section
variable {P:Program} {N:Nat} {base:Nat→Prop} {w0:World} {S:St} {C:Ctx} {a:Act} {w:World}
theorem Rel.objSpoil(hR:Rel N base w0 S C a w)(k:Key)(o:C.own (C.jb k)=some (.box k)){w':World}
  (hother:∀b,b≠C.jb k→w'.heap[b]?=w.heap[b]?) (hsize:w'.heap.size=w.heap.size) (hos:w'.os=w.os) (ht:w'.tape=w.tape) (hout:w'.output=w.output) :
  ∃C',C.le C'∧C'.gb k=(S.box k).1+1∧Rel N base w0 (S.put (.box k ((S.box k).1+1,some (1000,[])))) C' a w':=by
 have hw:=hR.cw
 subst hw
 have hni:=hR.ownBox _ _ o
 obtain⟨C',hC'⟩:∃C':Ctx,C'={ C with w:=w',gb:=upd C.gb k (C.gb k+1)}:=⟨_,rfl⟩
 have hle:C.le C':=by
  refine⟨fun b i h=>⟨by rw[hC'];exact h,by rw[hC'];exact World.cell?_of_block (hother b fun e=>hni i (e▸h))⟩,fun x=>?_,fun x e=>by rw[hC'],fun x=>by rw[hC'];exact Nat.le_refl _,fun x _=>by rw[hC'];exact Nat.le_refl _,fun x b _ _ h=>?_,fun x e h=>?_,by rw[hC'];simp[hsize],fun b i _ h=>by rw[hC']at h;exact .inl h,fun b o _ h=>by rw[hC']at h;exact h,fun b _ h=>by rw[hC'];exact hother b fun e=>by rw[e,o]at h;cases h⟩
  ·rw[hC'];simp only[upd];split
   ·subst_vars;omega
   ·exact Nat.le_refl _
  ·have hne:b≠C.jb k:=fun e=>by rw[e,o]at h;cases h
   exact⟨by rw[hC'];exact h,fun i hi=>by rw[hC']at hi;exact hi,fun arr1 e h'=>⟨arr1,by rw[hC'];exact(hother b hne).trans h',rfl⟩⟩
  ·have hxk:x≠k:=fun e'=>by subst e';rw[hC']at e;simp[upd]at e
   have hne:C.jb x≠C.jb k:=fun e'=>by rw[e',o]at h;cases h;exact hxk rfl
   exact⟨by rw[hC'];exact h,fun arr e h'=>⟨arr,e,by rw[hC'];exact(hother _ hne).trans h',Nat.le_refl _⟩⟩
 refine⟨C',hle,by rw[hC', ←hR.gb];exact aP _ _ _,?_⟩
 exact {
  cw:=by rw[hC']
  glob:=hR.globOf hle.le0 (by rw[hC'])
  size:=hR.size,defers:=hR.defers.le hle,slot:=fun i hi=>(hR.slot i hi).le hle
  gb:=fun x=>by
   rw[hC'];simp only[St.put,upd];split
   ·subst_vars;simp[hR.gb]
   ·exact hR.gb x
  gt:=fun x=>by rw[hC'];exact hR.gt x
  hw:=fun x=>by rw[hC'];exact hR.hw x
  box:=fun x sz es h=>by
   by_cases e:x=k
   ·subst e
    simp only[St.put,aP,Option.some.injEq,Prod.mk.injEq]at h
    obtain⟨rfl,rfl⟩:=h
    exact⟨fun _ i e he=>by simp at he,fun h0=>absurd h0 (by decide),fun _ he=>absurd rfl he,fun _ _ _ he=>absurd rfl he,fun _ _ _ h1=>absurd h1 (by decide)⟩
   ·simp only[St.put,ew _ _ e]at h
    refine(hR.box x sz es h).mono hle (by rw[hC']) (fun _=>by rw[hC']) (fun ho=>by
     rw[hC']
     exact hother _ fun e'=>by rw[e',o]at ho;cases ho;exact e rfl)
  ownBox:=fun b x h=>by rw[hC']at h ⊢;exact hR.ownBox b x h
  immLt:=fun b i h=>by rw[hC']at h;have:=hR.immLt b i h;simpa[hsize]using this
  ownLt:=fun b o h=>by rw[hC']at h;have:=hR.ownLt b o h;simpa[hsize]using this
  below:=hR.below.trans ⟨hos,ht,hout,by omega,fun b hb=>hother b fun e=>(hR.ownLt _ _ o).1 (e▸hb)⟩,base:=hR.base}
theorem iO{C:Ctx}{x:AV}{ys:Array Value}(h:By C [x] ys):∃y,ys=#[y]∧KRel C x y:=by
 obtain⟨h1,h2⟩:=h
 obtain⟨l⟩:=ys
 obtain⟨y,rfl⟩:=List.length_eq_one_iff.1 (by simpa using h1)
 exact⟨y,rfl,h2 0 x y rfl rfl⟩
theorem og{pre:List bV}{T:TypeId}{k:Key}{g:Nat}{p x:AV}(hl:k.l=1000+2 * T)(hR:Rel N base w0 (eL pre) C a w)(hb:b8 pre k=(g,some (2,[.agg [p,x]]))) :
  C.gb k=g∧C.own (C.jb k)=some (.box k)∧∃y0 y1,w.heap[C.jb k]?=some (.cells #[y0,y1] T (0,0))∧(KRel C p y0∧y0.oneCell'=true)∧KRel C x y1∧y1.oneCell'=true:=by
 have hgb:C.gb k=g:=by rw[hR.gb];show(b8 pre k).1=g;rw[hb]
 have hB:=hR.box k 2 [.agg [p,x]] (by show(b8 pre k).2=_;rw[hb])
 obtain⟨o,arr,et,ha,_,hc⟩:=hB.own (by decide) (by simp)
 obtain⟨arr2,ha2,hs2⟩:=hB.ety T hl (by decide) (by simp)
 rw[ha]at ha2
 cases ha2
 rw[hR.cw]at ha
 obtain⟨y0,a1,a2,a3⟩:=hc 0 _ 0 p rfl rfl
 obtain⟨y1,b1,b2,b3⟩:=hc 0 _ 1 x rfl rfl
 refine⟨hgb,o,y0,y1,?_,⟨a2,a3⟩,b2,b3⟩
 have:arr=#[y0,y1]:=by
  obtain⟨l⟩:=arr
  match l,hs2 with
  | [u,v],_ =>
   simp at a1 b1
   rw[a1,b1]
 rw[←this];exact ha
theorem lu{pre:List bV}{k:Key}{g:Nat}{y:Value}(hR:Rel N base w0 (eL pre) C a w)(hg:C.gb k=g)(h:KRel C (.ptr k g 2 0 0) y):y = .pointer (some ⟨C.jb k,0,none⟩):=by
 have:=h.ptrCur hR (by rw[←hR.gb];exact hg)
 simpa using this
end
section
variable {P:Program} {f:FuncId} {T U:TypeId} {k kr:Key} {g gr:Nat} {x:AV}
theorem gJ(hl:k.l=1000+2 * T)(hc:al P f)
  (hrun:∀(b:Nat) (y:Value) (w:World),w.heap[b]?=some (.cells #[.pointer none,y] T (0,0))→Calls P f #[.pointer (some ⟨b,0,none⟩)] w fun e w'=>e = .returned (.tuple #[])∧w'=w.setCell ⟨b,0,none⟩ (.pointer (some ⟨b,0,none⟩))) :
  BoxA P (.fn f) [(k,g,2,[.agg [.v (.pointer none),x]])] [.ptr k g 2 0 0] (.tuple []) [(k,g,2,[.agg [.ptr k g 2 0 0,x]])]:=by
 refine⟨hc,fun C w cargs hR hown hk=>?_⟩
 obtain⟨y,rfl,hy⟩:=iO hk
 obtain⟨hgb,o,y0,y1,hh,⟨h0,_⟩,h1,h2⟩:=og (k:=k) hl hR (g:=g) (p:= .v (.pointer none)) (x:=x) (by simp[b8])
 obtain rfl:=lu hR hgb hy
 obtain rfl:y0 = .pointer none:=h0.val (z:= .pointer none) rfl
 refine Calls.mono (hrun _ _ w hh) fun e w' ⟨he,hw'⟩=>?_
 rw[setCell_eq_setRow w _ 0 _ T (0,0) _ hh]at hw'
 have hbx:((eL [(k,g,2,[.agg [.v (.pointer none),x]])]).box k).2=some (2,[.agg [.v (.pointer none),x]]):=by simp[eL,b8]
 have hg0:((eL [(k,g,2,[.agg [.v (.pointer none),x]])]).box k).1=g:=by simp[eL,b8]
 obtain⟨C',hle,hgb',hjb',hR'⟩:=hR.boxWrite k hbx (by decide) (by simp) [.agg [.ptr k g 2 0 0,x]] hh (#[.pointer none,y1].setIfInBounds 0 (.pointer (some ⟨C.jb k,0,none⟩))) (by simp)
  (fun i e he=>by cases i<;>simp at he;subst he;rfl) (by simp) (fun i e c z he hz=>by
   cases i<;>simp at he
   subst he
   match c with
   | 0=>simp[AV.cells]at hz;subst hz;exact⟨.pointer (some ⟨C.jb k,0,none⟩),by simp,by have:=KRel.mkPtr (C:=C) hR hg0 2 0 0;simpa using this,rfl⟩
   | 1=>simp[AV.cells]at hz;subst hz;exact⟨y1,by simp,h1,h2⟩
   | c+2=>simp[AV.cells]at hz)
 subst hw'
 refine⟨_,_,C',he,hle,hR',.tuple (by rfl) (fun i x y hx=>by simp at hx),fun p hp=>?_⟩
 rcases List.mem_singleton.1 hp with rfl
 simp only[St.put,aP]
 rw[hg0]
theorem q7{p:AV}{s:ByteArray}{c0:Nat}(hl:k.l=1000+2 * T)(hlr:kr.l=1001+2 * U)(hne:s.size≠0)(hc:al P f)
  (hrun:∀(b r cap:Nat) (y0:Value) (cur:Array Value) (w:World),w.heap[b]?=some (.cells #[y0,.slice (some ⟨r,0,none⟩) s.size cap] T (0,0))→w.heap[r]?=some (.cells cur U (0,0))→s.size≤cap→cap≤maxLen→cap≤cur.size →
   (∀(j:Nat) (x:UInt8),s.data.toList[j]?=some x→cur[j]?=some (.int .u8 x.toNat)) →
   Calls P f #[.pointer (some ⟨b,0,none⟩)] w fun e w'=>e = .returned (.string s)∧(∀b',b'≠r→w'.heap[b']?=w.heap[b']?)∧w'.heap.size=w.heap.size∧w'.os=w.os∧w'.tape=w.tape∧w'.output=w.output) :
  BoxA P (.fn f) [(k,g,2,[.agg [p,.own kr gr 1 s.size c0]]),(kr,gr,1,bP s)] [.ptr k g 2 0 0] (.v (.string s)) [(k,g,2,[.agg [p,.own kr gr 1 s.size c0]]),(kr,gr+1,1000,[])]:=by
 have hkk:¬kr=k:=fun e=>by
  rw[e,hl]at hlr
  have:∀a b:Nat,1000+2 * a≠1001+2 * b:=fun a b=>by omega
  exact this _ _ hlr
 refine⟨hc,fun C w cargs hR hown hk=>?_⟩
 obtain⟨y,rfl,hy⟩:=iO hk
 obtain⟨hgb,o,y0,y1,hh,_,h1,h2⟩:=og (k:=k) hl hR (g:=g) (p:=p) (x:= .own kr gr 1 s.size c0) (by simp[b8])
 obtain rfl:=lu hR hgb hy
 have hlk:b8 [(k,g,2,[.agg [p,.own kr gr 1 s.size c0]]),(kr,gr,1,bP s)] kr=(gr,some (1,bP s)):=by simp[b8,hkk]
 have hgr:C.gb kr=gr:=by rw[hR.gb];show(b8 _ kr).1=gr;rw[hlk]
 have hB:=hR.box kr 1 (bP s) (by show(b8 _ kr).2=_;rw[hlk])
 obtain⟨or,arr,har⟩:=hB.row U hlr (by decide) (by decide)
 have hbn:bP s≠[]:=fun e=>hne (by rw[←ju,e];rfl)
 obtain⟨_,arr2,et2,ha2,_,hcell⟩:=hB.own (by decide) hbn
 rw[har]at ha2
 cases ha2
 rw[hR.cw]at har
 subst hgr
 generalize hnn:s.size=n at h1
 cases h1 with
 | pure hp=>cases hp
 | ownOld hlt=>exact absurd hlt (Nat.lt_irrefl _)
 | @own _ _ _ _ c hn hm ho hs =>
  subst hnn
  obtain⟨arr3,et3,ha3,hs3⟩:=hs
  rw[hR.cw,har]at ha3
  cases ha3
  refine Calls.mono (hrun _ _ _ _ _ w hh har hn hm (by simpa using hs3) fun j b hb=>?_) fun e w' ⟨he,hother,hsize,hos,ht,hout⟩=>?_
  ·obtain⟨y,a1,a2,a3⟩:=hcell j (.v (.int .u8 b.toNat)) 0 (.v (.int .u8 b.toNat)) (by unfold bP;rw[List.getElem?_map,hb];rfl) rfl
   have:=a2.val (z:= .int .u8 b.toNat) rfl
   rw[this]at a1
   simpa using a1
  ·obtain⟨C',hle,hgb',hR'⟩:=hR.objSpoil kr or hother hsize hos ht hout
   refine⟨_,_,C',he,hle,hR',.pure (.v _),fun q hq=>?_⟩
   simp only[List.mem_cons,List.not_mem_nil,or_false]at hq
   rcases hq with rfl|rfl
   ·simp only[St.put]
    rw[ew _ _ (fun e=>hkk e.symm)]
    simp[eL,b8]
   ·simp only[St.put,aP]
    show((b8 _ kr).1+1,_)=_
    rw[hlk]
 | ownNil _=>exact absurd hnn hne
end
end Go.Am
namespace Go.Proofs.YtgncapdjheghfaaDoor
open Go.Am Go.Proofs
theorem DI:bh Tryd.prog 3=some (false,1):=by kernel_rfl
theorem DV:aX Tryd.prog 3=some (1,.v (.int .i64 (0))):=by kernel_rfl
theorem FI:Tryd.prog.underlying 3=some (.int .i64):=by kernel_rfl
theorem DJ:bh Tryd.prog 4=some (false,1):=by kernel_rfl
theorem DW:aX Tryd.prog 4=some (1,.v (.bool false)):=by kernel_rfl
theorem DK:bh Tryd.prog 5=some (false,1):=by kernel_rfl
theorem DX:aX Tryd.prog 5=some (1,.v (.int .u8 (0))):=by kernel_rfl
theorem E5:Tryd.prog.underlying 5=some (.int .u8):=by kernel_rfl
theorem DL:bh Tryd.prog 9=some (false,1):=by kernel_rfl
theorem DY:aX Tryd.prog 9=some (1,.v (.string ⟨#[]⟩)):=by kernel_rfl
theorem FJ:Tryd.prog.underlying 9=some (.string):=by kernel_rfl
theorem An:bh Tryd.prog 21=some (false,1):=by kernel_rfl
theorem AM:aX Tryd.prog 21=some (1,.v (.int .i32 (0))):=by kernel_rfl
theorem E3:Tryd.prog.underlying 21=some (.int .i32):=by kernel_rfl
theorem Ao:bh Tryd.prog 22=some (false,1):=by kernel_rfl
theorem vz:aM Tryd.prog 22=some (42,4,48):=by kernel_rfl
theorem AN:aX Tryd.prog 22=some (1,.slice 0 [] .tight):=by kernel_rfl
theorem Ap:bh Tryd.prog 23=some (false,1):=by kernel_rfl
theorem vA:aM Tryd.prog 23=some (3,1,8):=by kernel_rfl
theorem AO:aX Tryd.prog 23=some (1,.slice 0 [] .tight):=by kernel_rfl
theorem Aq:bh Tryd.prog 25=some (true,3):=by kernel_rfl
theorem AP:aX Tryd.prog 25=some (3,.agg [.v (.int .i64 (0)),.slice 0 [] .tight,.slice 0 [] .tight]):=by kernel_rfl
theorem rz:bE Tryd.prog 25 0=some 0:=by kernel_rfl
theorem rA:bE Tryd.prog 25 1=some 1:=by kernel_rfl
theorem rB:bE Tryd.prog 25 2=some 2:=by kernel_rfl
theorem u4:bG Tryd.prog 25=some fun i=>(#[(0,1),(1,1),(2,1)]:Array (Nat×Nat))[i]?:=by kernel_rfl
theorem Ar:bh Tryd.prog 27=some (false,1):=by kernel_rfl
theorem vB:aM Tryd.prog 27=some (45,3,24):=by kernel_rfl
theorem AQ:aX Tryd.prog 27=some (1,.slice 0 [] .tight):=by kernel_rfl
theorem As:bh Tryd.prog 29=some (false,1):=by kernel_rfl
theorem AR:aX Tryd.prog 29=some (1,.v (.int .i64 (0))):=by kernel_rfl
theorem E4:Tryd.prog.underlying 29=some (.int .i64):=by kernel_rfl
theorem At:bh Tryd.prog 42=some (true,4):=by kernel_rfl
theorem AS:aX Tryd.prog 42=some (4,.agg [.v (.string ⟨#[]⟩),.v (.string ⟨#[]⟩),.v (.int .i64 (0)),.v (.int .i64 (0))]):=by kernel_rfl
theorem rC:bE Tryd.prog 42 0=some 0:=by kernel_rfl
theorem rD:bE Tryd.prog 42 1=some 1:=by kernel_rfl
theorem rE:bE Tryd.prog 42 2=some 2:=by kernel_rfl
theorem rF:bE Tryd.prog 42 3=some 3:=by kernel_rfl
theorem u6:bG Tryd.prog 42=some fun i=>(#[(0,1),(1,1),(2,1),(3,1)]:Array (Nat×Nat))[i]?:=by kernel_rfl
theorem Au:bh Tryd.prog 45=some (true,3):=by kernel_rfl
theorem AT:aX Tryd.prog 45=some (3,.agg [.v (.int .i64 (0)),.v (.int .i64 (0)),.v (.int .i64 (0))]):=by kernel_rfl
theorem rG:bE Tryd.prog 45 0=some 0:=by kernel_rfl
theorem rH:bE Tryd.prog 45 1=some 1:=by kernel_rfl
theorem rI:bE Tryd.prog 45 2=some 2:=by kernel_rfl
theorem u7:bG Tryd.prog 45=some fun i=>(#[(0,1),(1,1),(2,1)]:Array (Nat×Nat))[i]?:=by kernel_rfl
theorem Av:bh Tryd.prog 46=some (false,1):=by kernel_rfl
theorem AU:aX Tryd.prog 46=some (1,.v (.pointer none)):=by kernel_rfl
theorem Aw:bh Tryd.prog 50=some (false,1):=by kernel_rfl
theorem AW:aX Tryd.prog 50=some (1,.v .nilFunc):=by kernel_rfl
theorem Ax:bh Tryd.prog 54=some (true,2):=by kernel_rfl
theorem AX:aX Tryd.prog 54=some (2,.agg [.slice 0 [] .tight,.v (.int .i64 (0))]):=by kernel_rfl
theorem rJ:bE Tryd.prog 54 0=some 0:=by kernel_rfl
theorem rK:bE Tryd.prog 54 1=some 1:=by kernel_rfl
theorem va:bG Tryd.prog 54=some fun i=>(#[(0,1),(1,1)]:Array (Nat×Nat))[i]?:=by kernel_rfl
theorem Ay:bh Tryd.prog 56=some (false,1):=by kernel_rfl
theorem AY:aX Tryd.prog 56=some (1,.v (.map none)):=by kernel_rfl
theorem Bv:Tryd.prog.underlying 56=some (.map 3 54):=by kernel_rfl
theorem Az:bh Tryd.prog 58=some (true,5):=by kernel_rfl
theorem AZ:aX Tryd.prog 58=some (5,.agg [.v (.int .i64 (0)),.slice 0 [] .tight,.slice 0 [] .tight,.v (.int .i64 (0)),.v (.int .i64 (0))]):=by kernel_rfl
theorem rL:bE Tryd.prog 58 0=some 0:=by kernel_rfl
theorem rM:bE Tryd.prog 58 1=some 3:=by kernel_rfl
theorem rN:bE Tryd.prog 58 2=some 4:=by kernel_rfl
theorem vb:bG Tryd.prog 58=some fun i=>(#[(0,3),(3,1),(4,1)]:Array (Nat×Nat))[i]?:=by kernel_rfl
theorem AA:bh Tryd.prog 59=some (true,18):=by kernel_rfl
theorem vx:ea Tryd.prog 59=some (6,3):=by kernel_rfl
theorem vd:bG Tryd.prog 59=some fun i=>some (i * 3,3):=by kernel_rfl
theorem A0:aX Tryd.prog 59=some (18,.agg [.v (.int .i64 (0)),.v (.int .i64 (0)),.v (.int .i64 (0)),.v (.int .i64 (0)),.v (.int .i64 (0)),.v (.int .i64 (0)),.v (.int .i64 (0)),.v (.int .i64 (0)),.v (.int .i64 (0)),.v (.int .i64 (0)),.v (.int .i64 (0)),.v (.int .i64 (0)),.v (.int .i64 (0)),.v (.int .i64 (0)),.v (.int .i64 (0)),.v (.int .i64 (0)),.v (.int .i64 (0)),.v (.int .i64 (0))]):=by kernel_rfl
theorem E6:Tryd.prog.underlying 59=some (.array 6 45):=by kernel_rfl
theorem AB:bh Tryd.prog 71=some (false,1):=by kernel_rfl
theorem A1:aX Tryd.prog 71=some (1,.v .nilFunc):=by kernel_rfl
theorem AC:bh Tryd.prog 78=some (false,1):=by kernel_rfl
theorem A2:aX Tryd.prog 78=some (1,.v .nilFunc):=by kernel_rfl
theorem AD:bh Tryd.prog 82=some (false,1):=by kernel_rfl
theorem A3:aX Tryd.prog 82=some (1,.v .nilFunc):=by kernel_rfl
theorem AE:bh Tryd.prog 84=some (false,1):=by kernel_rfl
theorem vC:aM Tryd.prog 84=some (9,1,16):=by kernel_rfl
theorem A4:aX Tryd.prog 84=some (1,.slice 0 [] .tight):=by kernel_rfl
theorem AF:bh Tryd.prog 91=some (false,1):=by kernel_rfl
theorem A5:aX Tryd.prog 91=some (1,.v .nilFunc):=by kernel_rfl
theorem AG:bh Tryd.prog 93=some (false,1):=by kernel_rfl
theorem A6:aX Tryd.prog 93=some (1,.v .nilFunc):=by kernel_rfl
theorem AH:bh Tryd.prog 94=some (false,1):=by kernel_rfl
theorem A7:aX Tryd.prog 94=some (1,.v .nilFunc):=by kernel_rfl
theorem AI:bh Tryd.prog 97=some (false,1):=by kernel_rfl
theorem A8:aX Tryd.prog 97=some (1,.v .nilFunc):=by kernel_rfl
theorem AJ:bh Tryd.prog 99=some (false,1):=by kernel_rfl
theorem A9:aX Tryd.prog 99=some (1,.v .nilFunc):=by kernel_rfl
theorem yj:bh Tryd.prog 101=some (true,2):=by kernel_rfl
theorem yF:aX Tryd.prog 101=some (2,.agg [.v .nilFunc,.v (.string ⟨#[]⟩)]):=by kernel_rfl
theorem pF:bE Tryd.prog 101 0=some 0:=by kernel_rfl
theorem pG:bE Tryd.prog 101 1=some 1:=by kernel_rfl
theorem sC:bG Tryd.prog 101=some fun i=>(#[(0,1),(1,1)]:Array (Nat×Nat))[i]?:=by kernel_rfl
theorem yk:bh Tryd.prog 102=some (true,6):=by kernel_rfl
theorem sT:ea Tryd.prog 102=some (3,2):=by kernel_rfl
theorem sD:bG Tryd.prog 102=some fun i=>some (i * 2,2):=by kernel_rfl
theorem yG:aX Tryd.prog 102=some (6,.agg [.v .nilFunc,.v (.string ⟨#[]⟩),.v .nilFunc,.v (.string ⟨#[]⟩),.v .nilFunc,.v (.string ⟨#[]⟩)]):=by kernel_rfl
theorem DM:Tryd.prog.underlying 102=some (.array 3 101):=by kernel_rfl
theorem yl:bh Tryd.prog 104=some (false,1):=by kernel_rfl
theorem sW:aM Tryd.prog 104=some (23,1,24):=by kernel_rfl
theorem yH:aX Tryd.prog 104=some (1,.slice 0 [] .tight):=by kernel_rfl
theorem ym:bh Tryd.prog 108=some (false,1):=by kernel_rfl
theorem yI:aX Tryd.prog 108=some (1,.v .nilFunc):=by kernel_rfl
theorem yn:bh Tryd.prog 109=some (false,1):=by kernel_rfl
theorem yJ:aX Tryd.prog 109=some (1,.v (.pointer none)):=by kernel_rfl
theorem yo:bh Tryd.prog 110=some (false,1):=by kernel_rfl
theorem sX:aM Tryd.prog 110=some (5,1,1):=by kernel_rfl
theorem yK:aX Tryd.prog 110=some (1,.slice 0 [] .tight):=by kernel_rfl
theorem DN:Tryd.prog.underlying 110=some (.slice 5):=by kernel_rfl
theorem yp:bh Tryd.prog 112=some (true,2):=by kernel_rfl
theorem yL:aX Tryd.prog 112=some (2,.agg [.v (.pointer none),.slice 0 [] .tight]):=by kernel_rfl
theorem pH:bE Tryd.prog 112 0=some 0:=by kernel_rfl
theorem pI:bE Tryd.prog 112 1=some 1:=by kernel_rfl
theorem sE:bG Tryd.prog 112=some fun i=>(#[(0,1),(1,1)]:Array (Nat×Nat))[i]?:=by kernel_rfl
theorem yq:bh Tryd.prog 126=some (false,1):=by kernel_rfl
theorem yM:aX Tryd.prog 126=some (1,.v (.pointer none)):=by kernel_rfl
theorem yr:bh Tryd.prog 128=some (false,1):=by kernel_rfl
theorem yN:aX Tryd.prog 128=some (1,.v (.pointer none)):=by kernel_rfl
theorem yt:bh Tryd.prog 133=some (false,1):=by kernel_rfl
theorem yO:aX Tryd.prog 133=some (1,.v (.int .u64 (0))):=by kernel_rfl
theorem DO:Tryd.prog.underlying 133=some (.int .u64):=by kernel_rfl
theorem yu:bh Tryd.prog 142=some (false,1):=by kernel_rfl
theorem yP:aX Tryd.prog 142=some (1,.v (.int .u32 (0))):=by kernel_rfl
theorem DP:Tryd.prog.underlying 142=some (.int .u32):=by kernel_rfl
theorem yv:bh Tryd.prog 144=some (false,1):=by kernel_rfl
theorem yQ:aX Tryd.prog 144=some (1,.v (.int .u64 (0))):=by kernel_rfl
theorem DQ:Tryd.prog.underlying 144=some (.int .u64):=by kernel_rfl
theorem yw:bh Tryd.prog 147=some (true,32):=by kernel_rfl
theorem sU:ea Tryd.prog 147=some (32,1):=by kernel_rfl
theorem sF:bG Tryd.prog 147=some fun i=>some (i * 1,1):=by kernel_rfl
theorem yR:aX Tryd.prog 147=some (32,.agg [.v (.int .u8 (0)),.v (.int .u8 (0)),.v (.int .u8 (0)),.v (.int .u8 (0)),.v (.int .u8 (0)),.v (.int .u8 (0)),.v (.int .u8 (0)),.v (.int .u8 (0)),.v (.int .u8 (0)),.v (.int .u8 (0)),.v (.int .u8 (0)),.v (.int .u8 (0)),.v (.int .u8 (0)),.v (.int .u8 (0)),.v (.int .u8 (0)),.v (.int .u8 (0)),.v (.int .u8 (0)),.v (.int .u8 (0)),.v (.int .u8 (0)),.v (.int .u8 (0)),.v (.int .u8 (0)),.v (.int .u8 (0)),.v (.int .u8 (0)),.v (.int .u8 (0)),.v (.int .u8 (0)),.v (.int .u8 (0)),.v (.int .u8 (0)),.v (.int .u8 (0)),.v (.int .u8 (0)),.v (.int .u8 (0)),.v (.int .u8 (0)),.v (.int .u8 (0))]):=by kernel_rfl
theorem DR:Tryd.prog.underlying 147=some (.array 32 5):=by kernel_rfl
theorem yx:bh Tryd.prog 148=some (true,64):=by kernel_rfl
theorem sV:ea Tryd.prog 148=some (64,1):=by kernel_rfl
theorem sG:bG Tryd.prog 148=some fun i=>some (i * 1,1):=by kernel_rfl
theorem yS:aX Tryd.prog 148=some (64,.agg [.v (.int .u8 (0)),.v (.int .u8 (0)),.v (.int .u8 (0)),.v (.int .u8 (0)),.v (.int .u8 (0)),.v (.int .u8 (0)),.v (.int .u8 (0)),.v (.int .u8 (0)),.v (.int .u8 (0)),.v (.int .u8 (0)),.v (.int .u8 (0)),.v (.int .u8 (0)),.v (.int .u8 (0)),.v (.int .u8 (0)),.v (.int .u8 (0)),.v (.int .u8 (0)),.v (.int .u8 (0)),.v (.int .u8 (0)),.v (.int .u8 (0)),.v (.int .u8 (0)),.v (.int .u8 (0)),.v (.int .u8 (0)),.v (.int .u8 (0)),.v (.int .u8 (0)),.v (.int .u8 (0)),.v (.int .u8 (0)),.v (.int .u8 (0)),.v (.int .u8 (0)),.v (.int .u8 (0)),.v (.int .u8 (0)),.v (.int .u8 (0)),.v (.int .u8 (0)),.v (.int .u8 (0)),.v (.int .u8 (0)),.v (.int .u8 (0)),.v (.int .u8 (0)),.v (.int .u8 (0)),.v (.int .u8 (0)),.v (.int .u8 (0)),.v (.int .u8 (0)),.v (.int .u8 (0)),.v (.int .u8 (0)),.v (.int .u8 (0)),.v (.int .u8 (0)),.v (.int .u8 (0)),.v (.int .u8 (0)),.v (.int .u8 (0)),.v (.int .u8 (0)),.v (.int .u8 (0)),.v (.int .u8 (0)),.v (.int .u8 (0)),.v (.int .u8 (0)),.v (.int .u8 (0)),.v (.int .u8 (0)),.v (.int .u8 (0)),.v (.int .u8 (0)),.v (.int .u8 (0)),.v (.int .u8 (0)),.v (.int .u8 (0)),.v (.int .u8 (0)),.v (.int .u8 (0)),.v (.int .u8 (0)),.v (.int .u8 (0)),.v (.int .u8 (0))]):=by kernel_rfl
theorem DS:Tryd.prog.underlying 148=some (.array 64 5):=by kernel_rfl
theorem Ec:al Tryd.prog 3:=cO Tryd.func3
theorem Ed:al Tryd.prog 4:=cO Tryd.func4
theorem Ee:al Tryd.prog 5:=cO Tryd.func5
theorem wd:al Tryd.prog 6:=cO Tryd.func6
theorem m6:al Tryd.prog 7:=cO Tryd.func7
theorem wt:al Tryd.prog 8:=cO Tryd.func8
theorem Bc:al Tryd.prog 9:=cO Tryd.func9
theorem q9:al Tryd.prog 10:=cO Tryd.func10
theorem BM:al Tryd.prog 11:=cO Tryd.func11
theorem BN:al Tryd.prog 12:=cO Tryd.func12
theorem BO:al Tryd.prog 13:=cO Tryd.func13
theorem vW:al Tryd.prog 14:=cO Tryd.func14
theorem BP:al Tryd.prog 15:=cO Tryd.func15
theorem BQ:al Tryd.prog 16:=cO Tryd.func16
theorem rc:al Tryd.prog 17:=cO Tryd.func17
theorem BR:al Tryd.prog 18:=cO Tryd.func18
theorem jx:al Tryd.prog 19:=cO Tryd.func19
theorem BS:al Tryd.prog 20:=cO Tryd.func20
theorem vX:al Tryd.prog 21:=cO Tryd.func21
theorem vY:al Tryd.prog 22:=cO Tryd.func22
theorem vZ:al Tryd.prog 23:=cO Tryd.func23
theorem re:al Tryd.prog 24:=cO Tryd.func24
theorem BU:al Tryd.prog 25:=cO Tryd.func25
theorem v6:al Tryd.prog 26:=cO Tryd.func26
theorem BV:al Tryd.prog 27:=cO Tryd.func27
theorem BW:al Tryd.prog 28:=cO Tryd.func28
theorem BX:al Tryd.prog 29:=cO Tryd.func29
theorem oh:al Tryd.prog 30:=cO Tryd.func30
theorem BY:al Tryd.prog 31:=cO Tryd.func31
theorem v7:al Tryd.prog 32:=cO Tryd.func32
theorem BZ:al Tryd.prog 33:=cO Tryd.func33
theorem B0:al Tryd.prog 34:=cO Tryd.func34
theorem v8:al Tryd.prog 35:=cO Tryd.func35
theorem B1:al Tryd.prog 36:=cO Tryd.func36
theorem B2:al Tryd.prog 37:=cO Tryd.func37
theorem B3:al Tryd.prog 38:=cO Tryd.func38
theorem gW:al Tryd.prog 39:=cO Tryd.func39
theorem B4:al Tryd.prog 40:=cO Tryd.func40
theorem rh:al Tryd.prog 41:=cO Tryd.func41
theorem B5:al Tryd.prog 42:=cO Tryd.func42
theorem B6:al Tryd.prog 43:=cO Tryd.func43
theorem B7:al Tryd.prog 44:=cO Tryd.func44
theorem B8:al Tryd.prog 45:=cO Tryd.func45
theorem B9:al Tryd.prog 46:=cO Tryd.func46
theorem Ca:al Tryd.prog 47:=cO Tryd.func47
theorem Cb:al Tryd.prog 48:=cO Tryd.func48
theorem Cc:al Tryd.prog 49:=cO Tryd.func49
theorem wa:al Tryd.prog 50:=cO Tryd.func50
theorem Cd:al Tryd.prog 51:=cO Tryd.func51
theorem Ce:al Tryd.prog 52:=cO Tryd.func52
theorem Cf:al Tryd.prog 53:=cO Tryd.func53
theorem Cg:al Tryd.prog 54:=cO Tryd.func54
theorem fD:al Tryd.prog 55:=cO Tryd.func55
theorem Ch:al Tryd.prog 56:=cO Tryd.func56
theorem wb:al Tryd.prog 57:=cO Tryd.func57
theorem Ci:al Tryd.prog 58:=cO Tryd.func58
theorem Cj:al Tryd.prog 59:=cO Tryd.func59
theorem Ck:al Tryd.prog 60:=cO Tryd.func60
theorem wg:al Tryd.prog 61:=cO Tryd.func61
theorem Cl:al Tryd.prog 62:=cO Tryd.func62
theorem Cm:al Tryd.prog 63:=cO Tryd.func63
theorem Cn:al Tryd.prog 65:=cO Tryd.func65
theorem wh:al Tryd.prog 66:=cO Tryd.func66
theorem Co:al Tryd.prog 67:=cO Tryd.func67
theorem wi:al Tryd.prog 68:=cO Tryd.func68
theorem ol:al Tryd.prog 69:=cO Tryd.func69
theorem wm:al Tryd.prog 70:=cO Tryd.func70
theorem Cp:al Tryd.prog 71:=cO Tryd.func71
theorem wo:al Tryd.prog 72:=cO Tryd.func72
theorem Cq:al Tryd.prog 73:=cO Tryd.func73
theorem Cr:al Tryd.prog 75:=cO Tryd.func75
theorem Cs:al Tryd.prog 77:=cO Tryd.func77
theorem Cy:(∃n,n≤10000∧kM Tryd.prog n 42=some [.str,.str,.int .i64,.int .i64])∧bc Tryd.prog 42=true∧Tryd.prog.eqGuardType Tryd.prog.depth 42=false:=⟨⟨12,by decide,by kernel_rfl⟩,by kernel_rfl,by kernel_rfl⟩
theorem Cz:(∃n,n≤10000∧kM Tryd.prog n 45=some [.int .i64,.int .i64,.int .i64])∧bc Tryd.prog 45=true∧Tryd.prog.eqGuardType Tryd.prog.depth 45=false:=⟨⟨12,by decide,by kernel_rfl⟩,by kernel_rfl,by kernel_rfl⟩
theorem zH:MapTy Tryd.prog 56 (.one (.int .i64),.agg [.slice 0 [] .tight,.v (.int .i64 (0))]):=w9 (n:=12) (z:= .agg #[.slice none 0 0,.int .i64 (0)]) Bv (cs:=[.int .i64]) (by kernel_rfl) (by decide) (by kernel_rfl) _ (by kernel_rfl) (by kernel_rfl)
theorem CA:(∃n,n≤10000∧kM Tryd.prog n 59=some [.int .i64,.int .i64,.int .i64,.int .i64,.int .i64,.int .i64,.int .i64,.int .i64,.int .i64,.int .i64,.int .i64,.int .i64,.int .i64,.int .i64,.int .i64,.int .i64,.int .i64,.int .i64])∧bc Tryd.prog 59=true∧Tryd.prog.eqGuardType Tryd.prog.depth 59=false:=⟨⟨12,by decide,by kernel_rfl⟩,by kernel_rfl,by kernel_rfl⟩
theorem zk:(∃n,n≤10000∧kM Tryd.prog n 147=some [.int .u8,.int .u8,.int .u8,.int .u8,.int .u8,.int .u8,.int .u8,.int .u8,.int .u8,.int .u8,.int .u8,.int .u8,.int .u8,.int .u8,.int .u8,.int .u8,.int .u8,.int .u8,.int .u8,.int .u8,.int .u8,.int .u8,.int .u8,.int .u8,.int .u8,.int .u8,.int .u8,.int .u8,.int .u8,.int .u8,.int .u8,.int .u8])∧bc Tryd.prog 147=true∧Tryd.prog.eqGuardType Tryd.prog.depth 147=false:=⟨⟨12,by decide,by kernel_rfl⟩,by kernel_rfl,by kernel_rfl⟩
theorem zl:(∃n,n≤10000∧kM Tryd.prog n 148=some [.int .u8,.int .u8,.int .u8,.int .u8,.int .u8,.int .u8,.int .u8,.int .u8,.int .u8,.int .u8,.int .u8,.int .u8,.int .u8,.int .u8,.int .u8,.int .u8,.int .u8,.int .u8,.int .u8,.int .u8,.int .u8,.int .u8,.int .u8,.int .u8,.int .u8,.int .u8,.int .u8,.int .u8,.int .u8,.int .u8,.int .u8,.int .u8,.int .u8,.int .u8,.int .u8,.int .u8,.int .u8,.int .u8,.int .u8,.int .u8,.int .u8,.int .u8,.int .u8,.int .u8,.int .u8,.int .u8,.int .u8,.int .u8,.int .u8,.int .u8,.int .u8,.int .u8,.int .u8,.int .u8,.int .u8,.int .u8,.int .u8,.int .u8,.int .u8,.int .u8,.int .u8,.int .u8,.int .u8,.int .u8])∧bc Tryd.prog 148=true∧Tryd.prog.eqGuardType Tryd.prog.depth 148=false:=⟨⟨12,by decide,by kernel_rfl⟩,by kernel_rfl,by kernel_rfl⟩
theorem rO:∀f o,nth [some 0,some 1,some 2] f=some (some o)→bE Tryd.prog 25 f=some o:=by intro f o h;rw[cM]at h;match f,h with
 | 0,h=>simp at h;subst h;exact rz
 | 1,h=>simp at h;subst h;exact rA
 | 2,h=>simp at h;subst h;exact rB
 | n+3,h=>simp at h
theorem ve:bG Tryd.prog 25=some fun i=>([(0,1),(1,1),(2,1)]:List (Nat×Nat))[i]?:=by rw[u4];congr 1;funext i;simp
theorem rP:∀f o,nth [some 0,some 1,some 2,some 3] f=some (some o)→bE Tryd.prog 42 f=some o:=by intro f o h;rw[cM]at h;match f,h with
 | 0,h=>simp at h;subst h;exact rC
 | 1,h=>simp at h;subst h;exact rD
 | 2,h=>simp at h;subst h;exact rE
 | 3,h=>simp at h;subst h;exact rF
 | n+4,h=>simp at h
theorem vg:bG Tryd.prog 42=some fun i=>([(0,1),(1,1),(2,1),(3,1)]:List (Nat×Nat))[i]?:=by rw[u6];congr 1;funext i;simp
theorem rQ:∀f o,nth [some 0,some 1,some 2] f=some (some o)→bE Tryd.prog 45 f=some o:=by intro f o h;rw[cM]at h;match f,h with
 | 0,h=>simp at h;subst h;exact rG
 | 1,h=>simp at h;subst h;exact rH
 | 2,h=>simp at h;subst h;exact rI
 | n+3,h=>simp at h
theorem vh:bG Tryd.prog 45=some fun i=>([(0,1),(1,1),(2,1)]:List (Nat×Nat))[i]?:=by rw[u7];congr 1;funext i;simp
theorem rR:∀f o,nth [some 0,some 1] f=some (some o)→bE Tryd.prog 54 f=some o:=by intro f o h;rw[cM]at h;match f,h with
 | 0,h=>simp at h;subst h;exact rJ
 | 1,h=>simp at h;subst h;exact rK
 | n+2,h=>simp at h
theorem vi:bG Tryd.prog 54=some fun i=>([(0,1),(1,1)]:List (Nat×Nat))[i]?:=by rw[va];congr 1;funext i;simp
theorem rS:∀f o,nth [some 0,some 3,some 4] f=some (some o)→bE Tryd.prog 58 f=some o:=by intro f o h;rw[cM]at h;match f,h with
 | 0,h=>simp at h;subst h;exact rL
 | 1,h=>simp at h;subst h;exact rM
 | 2,h=>simp at h;subst h;exact rN
 | n+3,h=>simp at h
theorem vj:bG Tryd.prog 58=some fun i=>([(0,3),(3,1),(4,1)]:List (Nat×Nat))[i]?:=by rw[vb];congr 1;funext i;simp
theorem pJ:∀f o,nth [some 0,some 1] f=some (some o)→bE Tryd.prog 101 f=some o:=by intro f o h;rw[cM]at h;match f,h with
 | 0,h=>simp at h;subst h;exact pF
 | 1,h=>simp at h;subst h;exact pG
 | n+2,h=>simp at h
theorem sH:bG Tryd.prog 101=some fun i=>([(0,1),(1,1)]:List (Nat×Nat))[i]?:=by rw[sC];congr 1;funext i;simp
theorem pK:∀f o,nth [some 0,some 1] f=some (some o)→bE Tryd.prog 112 f=some o:=by intro f o h;rw[cM]at h;match f,h with
 | 0,h=>simp at h;subst h;exact pH
 | 1,h=>simp at h;subst h;exact pI
 | n+2,h=>simp at h
theorem sI:bG Tryd.prog 112=some fun i=>([(0,1),(1,1)]:List (Nat×Nat))[i]?:=by rw[sE];congr 1;funext i;simp
theorem uJ:c6 Tryd.prog 25 0=some (false,0,1):=by kernel_rfl
theorem uK:c6 Tryd.prog 25 1=some (false,1,1):=by kernel_rfl
theorem uL:c6 Tryd.prog 25 2=some (false,2,1):=by kernel_rfl
theorem uY:∀f q,nth ([some (false,0,1),some (false,1,1),some (false,2,1)]:List (Option (Bool×Nat×Nat))) f=some (some q)→c6 Tryd.prog 25 f=some q:=by intro f o h;rw[cM]at h;match f,h with
 | 0,h=>simp at h;subst h;exact uJ
 | 1,h=>simp at h;subst h;exact uK
 | 2,h=>simp at h;subst h;exact uL
 | n+3,h=>simp at h
theorem uM:c6 Tryd.prog 42 0=some (false,0,1):=by kernel_rfl
theorem uN:c6 Tryd.prog 42 1=some (false,1,1):=by kernel_rfl
theorem uO:c6 Tryd.prog 42 2=some (false,2,1):=by kernel_rfl
theorem uP:c6 Tryd.prog 42 3=some (false,3,1):=by kernel_rfl
theorem uZ:∀f q,nth ([some (false,0,1),some (false,1,1),some (false,2,1),some (false,3,1)]:List (Option (Bool×Nat×Nat))) f=some (some q)→c6 Tryd.prog 42 f=some q:=by intro f o h;rw[cM]at h;match f,h with
 | 0,h=>simp at h;subst h;exact uM
 | 1,h=>simp at h;subst h;exact uN
 | 2,h=>simp at h;subst h;exact uO
 | 3,h=>simp at h;subst h;exact uP
 | n+4,h=>simp at h
theorem uQ:c6 Tryd.prog 45 0=some (false,0,1):=by kernel_rfl
theorem uR:c6 Tryd.prog 45 1=some (false,1,1):=by kernel_rfl
theorem uS:c6 Tryd.prog 45 2=some (false,2,1):=by kernel_rfl
theorem u0:∀f q,nth ([some (false,0,1),some (false,1,1),some (false,2,1)]:List (Option (Bool×Nat×Nat))) f=some (some q)→c6 Tryd.prog 45 f=some q:=by intro f o h;rw[cM]at h;match f,h with
 | 0,h=>simp at h;subst h;exact uQ
 | 1,h=>simp at h;subst h;exact uR
 | 2,h=>simp at h;subst h;exact uS
 | n+3,h=>simp at h
theorem uT:c6 Tryd.prog 54 0=some (false,0,1):=by kernel_rfl
theorem uU:c6 Tryd.prog 54 1=some (false,1,1):=by kernel_rfl
theorem u1:∀f q,nth ([some (false,0,1),some (false,1,1)]:List (Option (Bool×Nat×Nat))) f=some (some q)→c6 Tryd.prog 54 f=some q:=by intro f o h;rw[cM]at h;match f,h with
 | 0,h=>simp at h;subst h;exact uT
 | 1,h=>simp at h;subst h;exact uU
 | n+2,h=>simp at h
theorem uV:c6 Tryd.prog 58 0=some (true,0,3):=by kernel_rfl
theorem uW:c6 Tryd.prog 58 1=some (false,3,1):=by kernel_rfl
theorem uX:c6 Tryd.prog 58 2=some (false,4,1):=by kernel_rfl
theorem u2:∀f q,nth ([some (true,0,3),some (false,3,1),some (false,4,1)]:List (Option (Bool×Nat×Nat))) f=some (some q)→c6 Tryd.prog 58 f=some q:=by intro f o h;rw[cM]at h;match f,h with
 | 0,h=>simp at h;subst h;exact uV
 | 1,h=>simp at h;subst h;exact uW
 | 2,h=>simp at h;subst h;exact uX
 | n+3,h=>simp at h
theorem zP:sx Tryd.prog 59=some (true,6,3)∧∃len e,Tryd.prog.underlying 59=some (.array len e):=⟨by kernel_rfl,_,_,E6⟩
theorem sq:c6 Tryd.prog 101 0=some (false,0,1):=by kernel_rfl
theorem sr:c6 Tryd.prog 101 1=some (false,1,1):=by kernel_rfl
theorem sA:∀f q,nth ([some (false,0,1),some (false,1,1)]:List (Option (Bool×Nat×Nat))) f=some (some q)→c6 Tryd.prog 101 f=some q:=by intro f o h;rw[cM]at h;match f,h with
 | 0,h=>simp at h;subst h;exact sq
 | 1,h=>simp at h;subst h;exact sr
 | n+2,h=>simp at h
theorem xA:sx Tryd.prog 102=some (true,3,2)∧∃len e,Tryd.prog.underlying 102=some (.array len e):=⟨by kernel_rfl,_,_,DM⟩
theorem su:c6 Tryd.prog 112 0=some (false,0,1):=by kernel_rfl
theorem sw:c6 Tryd.prog 112 1=some (false,1,1):=by kernel_rfl
theorem sB:∀f q,nth ([some (false,0,1),some (false,1,1)]:List (Option (Bool×Nat×Nat))) f=some (some q)→c6 Tryd.prog 112 f=some q:=by intro f o h;rw[cM]at h;match f,h with
 | 0,h=>simp at h;subst h;exact su
 | 1,h=>simp at h;subst h;exact sw
 | n+2,h=>simp at h
theorem xB:sx Tryd.prog 147=some (false,32,1)∧∃len e,Tryd.prog.underlying 147=some (.array len e):=⟨by kernel_rfl,_,_,DR⟩
theorem xC:sx Tryd.prog 148=some (false,64,1)∧∃len e,Tryd.prog.underlying 148=some (.array len e):=⟨by kernel_rfl,_,_,DS⟩
def tab:Tab where
 var:= .nd 82 (false,1) (.nd 42 (true,4) (.nd 22 (false,1) (.nd 5 (false,1) (.nd 4 (false,1) (.nd 3 (false,1) (.lf) (.lf)) (.lf)) (.nd 21 (false,1) (.nd 9 (false,1) (.lf) (.lf)) (.lf))) (.nd 27 (false,1) (.nd 25 (true,3) (.nd 23 (false,1) (.lf) (.lf)) (.lf)) (.nd 29 (false,1) (.lf) (.lf)))) (.nd 56 (false,1) (.nd 50 (false,1) (.nd 46 (false,1) (.nd 45 (true,3) (.lf) (.lf)) (.lf)) (.nd 54 (true,2) (.lf) (.lf))) (.nd 71 (false,1) (.nd 59 (true,18) (.nd 58 (true,5) (.lf) (.lf)) (.lf)) (.nd 78 (false,1) (.lf) (.lf))))) (.nd 109 (false,1) (.nd 99 (false,1) (.nd 93 (false,1) (.nd 91 (false,1) (.nd 84 (false,1) (.lf) (.lf)) (.lf)) (.nd 97 (false,1) (.nd 94 (false,1) (.lf) (.lf)) (.lf))) (.nd 104 (false,1) (.nd 102 (true,6) (.nd 101 (true,2) (.lf) (.lf)) (.lf)) (.nd 108 (false,1) (.lf) (.lf)))) (.nd 133 (false,1) (.nd 126 (false,1) (.nd 112 (true,2) (.nd 110 (false,1) (.lf) (.lf)) (.lf)) (.nd 128 (false,1) (.lf) (.lf))) (.nd 147 (true,32) (.nd 144 (false,1) (.nd 142 (false,1) (.lf) (.lf)) (.lf)) (.nd 148 (true,64) (.lf) (.lf)))))
 slice:= .nd 84 (9,1,16) (.nd 23 (3,1,8) (.nd 22 (42,4,48) (.lf) (.lf)) (.nd 27 (45,3,24) (.lf) (.lf))) (.nd 110 (5,1,1) (.nd 104 (23,1,24) (.lf) (.lf)) (.lf))
 array:= .nd 147 (32,1) (.nd 102 (3,2) (.nd 59 (6,3) (.lf) (.lf)) (.lf)) (.nd 148 (64,1) (.lf) (.lf))
 zero:= .nd 82 (1,.v .nilFunc) (.nd 42 (4,.agg [.v (.string ⟨#[]⟩),.v (.string ⟨#[]⟩),.v (.int .i64 (0)),.v (.int .i64 (0))]) (.nd 22 (1,.slice 0 [] .tight) (.nd 5 (1,.v (.int .u8 (0))) (.nd 4 (1,.v (.bool false)) (.nd 3 (1,.v (.int .i64 (0))) (.lf) (.lf)) (.lf)) (.nd 21 (1,.v (.int .i32 (0))) (.nd 9 (1,.v (.string ⟨#[]⟩)) (.lf) (.lf)) (.lf))) (.nd 27 (1,.slice 0 [] .tight) (.nd 25 (3,.agg [.v (.int .i64 (0)),.slice 0 [] .tight,.slice 0 [] .tight]) (.nd 23 (1,.slice 0 [] .tight) (.lf) (.lf)) (.lf)) (.nd 29 (1,.v (.int .i64 (0))) (.lf) (.lf)))) (.nd 56 (1,.v (.map none)) (.nd 50 (1,.v .nilFunc) (.nd 46 (1,.v (.pointer none)) (.nd 45 (3,.agg [.v (.int .i64 (0)),.v (.int .i64 (0)),.v (.int .i64 (0))]) (.lf) (.lf)) (.lf)) (.nd 54 (2,.agg [.slice 0 [] .tight,.v (.int .i64 (0))]) (.lf) (.lf))) (.nd 71 (1,.v .nilFunc) (.nd 59 (18,.agg [.v (.int .i64 (0)),.v (.int .i64 (0)),.v (.int .i64 (0)),.v (.int .i64 (0)),.v (.int .i64 (0)),.v (.int .i64 (0)),.v (.int .i64 (0)),.v (.int .i64 (0)),.v (.int .i64 (0)),.v (.int .i64 (0)),.v (.int .i64 (0)),.v (.int .i64 (0)),.v (.int .i64 (0)),.v (.int .i64 (0)),.v (.int .i64 (0)),.v (.int .i64 (0)),.v (.int .i64 (0)),.v (.int .i64 (0))]) (.nd 58 (5,.agg [.v (.int .i64 (0)),.slice 0 [] .tight,.slice 0 [] .tight,.v (.int .i64 (0)),.v (.int .i64 (0))]) (.lf) (.lf)) (.lf)) (.nd 78 (1,.v .nilFunc) (.lf) (.lf))))) (.nd 109 (1,.v (.pointer none)) (.nd 99 (1,.v .nilFunc) (.nd 93 (1,.v .nilFunc) (.nd 91 (1,.v .nilFunc) (.nd 84 (1,.slice 0 [] .tight) (.lf) (.lf)) (.lf)) (.nd 97 (1,.v .nilFunc) (.nd 94 (1,.v .nilFunc) (.lf) (.lf)) (.lf))) (.nd 104 (1,.slice 0 [] .tight) (.nd 102 (6,.agg [.v .nilFunc,.v (.string ⟨#[]⟩),.v .nilFunc,.v (.string ⟨#[]⟩),.v .nilFunc,.v (.string ⟨#[]⟩)]) (.nd 101 (2,.agg [.v .nilFunc,.v (.string ⟨#[]⟩)]) (.lf) (.lf)) (.lf)) (.nd 108 (1,.v .nilFunc) (.lf) (.lf)))) (.nd 133 (1,.v (.int .u64 (0))) (.nd 126 (1,.v (.pointer none)) (.nd 112 (2,.agg [.v (.pointer none),.slice 0 [] .tight]) (.nd 110 (1,.slice 0 [] .tight) (.lf) (.lf)) (.lf)) (.nd 128 (1,.v (.pointer none)) (.lf) (.lf))) (.nd 147 (32,.agg [.v (.int .u8 (0)),.v (.int .u8 (0)),.v (.int .u8 (0)),.v (.int .u8 (0)),.v (.int .u8 (0)),.v (.int .u8 (0)),.v (.int .u8 (0)),.v (.int .u8 (0)),.v (.int .u8 (0)),.v (.int .u8 (0)),.v (.int .u8 (0)),.v (.int .u8 (0)),.v (.int .u8 (0)),.v (.int .u8 (0)),.v (.int .u8 (0)),.v (.int .u8 (0)),.v (.int .u8 (0)),.v (.int .u8 (0)),.v (.int .u8 (0)),.v (.int .u8 (0)),.v (.int .u8 (0)),.v (.int .u8 (0)),.v (.int .u8 (0)),.v (.int .u8 (0)),.v (.int .u8 (0)),.v (.int .u8 (0)),.v (.int .u8 (0)),.v (.int .u8 (0)),.v (.int .u8 (0)),.v (.int .u8 (0)),.v (.int .u8 (0)),.v (.int .u8 (0))]) (.nd 144 (1,.v (.int .u64 (0))) (.nd 142 (1,.v (.int .u32 (0))) (.lf) (.lf)) (.lf)) (.nd 148 (64,.agg [.v (.int .u8 (0)),.v (.int .u8 (0)),.v (.int .u8 (0)),.v (.int .u8 (0)),.v (.int .u8 (0)),.v (.int .u8 (0)),.v (.int .u8 (0)),.v (.int .u8 (0)),.v (.int .u8 (0)),.v (.int .u8 (0)),.v (.int .u8 (0)),.v (.int .u8 (0)),.v (.int .u8 (0)),.v (.int .u8 (0)),.v (.int .u8 (0)),.v (.int .u8 (0)),.v (.int .u8 (0)),.v (.int .u8 (0)),.v (.int .u8 (0)),.v (.int .u8 (0)),.v (.int .u8 (0)),.v (.int .u8 (0)),.v (.int .u8 (0)),.v (.int .u8 (0)),.v (.int .u8 (0)),.v (.int .u8 (0)),.v (.int .u8 (0)),.v (.int .u8 (0)),.v (.int .u8 (0)),.v (.int .u8 (0)),.v (.int .u8 (0)),.v (.int .u8 (0)),.v (.int .u8 (0)),.v (.int .u8 (0)),.v (.int .u8 (0)),.v (.int .u8 (0)),.v (.int .u8 (0)),.v (.int .u8 (0)),.v (.int .u8 (0)),.v (.int .u8 (0)),.v (.int .u8 (0)),.v (.int .u8 (0)),.v (.int .u8 (0)),.v (.int .u8 (0)),.v (.int .u8 (0)),.v (.int .u8 (0)),.v (.int .u8 (0)),.v (.int .u8 (0)),.v (.int .u8 (0)),.v (.int .u8 (0)),.v (.int .u8 (0)),.v (.int .u8 (0)),.v (.int .u8 (0)),.v (.int .u8 (0)),.v (.int .u8 (0)),.v (.int .u8 (0)),.v (.int .u8 (0)),.v (.int .u8 (0)),.v (.int .u8 (0)),.v (.int .u8 (0)),.v (.int .u8 (0)),.v (.int .u8 (0)),.v (.int .u8 (0)),.v (.int .u8 (0))]) (.lf) (.lf)))))
 field:= .nd 54 [some 0,some 1] (.nd 42 [some 0,some 1,some 2,some 3] (.nd 25 [some 0,some 1,some 2] (.lf) (.lf)) (.nd 45 [some 0,some 1,some 2] (.lf) (.lf))) (.nd 101 [some 0,some 1] (.nd 58 [some 0,some 3,some 4] (.lf) (.lf)) (.nd 112 [some 0,some 1] (.lf) (.lf)))
 places:= .nd 54 [(0,1),(1,1)] (.nd 42 [(0,1),(1,1),(2,1),(3,1)] (.nd 25 [(0,1),(1,1),(2,1)] (.lf) (.lf)) (.nd 45 [(0,1),(1,1),(2,1)] (.lf) (.lf))) (.nd 101 [(0,1),(1,1)] (.nd 58 [(0,3),(3,1),(4,1)] (.lf) (.lf)) (.nd 112 [(0,1),(1,1)] (.lf) (.lf)))
 placesN:= .nd 147 1 (.nd 102 2 (.nd 59 3 (.lf) (.lf)) (.lf)) (.nd 148 1 (.lf) (.lf))
 map:= .nd 56 (.one (.int .i64),.agg [.slice 0 [] .tight,.v (.int .i64 (0))]) (.lf) (.lf)
 eq:= .nd 59 [.int .i64,.int .i64,.int .i64,.int .i64,.int .i64,.int .i64,.int .i64,.int .i64,.int .i64,.int .i64,.int .i64,.int .i64,.int .i64,.int .i64,.int .i64,.int .i64,.int .i64,.int .i64] (.nd 45 [.int .i64,.int .i64,.int .i64] (.nd 42 [.str,.str,.int .i64,.int .i64] (.lf) (.lf)) (.lf)) (.nd 148 [.int .u8,.int .u8,.int .u8,.int .u8,.int .u8,.int .u8,.int .u8,.int .u8,.int .u8,.int .u8,.int .u8,.int .u8,.int .u8,.int .u8,.int .u8,.int .u8,.int .u8,.int .u8,.int .u8,.int .u8,.int .u8,.int .u8,.int .u8,.int .u8,.int .u8,.int .u8,.int .u8,.int .u8,.int .u8,.int .u8,.int .u8,.int .u8,.int .u8,.int .u8,.int .u8,.int .u8,.int .u8,.int .u8,.int .u8,.int .u8,.int .u8,.int .u8,.int .u8,.int .u8,.int .u8,.int .u8,.int .u8,.int .u8,.int .u8,.int .u8,.int .u8,.int .u8,.int .u8,.int .u8,.int .u8,.int .u8,.int .u8,.int .u8,.int .u8,.int .u8,.int .u8,.int .u8,.int .u8,.int .u8] (.nd 147 [.int .u8,.int .u8,.int .u8,.int .u8,.int .u8,.int .u8,.int .u8,.int .u8,.int .u8,.int .u8,.int .u8,.int .u8,.int .u8,.int .u8,.int .u8,.int .u8,.int .u8,.int .u8,.int .u8,.int .u8,.int .u8,.int .u8,.int .u8,.int .u8,.int .u8,.int .u8,.int .u8,.int .u8,.int .u8,.int .u8,.int .u8,.int .u8] (.lf) (.lf)) (.lf))
 und:= .nd 56 .map (.nd 9 .str (.nd 5 (.int .u8) (.nd 3 (.int .i64) (.lf) (.lf)) (.lf)) (.nd 29 (.int .i64) (.nd 21 (.int .i32) (.lf) (.lf)) (.lf))) (.nd 142 (.int .u32) (.nd 133 (.int .u64) (.nd 110 .bytes (.lf) (.lf)) (.lf)) (.nd 144 (.int .u64) (.lf) (.lf)))
 fieldV:= .nd 54 [some (false,0,1),some (false,1,1)] (.nd 42 [some (false,0,1),some (false,1,1),some (false,2,1),some (false,3,1)] (.nd 25 [some (false,0,1),some (false,1,1),some (false,2,1)] (.lf) (.lf)) (.nd 45 [some (false,0,1),some (false,1,1),some (false,2,1)] (.lf) (.lf))) (.nd 101 [some (false,0,1),some (false,1,1)] (.nd 58 [some (true,0,3),some (false,3,1),some (false,4,1)] (.lf) (.lf)) (.nd 112 [some (false,0,1),some (false,1,1)] (.lf) (.lf)))
 indexV:= .nd 147 (false,32,1) (.nd 102 (true,3,2) (.nd 59 (true,6,3) (.lf) (.lf)) (.lf)) (.nd 148 (false,64,1) (.lf) (.lf))
theorem ax:tab.Ok Tryd.prog where
 var:=⟨AD,⟨At,⟨Ao,⟨DK,⟨DJ,⟨DI,trivial,trivial⟩,trivial⟩,⟨An,⟨DL,trivial,trivial⟩,trivial⟩⟩,⟨Ar,⟨Aq,⟨Ap,trivial,trivial⟩,trivial⟩,⟨As,trivial,trivial⟩⟩⟩,⟨Ay,⟨Aw,⟨Av,⟨Au,trivial,trivial⟩,trivial⟩,⟨Ax,trivial,trivial⟩⟩,⟨AB,⟨AA,⟨Az,trivial,trivial⟩,trivial⟩,⟨AC,trivial,trivial⟩⟩⟩⟩,⟨yn,⟨AJ,⟨AG,⟨AF,⟨AE,trivial,trivial⟩,trivial⟩,⟨AI,⟨AH,trivial,trivial⟩,trivial⟩⟩,⟨yl,⟨yk,⟨yj,trivial,trivial⟩,trivial⟩,⟨ym,trivial,trivial⟩⟩⟩,⟨yt,⟨yq,⟨yp,⟨yo,trivial,trivial⟩,trivial⟩,⟨yr,trivial,trivial⟩⟩,⟨yw,⟨yv,⟨yu,trivial,trivial⟩,trivial⟩,⟨yx,trivial,trivial⟩⟩⟩⟩⟩
 slice:=⟨vC,⟨vA,⟨vz,trivial,trivial⟩,⟨vB,trivial,trivial⟩⟩,⟨sX,⟨sW,trivial,trivial⟩,trivial⟩⟩
 array:=⟨sU,⟨sT,⟨vx,trivial,trivial⟩,trivial⟩,⟨sV,trivial,trivial⟩⟩
 zero:=⟨A3,⟨AS,⟨AN,⟨DX,⟨DW,⟨DV,trivial,trivial⟩,trivial⟩,⟨AM,⟨DY,trivial,trivial⟩,trivial⟩⟩,⟨AQ,⟨AP,⟨AO,trivial,trivial⟩,trivial⟩,⟨AR,trivial,trivial⟩⟩⟩,⟨AY,⟨AW,⟨AU,⟨AT,trivial,trivial⟩,trivial⟩,⟨AX,trivial,trivial⟩⟩,⟨A1,⟨A0,⟨AZ,trivial,trivial⟩,trivial⟩,⟨A2,trivial,trivial⟩⟩⟩⟩,⟨yJ,⟨A9,⟨A6,⟨A5,⟨A4,trivial,trivial⟩,trivial⟩,⟨A8,⟨A7,trivial,trivial⟩,trivial⟩⟩,⟨yH,⟨yG,⟨yF,trivial,trivial⟩,trivial⟩,⟨yI,trivial,trivial⟩⟩⟩,⟨yO,⟨yM,⟨yL,⟨yK,trivial,trivial⟩,trivial⟩,⟨yN,trivial,trivial⟩⟩,⟨yR,⟨yQ,⟨yP,trivial,trivial⟩,trivial⟩,⟨yS,trivial,trivial⟩⟩⟩⟩⟩
 field:=⟨rR,⟨rP,⟨rO,trivial,trivial⟩,⟨rQ,trivial,trivial⟩⟩,⟨pJ,⟨rS,trivial,trivial⟩,⟨pK,trivial,trivial⟩⟩⟩
 places:=⟨vi,⟨vg,⟨ve,trivial,trivial⟩,⟨vh,trivial,trivial⟩⟩,⟨sH,⟨vj,trivial,trivial⟩,⟨sI,trivial,trivial⟩⟩⟩
 placesN:=⟨sF,⟨sD,⟨vd,trivial,trivial⟩,trivial⟩,⟨sG,trivial,trivial⟩⟩
 map:=⟨zH,trivial,trivial⟩
 eq:=⟨CA,⟨Cz,⟨Cy,trivial,trivial⟩,trivial⟩,⟨zl,⟨zk,trivial,trivial⟩,trivial⟩⟩
 und:=⟨⟨_,_,Bv⟩,⟨FJ,⟨E5,⟨FI,trivial,trivial⟩,trivial⟩,⟨E4,⟨E3,trivial,trivial⟩,trivial⟩⟩,⟨DP,⟨DO,⟨⟨_,DN,E5⟩,trivial,trivial⟩,trivial⟩,⟨DQ,trivial,trivial⟩⟩⟩
 fieldV:=⟨u1,⟨uZ,⟨uY,trivial,trivial⟩,⟨u0,trivial,trivial⟩⟩,⟨sA,⟨u2,trivial,trivial⟩,⟨sB,trivial,trivial⟩⟩⟩
 indexV:=⟨xB,⟨xA,⟨zP,trivial,trivial⟩,trivial⟩,⟨xC,trivial,trivial⟩⟩
theorem mixed:Tryd.prog.follows .mixedOrders=true:=by kernel_rfl
end Go.Proofs.YtgncapdjheghfaaDoor
namespace Go.Proofs.YtgncapdjheghfaaDoor
open Go.Am Go.Proofs Go
structure Fig where
 name:ByteArray
 role:ByteArray
 room:Int
 height:Int
deriving DecidableEq
structure Ent where
 says:Int
 a:Int
 b:Int
deriving DecidableEq
structure Bill where
 lines:Int
 figs:List Fig
 truths:List Int
def ak(n:Int):AV:= .v (.int .i64 n)
def aH(b:Bool):AV:= .v (.bool b)
def aI(s:ByteArray):AV:= .v (.string s)
def eR(f:Fig):AV:= .agg [aI f.name,aI f.role,ak f.room,ak f.height]
def bK(x:Ent):AV:= .agg [ak x.says,ak x.a,ak x.b]
def iK(l:List Fig):AV:= .slice 4 (l.map eR) .no
def bg(l:List Ent):AV:= .slice 3 (l.map bK) .no
def bU(l:List Int):AV:= .slice 1 (l.map ak) .no
def EX(l:List ByteArray):AV:= .slice 1 (l.map aI) .no
def tV(s:Bill):List AV:=[ak s.lines,iK s.figs,bU s.truths]
def ci(s:Bill):AV:= .agg [ak s.lines,iK s.figs,bU s.truths]
def E0(x:Int×Int×Int):AV:= .tuple [ak x.1,ak x.2.1,ak x.2.2]
end Go.Proofs.YtgncapdjheghfaaDoor
namespace Go.Proofs.YtgncapdjheghfaaDoor
open Go.Am Go.Proofs Go Go.ChangeShapes Go.WideShapes Go.RowKit
theorem tZ{H:Type}{l:List (DataW H)}(hk:Rows.uptoSmall H l=true):Rows.uptoBulkAll l≤1048576:=of_decide_eq_true hk
inductive Lf where
 | int (k:IntKind)
 | bool
 | str
def DZ(b:Nat):Lf→Value→Prop
 | .int k,.int k' m=>k'=k∧(Lit.int k m).wf=true
 | .bool,.bool _=>True
 | .str,.string s=>s.size≤b
 | _,_=>False
def Fit(b:Nat):List Lf→List Value→Prop
 | [],[]=>True
 | l::ls,v::vs=>DZ b l v∧Fit b ls vs
 | _,_=>False
theorem DZ.mono{b b':Nat}(h:b≤b'){l:Lf}{v:Value}(hf:DZ b l v):DZ b' l v:=by
 cases l<;>cases v<;>simp only[DZ]at hf ⊢ <;>first|exact hf|omega
theorem Fit.mono{b b':Nat}(h:b≤b'):∀{ls:List Lf} {vs:List Value},Fit b ls vs→Fit b' ls vs
 | [],[],_=>trivial
 | [],_::_,hf=>hf
 | _::_,[],hf=>hf
 | _::_,_::_,hf=>⟨hf.1.mono h,hf.2.mono h⟩
theorem Fit.len{b:Nat}:∀{ls:List Lf} {vs:List Value},Fit b ls vs→vs.length=ls.length
 | [],[],_=>rfl
 | [],_::_,hf=>hf.elim
 | _::_,[],hf=>hf.elim
 | _::_,_::_,hf=>by simp only[List.length_cons,hf.2.len]
theorem Fit.append{b:Nat}:∀{ls ms:List Lf} {vs ws:List Value},Fit b ls vs→Fit b ms ws→Fit b (ls++ms) (vs++ws)
 | [],_,[],_,_,h=>h
 | [],_,_::_,_,h,_=>h.elim
 | _::_,_,[],_,h,_=>h.elim
 | _::_,_,_::_,_,h,k=>⟨h.1,h.2.append k⟩
theorem Fit.one{b:Nat}:∀{ls:List Lf} {vs:List Value},Fit b ls vs→∀v∈vs,v.oneCell'=true
 | [],[],_,v,hv=>by simp at hv
 | [],_::_,hf,_,_=>hf.elim
 | _::_,[],hf,_,_=>hf.elim
 | l::_,u::_,hf,v,hv=>by
  rcases List.mem_cons.1 hv with e|e
  ·subst e
   have:=hf.1
   cases l<;>cases v<;>simp only[DZ]at this<;>rfl
  ·exact hf.2.one v e
section
variable {H:Type} {enc:TypeId×Value→H} {P:Program} {W:World} {sp:Nat→Bool} {held:Bool}
def Fc(W:World)(b _:Nat):Prop:=b<W.heap.size
end
theorem oC{W W':World}{may:MemPlace→Prop}(h:Below W.heap.size W W'):W.keptBut W' may:=by
 refine⟨h.os,h.output,fun i hi=>?_⟩
 rw[h.block i hi]
 cases W.heap[i]? with
 | none=>rfl
 | some o=>cases o<;>first|rfl|exact⟨rfl,rfl,rfl,fun _ _=>rfl⟩|exact .inr ⟨rfl,rfl⟩
theorem own:ownKnob Tryd.prog.godebug=none:=by kernel_rfl
theorem wU{f:FuncId}{args:List AV}{W:World}{cargs:Array Value}(hg:iw W (Fc W))(h:PureA Tryd.prog f args (aH true))(hr:kK W (Fc W) args cargs) :
  Calls Tryd.prog f cargs W fun e W'=>e = .returned (.bool true)∧Below W.heap.size W W':=by
 refine(h.2 W (Fc W) cargs ⟨fun b i hb=>hb,hg⟩ hr).mono ?_
 rintro e W' ⟨y,imm',rfl,_,hy,hb⟩
 have:y = .bool true:=by
  unfold aH at hy
  cases hy
  rfl
 subst this
 exact⟨rfl,hb⟩
end Go.Proofs.YtgncapdjheghfaaDoor
namespace Go.Proofs.YtgncapdjheghfaaDoor
open Go.Am Go.Proofs Go
def cn{α:Type}(p:α→Bool):Nat→List α→Int
 | _,[]=> -1
 | i,x::xs=>if p x then i else cn p (i+1) xs
def idx{α:Type}(p:α→Bool)(l:List α):Int:=cn p 0 l
def Bw(n l m:Int):Bool:=l≤n&&n≤m
def aS(l m n:Int):Bool:=n<l||m<n
def dS(b:UInt8):Bool:=97≤b.toNat&&b.toNat≤122
def fx(b:UInt8):Bool:=(48≤b.toNat&&b.toNat≤57)||b.toNat==46
def p0:Bool→List UInt8→Bool
 | _,[]=>true
 | first,b::bs=>(dS b||(!first&&fx b))&&p0 false bs
def d4(s:ByteArray):Bool:=decide (s.data.toList≠[])&&decide (s.data.toList.length≤16)&&p0 true s.data.toList
def a6{α:Type}(g:Nat→α→Int):Nat→List α→Int×Int
 | _,[]=>(0,0)
 | i,x::xs=>if g i x=0 then a6 g (i+1) xs else(i,g i x)
def cE:List Int→List Int→Bool
 | [],[]=>false
 | [],_::_=>true
 | _::_,[]=>false
 | x::a,y::b=>if x=y then cE a b else decide (x<y)
def fH(a b:List Int):Bool:=if a.length=b.length then cE a b else decide (a.length<b.length)
def eT(before:List Fig)(f:Fig):Bool:=match before.getLast? with
 | none=>false
 | some y=>decide (f.room<y.room)
def lB(before:List Fig)(f:Fig):Int :=
 if d4 f.name=false then 6 else if before.any (fun x=>decide (x.name=f.name))=true then 5 else if d4 f.role=false then 6 else if(aS 0 9 f.room||aS 1 6 f.height)=true then 7
 else if eT before f=true then 2 else 0
def ep(n:Nat)(before:List Int)(t:Int):Int :=
 if aS 0 (2^n-1) t=true then 4 else if before.any (fun x=>decide (x=t))=true then 5 else 0
def Bill.figsErr(s:Bill):Int×Int:=a6 (fun i f=>lB (s.figs.take i) f) 0 s.figs
def Bill.truthsErr(s:Bill):Int×Int:=a6 (fun i t=>ep s.figs.length (s.truths.take i) t) 0 s.truths
def Bill.check(s:Bill):Int×Int×Int :=
 if aS 14 30 s.lines=true then(1,0,7)else if(6:Int)<s.figs.length then(2,0,3)else if s.figsErr.2≠0 then(2,s.figsErr.1,s.figsErr.2)
 else if aS 1 6 s.truths.length=true then(3,0,3)else if s.truthsErr.2≠0 then(3,s.truthsErr.1,s.truthsErr.2)else(0,0,0)
def Bill.small(s:Bill):Prop:=s.figs.length≤1048576∧s.truths.length≤1048576∧∀f∈s.figs,f.name.size≤1048576∧f.role.size≤1048576
def tW(t:Int)(i:Nat):Bool:=t.toNat.testBit i
def Bill.inAll(s:Bill)(i:Nat):Bool:=s.truths.all (tW · i)
def Bill.inSome(s:Bill)(i:Nat):Bool:=s.truths.any (tW · i)
def Bill.oneOf(s:Bill)(a b:Nat):Bool:=s.truths.all fun t=>tW t a||tW t b
def Bill.allN(s:Bill):Nat:=s.truths.foldl (fun x t=>x&&&t.toNat) 63
def Bill.someN(s:Bill):Nat:=s.truths.foldl (fun x t=>x|||t.toNat) 0
def Bill.sure(s:Bill)(set:Int):Bool:= !s.truths.any fun t=>decide (t.toNat&&&set.toNat=0)
def Bill.roomAt(s:Bill)(i:Int):Int:=match s.figs[i.toNat]? with|none=>0|some f=>f.room
def Bill.heightAt(s:Bill)(i:Int):Int:=match s.figs[i.toNat]? with|none=>0|some f=>f.height
def Bill.so(s:Bill)(x:Ent):Bool :=
 if x.says=0 then decide (x.b=0)&&s.inAll x.a.toNat
 else if x.says=1 then decide (x.a<x.b)&&(decide (s.roomAt x.a=s.roomAt x.b)&&((!s.inAll x.a.toNat&& !s.inAll x.b.toNat)&&s.oneOf x.a.toNat x.b.toNat))
 else decide (x.b=0)&&(s.inSome x.a.toNat&& !s.inAll x.a.toNat)
def Ent.named(x:Ent):Nat:=if x.says=1 then 2^x.a.toNat|||2^x.b.toNat else 2^x.a.toNat
def Bill.holdsL(s:Bill):List Ent→Nat→Int→Bool
 | [],met,_=>decide (met=s.someN)
 | x::l,met,last =>
  if(aS 0 2 x.says||(aS (last+1) (s.figs.length-1) x.a||aS 0 (s.figs.length-1) x.b))=true then false
  else if(!s.so x||decide (met&&&x.named≠0))=true then false else s.holdsL l (met|||x.named) x.a
def Bill.holds(s:Bill)(c:List Ent):Bool:=s.holdsL c 0 (-1)
def Bill.tries(s:Bill)(a:Nat):List Ent:=(List.range 3).flatMap fun(k:Nat)=>(List.range s.figs.length).map fun(b:Nat)=>⟨(k:Int),(a:Int),(b:Int)⟩
def Bill.fitsIn(s:Bill)(left:Nat)(x:Ent):Bool:=s.so x&&decide (x.named&&&left=x.named)
def aV(left m:Nat):Nat:=left&&&(63^^^m)
def Bill.catsN(s:Bill):Nat→Nat→Nat→List (List Ent)
 | 0,_,left=>if left=0 then [[]]else []
 | f+1,a,left=>if left=0 then [[]]else if left.testBit a=false then s.catsN f (a+1) left
  else((s.tries a).filter (s.fitsIn left)).flatMap fun x=>(s.catsN f (a+1) (aV left x.named)).map (x:: ·)
def Bill.cats(s:Bill):List (List Ent):=s.catsN 6 0 s.someN
def di(l:List Ent):Nat:=l.countP fun x=>decide (x.says=2)
def cC:Option (List Ent×Int)→List (List Ent)→Option (List Ent×Int)
 | o,[]=>o
 | none,c::l=>cC (some (c,di c)) l
 | some (b,n),c::l=>if(di c:Int)<n then cC (some (c,di c)) l else cC (some (b,n)) l
def Bill.bestR(s:Bill):List Ent×Int×Int:=if s.check.2.2≠0 then([],0,s.check.2.2)else match cC none s.cats with|none=>([], -1,0)|some (b,n)=>(b,n,0)
def Bill.heading(s:Bill)(c:List Ent)(i:Nat)(top:Bool):Int :=
 match c[i]? with
 | none=>0
 | some x=>match(if i=0 then none else c[i-1]?)with
  | none=>2
  | some y=>if s.roomAt x.a≠s.roomAt y.a then 2 else if top=true then 1 else 0
def Bill.height(s:Bill)(x:Ent):Int:=s.heightAt x.a+(if x.says=1 then s.heightAt x.b else 0)
def Bill.lineOf(s:Bill)(c:List Ent)(i:Nat)(top:Bool):Int:=s.heading c i top+(match c[i]? with|none=>0|some x=>s.height x)
def Bill.linesOn(s:Bill)(c:List Ent)(i:Nat):Nat→Int
 | 0=>0
 | n+1=>s.linesOn c i n+s.lineOf c (i+n) (n==0)
def Bill.left(s:Bill)(c:List Ent)(i j:Nat):Int:=s.lines-s.linesOn c i (j-i)
def cj(s:Bill)(c:List Ent):Int:=if s.check.2.2≠0 then s.check.2.2 else if s.holds c=true then 0 else 9
def dC(c:List Ent):List Nat→Nat
 | []=>c.length
 | j::_=>j
def Bill.whiteL(s:Bill)(c:List Ent):List Nat→Option Int
 | []=>some 0
 | i::l=>if s.left c i (dC c l)<0 then none else match s.whiteL c l with
  | none=>none
  | some w=>some ((if dC c l<c.length then s.left c i (dC c l) * s.left c i (dC c l)else 0)+w)
structure Press where
 pages:List Int
 white:Int
def bu(p q:Press):Bool:=if p.white≠q.white then decide (p.white<q.white)else fH p.pages q.pages
def dF(best:Option Press)(x:Press):Press:=match best with
 | none=>x
 | some b=>if bu x b=true then x else b
def Bill.pressTo(s:Bill)(c:List Ent)(press:Nat→Press)(i:Nat):Nat→Nat→Option Press→Option Press
 | 0,_,best=>best
 | f+1,j,best=>if s.left c i j<0 then best
  else s.pressTo c press i f (j+1) (some (dF best ⟨(i:Int)::(press j).pages,(press j).white+(if j<c.length then s.left c i j * s.left c i j else 0)⟩))
def Bill.pressN(s:Bill)(c:List Ent):Nat→Nat→Press
 | 0,_=>⟨[],0⟩
 | f+1,i=>if i=c.length then⟨[],0⟩else match s.pressTo c (s.pressN c f) i (c.length-i) (i+1) none with
  | none=>⟨[],0⟩
  | some p=>p
def Bill.press(s:Bill)(c:List Ent)(i:Nat):Press:=s.pressN c (c.length-i) i
def Bill.fullTo(s:Bill)(c:List Ent)(i:Nat):Nat→Nat→Nat
 | 0,j=>j
 | f+1,j=>if j<c.length∧0≤s.left c i (j+1)then s.fullTo c i f (j+1)else j
def Bill.fullN(s:Bill)(c:List Ent):Nat→Nat→Nat
 | 0,_=>0
 | f+1,i=>if i<c.length then s.fullN c f (s.fullTo c i c.length (i+1))+1 else 0
def Bill.few(s:Bill)(c:List Ent):Nat:=s.fullN c c.length 0
end Go.Proofs.YtgncapdjheghfaaDoor
namespace Go.Proofs.YtgncapdjheghfaaDoor
open Go.Am Go.Proofs Go Go.ChangeShapes Go.WideShapes Go.RowKit
def tab0:List Int:=[0,1,28,2,29,14,24,3,30,22,20,15,25,17,4,8,31,27,13,23,21,19,16,7,26,12,18,6,11,5,10,9]
def tab1:List Int:=[0,1,56,2,57,49,28,3,61,58,42,50,38,29,17,4,62,47,59,36,45,43,51,22,53,39,33,30,24,18,12,5,63,55,48,27,60,41,37,16,46,35,44,21,52,32,23,11,54,26,40,15,34,20,31,10,25,14,19,9,13,8,7,6]
def tabP:List Int:=[1,10,100,1000,10000,100000,1000000,10000000,100000000,1000000000,10000000000,100000000000,1000000000000,10000000000000,100000000000000,1000000000000000,10000000000000000,100000000000000000,1000000000000000000,10000000000000000000]
theorem CL{L:List (String×DataW Unit)}{W:World}(_h:laidMetH Tryd.prog L W):iw W (Fc W):=by
 intro g cs hg
 unfold rV zA at hg
 cases hg
section
variable {H:Type} {enc:TypeId×Value→H} {W:World} {sp:Nat→Bool} {held:Bool}
end
end Go.Proofs.YtgncapdjheghfaaDoor
namespace Go.Proofs.YtgncapdjheghfaaDoor
open Go.Am Go.Proofs Go
theorem eB{α:Type}(g:Nat→α→Int):∀(l:List α) (i:Nat),(a6 g i l).2=0→∀j x,l[j]?=some x→g (i+j) x=0
 | [],i,h,j,x,hx=>by simp at hx
 | y::l,i,h,j,x,hx=>by
  simp only[a6]at h
  by_cases hy:g i y=0
  ·rw[if_pos hy]at h
   cases j with
   | zero=>simp at hx;subst hx;exact hy
   | succ j =>
    have:=eB g l (i+1) h j x (by simpa using hx)
    rwa [show i+(j+1)=i+1+j by omega]
  ·rw[if_neg hy]at h;exact absurd h hy
theorem a7(a b c:Int):(aS a b c=false)↔a≤c∧c≤b:=by
 unfold aS
 simp
structure Bill.Good (s:Bill):Prop where
 lines:14≤s.lines∧s.lines≤30
 len:s.figs.length≤6
 figs:∀f∈s.figs,(d4 f.name=true∧d4 f.role=true)∧(0≤f.room∧f.room≤9)∧1≤f.height∧f.height≤6
 apart:∀(i j:Nat) (f g:Fig),i<j→s.figs[i]?=some f→s.figs[j]?=some g→f.name≠g.name
 rooms:∀(i:Nat) (f g:Fig),s.figs[i]?=some f→s.figs[i+1]?=some g→f.room≤g.room
 lenT:1≤s.truths.length∧s.truths.length≤6
 truths:∀t∈s.truths,0≤t∧t<2^s.figs.length
 apartT:s.truths.Nodup
theorem uz{l:List Int}(h:∀(j:Nat) x,l[j]?=some x→(l.take j).any (fun y=>decide (y=x))=false):l.Nodup:=by
 unfold List.Nodup
 rw[List.pairwise_iff_getElem]
 intro i j hi hj hij e
 have:=h j l[j] (by simp[hj])
 rw[List.any_eq_false]at this
 refine this l[i] ?_ (by simp[e])
 rw[List.mem_take_iff_getElem]
 exact⟨i,by omega,rfl⟩
theorem Bill.good{s:Bill}(h:s.check.2.2=0):s.Good:=by
 unfold Bill.check at h
 split at h
 ·simp at h
 rename_i h1
 split at h
 ·simp at h
 rename_i h2
 split at h
 ·rename_i h3;exact absurd h h3
 rename_i h3
 split at h
 ·simp at h
 rename_i h4
 split at h
 ·rename_i h5;exact absurd h h5
 rename_i h5
 simp only[Bool.not_eq_true,a7]at h1 h4
 have hf:∀(j:Nat) x,s.figs[j]?=some x→lB (s.figs.take j) x=0:=fun j x hx=>by
  have:=eB _ s.figs 0 (by simpa[Bill.figsErr]using h3) j x hx
  rwa [Nat.zero_add]at this
 have ht:∀(j:Nat) x,s.truths[j]?=some x→ep s.figs.length (s.truths.take j) x=0:=fun j x hx=>by
  have:=eB _ s.truths 0 (by simpa[Bill.truthsErr]using h5) j x hx
  rwa [Nat.zero_add]at this
 have hf':∀(j:Nat) x,s.figs[j]?=some x→d4 x.name=true∧(s.figs.take j).any (fun y=>decide (y.name=x.name))=false∧d4 x.role=true∧(aS 0 9 x.room=false∧aS 1 6 x.height=false)∧eT (s.figs.take j) x=false:=by
  intro j x hx
  have:=hf j x hx
  unfold lB at this
  split at this
  ·omega
  rename_i q1
  split at this
  ·omega
  rename_i q2
  split at this
  ·omega
  rename_i q3
  split at this
  ·omega
  rename_i q4
  split at this
  ·omega
  rename_i q5
  simp only[Bool.not_eq_true,Bool.or_eq_false_iff]at q4
  exact⟨by simpa using q1,by simpa using q2,by simpa using q3,q4,by simpa using q5⟩
 refine⟨h1,by omega,?_,?_,?_,by omega,?_,?_⟩
 ·intro x hx
  obtain⟨i,hi⟩:=List.mem_iff_getElem?.1 hx
  obtain⟨q1,q2,q3,⟨q4,q4'⟩,q5⟩:=hf' i x hi
  exact⟨⟨q1,q3⟩,(a7 ..).1 q4,(a7 ..).1 q4'⟩
 ·intro i j f g hij hi hj e
  obtain⟨q1,q2,_⟩:=hf' j g hj
  rw[List.any_eq_false]at q2
  refine q2 f ?_ (by simp[e])
  obtain⟨hi1,hi2⟩:=List.getElem?_eq_some_iff.1 hi
  rw[List.mem_take_iff_getElem]
  have:=(List.getElem?_eq_some_iff.1 hj).1
  exact⟨i,by omega,hi2⟩
 ·intro i f g hi hj
  obtain⟨_,_,_,_,q5⟩:=hf' (i+1) g hj
  unfold eT at q5
  rw[List.take_add_one,hi]at q5
  simp at q5
  exact q5
 ·intro t ht'
  obtain⟨i,hi⟩:=List.mem_iff_getElem?.1 ht'
  have:=ht i t hi
  unfold ep at this
  split at this
  ·omega
  rename_i q
  simp only[Bool.not_eq_true,a7]at q
  omega
 ·refine uz fun j x hx=>?_
  have:=ht j x hx
  unfold ep at this
  split at this
  ·omega
  split at this
  ·omega
  rename_i q
  exact Bool.eq_false_iff.2 q
theorem nU{h:Nat}(hh:h≤6):2^h≤64:=by
 have:=Nat.pow_le_pow_right (n:=2) (by omega) hh
 omega
theorem Bill.Good.lt{s:Bill}(hg:s.Good){t:Int}(h:t∈s.truths):0≤t∧t<64:=by
 obtain⟨a,b⟩:=hg.truths t h
 have:((2^s.figs.length:Nat):Int)≤64:=by exact_mod_cast nU hg.len
 rw[Int.natCast_pow]at this
 exact⟨a,by push_cast at this;omega⟩
theorem gZ(i:Nat):∀(l:List Int) (x:Nat),(l.foldl (fun x t=>x&&&t.toNat) x).testBit i=(x.testBit i&&l.all (tW · i))
 | [],x=>by simp
 | t::l,x=>by
  simp only[List.foldl_cons,List.all_cons]
  rw[gZ i l,Nat.testBit_and,Bool.and_assoc]
  rfl
theorem ne(i:Nat):∀(l:List Int) (x:Nat),(l.foldl (fun x t=>x|||t.toNat) x).testBit i=(x.testBit i||l.any (tW · i))
 | [],x=>by simp
 | t::l,x=>by
  simp only[List.foldl_cons,List.any_cons]
  rw[ne i l,Nat.testBit_or,Bool.or_assoc]
  rfl
theorem za{i:Nat}:(63:Nat).testBit i=decide (i<6):=by
 rw[show(63:Nat)=2^6-1 by rfl,Nat.testBit_two_pow_sub_one]
theorem iy(s:Bill)(i:Nat):s.allN.testBit i=(decide (i<6)&&s.inAll i):=by
 unfold Bill.allN Bill.inAll
 rw[gZ,za]
theorem d7(s:Bill)(i:Nat):s.someN.testBit i=s.inSome i:=by
 unfold Bill.someN Bill.inSome
 rw[ne,Nat.zero_testBit,Bool.false_or]
theorem BG{s:Bill}(hg:s.Good){t:Int}(h:t∈s.truths){i:Nat}(hi:s.figs.length≤i):tW t i=false:=by
 obtain⟨a,b⟩:=hg.truths t h
 unfold tW
 apply Nat.testBit_lt_two_pow
 have h2:((2^s.figs.length:Nat):Int)≤((2^i:Nat):Int):=by exact_mod_cast Nat.pow_le_pow_right (n:=2) (by omega) hi
 have h3:((2^s.figs.length:Nat):Int)=2^s.figs.length:=by push_cast;rfl
 omega
theorem iM{s:Bill}(hg:s.Good){i:Nat}(hi:s.inSome i=true):i<s.figs.length:=by
 rcases Nat.lt_or_ge i s.figs.length with h|h
 ·exact h
 ·unfold Bill.inSome at hi
  obtain⟨t,ht,hb⟩:=List.any_eq_true.1 hi
  rw[BG hg ht h]at hb
  simp at hb
theorem nk{s:Bill}(hg:s.Good){i:Nat}(hi:s.inAll i=true):s.inSome i=true:=by
 unfold Bill.inAll at hi
 unfold Bill.inSome
 cases ht:s.truths with
 | nil=>have:=hg.lenT;rw[ht]at this;simp at this
 | cons t l =>
  rw[ht,List.all_cons,Bool.and_eq_true]at hi
  rw[List.any_cons,hi.1,Bool.true_or]
theorem Ab{s:Bill}(hg:s.Good):s.someN<2^s.figs.length:=by
 apply Nat.lt_pow_two_of_testBit
 intro i hi
 rw[d7]
 cases h:s.inSome i with
 | false=>rfl
 | true=>have:=iM hg h;omega
theorem fg{s:Bill}(hg:s.Good):s.someN<64:=by
 have:=Ab hg
 have:=nU hg.len
 omega
theorem qZ(s:Bill):s.allN<64:=by
 apply Nat.lt_pow_two_of_testBit (n:=6)
 intro i hi
 rw[iy,decide_eq_false (by omega),Bool.false_and]
theorem cm(a b:Nat):a&&&b=0↔∀i,¬(a.testBit i=true∧b.testBit i=true):=by
 constructor
 ·intro h i ⟨h1,h2⟩
  have:=congrArg (·.testBit i) h
  simp[h1,h2]at this
 ·intro h
  apply Nat.eq_of_testBit_eq
  intro i
  rw[Nat.testBit_and,Nat.zero_testBit]
  cases ha:a.testBit i with
  | false=>rfl
  | true=>cases hb:b.testBit i with
   | false=>rfl
   | true=>exact absurd ⟨ha,hb⟩ (h i)
theorem Ag(s:Bill)(set:Int):s.sure set=true↔∀t∈s.truths,∃i,tW t i=true∧tW set i=true:=by
 unfold Bill.sure
 rw[Bool.not_eq_true',List.any_eq_false]
 constructor
 ·intro h t ht
  have:=h t ht
  simp only[decide_eq_true_eq]at this
  rw[cm]at this
  exact Classical.byContradiction fun h=>this fun i hi=>h ⟨i,hi⟩
 ·intro h t ht
  simp only[decide_eq_true_eq]
  rw[cm]
  obtain⟨i,hi⟩:=h t ht
  exact fun h=>h i hi
theorem fA(a i:Nat):(2^a).testBit i=decide (a=i):=by rw[Nat.testBit_two_pow]
theorem x9(s:Bill)(a b:Nat):s.sure ((2^a|||2^b:Nat):Int)=s.oneOf a b:=by
 rw[Bool.eq_iff_iff,Ag]
 unfold Bill.oneOf
 rw[List.all_eq_true]
 refine⟨fun h t ht=>?_,fun h t ht=>?_⟩
 ·obtain⟨i,h1,h2⟩:=h t ht
  unfold tW at h2
  rw[Int.toNat_natCast,Nat.testBit_or,fA,fA,Bool.or_eq_true,decide_eq_true_eq,decide_eq_true_eq]at h2
  rw[Bool.or_eq_true]
  rcases h2 with rfl|rfl
  ·exact .inl h1
  ·exact .inr h1
 ·have:=h t ht
  rw[Bool.or_eq_true]at this
  rcases this with h|h
  ·exact⟨a,h,by unfold tW;rw[Int.toNat_natCast,Nat.testBit_or,fA];simp⟩
  ·exact⟨b,h,by unfold tW;rw[Int.toNat_natCast,Nat.testBit_or,fA b];simp⟩
end Go.Proofs.YtgncapdjheghfaaDoor
namespace Go.Proofs.YtgncapdjheghfaaDoor
open Go.Am Go.Proofs Go
def Bill.entry(s:Bill)(x:Ent):Bool :=
 if(Bw x.a 0 (s.figs.length-1)&&Bw x.b 0 (s.figs.length-1))=true then
  (if x.says=0 then decide (x.b=0)&&s.inAll x.a.toNat else if x.says=1 then decide (x.a<x.b)&&(decide (x.a≠x.b)&&decide (s.roomAt x.a=s.roomAt x.b)&& !s.inAll x.a.toNat&& !s.inAll x.b.toNat&&s.oneOf x.a.toNat x.b.toNat)
   else if x.says=2 then decide (x.b=0)&& !s.inAll x.a.toNat&&s.inSome x.a.toNat else false)
 else false
def Ent.who(x:Ent):List Int:=if x.says=1 then [x.a,x.b]else [x.a]
def Bq(c:List Ent):List Int:=c.flatMap Ent.who
def FK(n:Int)(l:List Int):Bool:=l.any (fun x=>decide (x=n))
def Fl:Option Int→List Ent→Bool
 | _,[]=>true
 | none,x::l=>Fl (some x.a) l
 | some p,x::l=>decide (p<x.a)&&Fl (some x.a) l
def Eo:List Int→List Int→Bool
 | _,[]=>true
 | before,x::l=> !FK x before&&Eo (before++[x]) l
def Bill.valid(s:Bill)(c:List Ent):Bool :=
 decide (c.length≤s.figs.length)&&(c.all s.entry&&Fl none c)&&Eo [] (Bq c)&&(List.range s.figs.length).all fun f=> !s.inSome f||FK (f:Int) (Bq c)
structure Bill.OkE (s:Bill) (x:Ent):Prop where
 says:x.says=0∨x.says=1∨x.says=2
 a:0≤x.a∧x.a<s.figs.length
 b:0≤x.b∧x.b<s.figs.length
 so:s.so x=true
theorem Bill.OkE.lt{s:Bill}{x:Ent}(h:s.OkE x)(h1:x.says=1):x.a<x.b:=by
 have:=h.so
 unfold Bill.so at this
 rw[if_neg (by omega),if_pos h1,Bool.and_eq_true,decide_eq_true_eq]at this
 exact this.1
theorem b9(x:Ent)(i:Nat):x.named.testBit i=decide (i=x.a.toNat∨(x.says=1∧i=x.b.toNat)):=by
 unfold Ent.named
 by_cases h:x.says=1
 ·rw[if_pos h,Nat.testBit_or,fA,fA,Bool.eq_iff_iff]
  simp only[Bool.or_eq_true,decide_eq_true_eq,h,true_and]
  omega
 ·rw[if_neg h,fA,Bool.eq_iff_iff]
  simp only[decide_eq_true_eq,h,false_and,or_false]
  omega
theorem Bill.OkE.some{s:Bill}(hg:s.Good){x:Ent}(h:s.OkE x){i:Nat}(hi:x.named.testBit i=true):s.inSome i=true:=by
 rw[b9,decide_eq_true_eq]at hi
 have hso:=h.so
 unfold Bill.so at hso
 split at hso
 ·rename_i h0
  rw[Bool.and_eq_true]at hso
  rcases hi with rfl|⟨h1,_⟩
  ·exact nk hg hso.2
  ·omega
 ·split at hso
  ·rename_i h1
   simp only[Bool.and_eq_true,Bool.not_eq_true']at hso
   obtain⟨_,_,⟨na,nb⟩,ho⟩:=hso
   unfold Bill.inAll at na nb
   unfold Bill.oneOf at ho
   rw[List.all_eq_true]at ho
   rw[List.all_eq_false]at na nb
   unfold Bill.inSome
   rw[List.any_eq_true]
   rcases hi with rfl|⟨_,rfl⟩
   ·obtain⟨t,ht,hb⟩:=nb
    have:=ho t ht
    rw[Bool.or_eq_true]at this
    exact⟨t,ht,this.resolve_right hb⟩
   ·obtain⟨t,ht,ha⟩:=na
    have:=ho t ht
    rw[Bool.or_eq_true]at this
    exact⟨t,ht,this.resolve_left ha⟩
  ·rename_i h0 h1
   simp only[Bool.and_eq_true]at hso
   rcases hi with rfl|⟨h,_⟩
   ·exact hso.2.1
   ·exact absurd h h1
def Asc:Int→List Ent→Prop
 | _,[]=>True
 | p,x::l=>p<x.a∧Asc x.a l
theorem Asc.mono{p q:Int}(h:p≤q):∀{l:List Ent},Asc q l→Asc p l
 | [],_=>trivial
 | _::_,⟨h1,h2⟩=>⟨by omega,h2⟩
theorem Asc.all{p:Int}:∀{l:List Ent},Asc p l→∀x∈l,p<x.a
 | [],_,x,hx=>by simp at hx
 | y::l,⟨h1,h2⟩,x,hx=>by
  rcases List.mem_cons.1 hx with rfl|hx
  ·exact h1
  ·have:=Asc.all h2 x hx;omega
theorem Asc.len{n:Nat}:∀{l:List Ent} {p:Int},Asc p l→ -1≤p→p<n→(∀x∈l,x.a<n)→(l.length:Int)≤n-1-p
 | [],p,_,h0,h1,_=>by simp;omega
 | x::l,p,⟨h1,h2⟩,h0,hn,hl=>by
  have:=Asc.len h2 (by omega) (hl x (by simp)) fun y hy=>hl y (by simp[hy])
  simp only[List.length_cons]
  push_cast
  omega
def eI:List Ent→Nat
 | []=>0
 | x::l=>x.named|||eI l
def mN:Nat→List Ent→Prop
 | _,[]=>True
 | met,x::l=>met&&&x.named=0∧mN (met|||x.named) l
theorem iF:∀{l:List Ent} {met:Nat},mN met l↔(met&&&eI l=0∧mN 0 l)
 | [],met=>by simp[mN,eI]
 | x::l,met=>by
  have h1:=iF (l:=l) (met:=met|||x.named)
  have h2:=iF (l:=l) (met:=0|||x.named)
  simp only[mN,eI]
  rw[h1,h2]
  simp only[Nat.zero_and,Nat.zero_or,true_and]
  rw[cm,cm,cm,cm]
  simp only[Nat.testBit_or,Bool.or_eq_true]
  constructor
  ·rintro⟨a,b,c⟩
   refine⟨fun i hi=>?_,fun i hi=>b i ⟨.inr hi.1,hi.2⟩,c⟩
   rcases hi.2 with h|h
   ·exact a i ⟨hi.1,h⟩
   ·exact b i ⟨.inl hi.1,h⟩
  ·rintro⟨a,b,c⟩
   refine⟨fun i hi=>a i ⟨hi.1,.inl hi.2⟩,fun i hi=>?_,c⟩
   rcases hi.1 with h|h
   ·exact a i ⟨h,.inr hi.2⟩
   ·exact b i ⟨h,hi.2⟩
structure Bill.Cat (s:Bill) (p:Int) (c:List Ent):Prop where
 ok:∀x∈c,s.OkE x
 asc:Asc p c
 disj:mN 0 c
theorem jD{s:Bill}:∀(l:List Ent) (met:Nat) (last:Int), -1≤last→(s.holdsL l met last=true↔((∀x∈l,s.OkE x)∧Asc last l∧mN met l)∧met|||eI l=s.someN)
 | [],met,last,_=>by simp[Bill.holdsL,Asc,mN,eI]
 | x::l,met,last,hlast=>by
  unfold Bill.holdsL
  constructor
  ·intro h
   split at h
   ·simp at h
   rename_i h1
   split at h
   ·simp at h
   rename_i h2
   simp only[Bool.not_eq_true,Bool.or_eq_false_iff,a7,Bool.not_eq_false',decide_eq_false_iff_not,Decidable.not_not]at h1 h2
   obtain⟨a1,a2,a3⟩:=h1
   obtain⟨b1,b2⟩:=h2
   obtain⟨⟨k1,k2,k3⟩,k4⟩:=(jD l _ _ (by omega)).1 h
   refine⟨⟨fun y hy=>?_,⟨by omega,k2⟩,b2,k3⟩,by rw[←k4,eI,Nat.or_assoc]⟩
   rcases List.mem_cons.1 hy with rfl|hy
   ·exact⟨by omega,by omega,by omega,by simpa using b1⟩
   ·exact k1 y hy
  ·rintro⟨⟨k1,⟨k2,k3⟩,k4,k5⟩,k6⟩
   have ho:=k1 x (by simp)
   obtain⟨o1,o2,o3,o4⟩:=ho
   rw[if_neg,if_neg]
   ·exact(jD l _ _ (by omega)).2 ⟨⟨fun y hy=>k1 y (by simp[hy]),k3,k5⟩,by rw[←k6,eI,Nat.or_assoc]⟩
   ·rw[o4,k4];simp
   ·rw[Bool.not_eq_true]
    simp only[Bool.or_eq_false_iff,a7]
    omega
theorem lI{s:Bill}{c:List Ent}:s.holds c=true↔s.Cat (-1) c∧eI c=s.someN:=by
 unfold Bill.holds
 rw[jD _ _ _ (by omega),Nat.zero_or]
 exact⟨fun⟨⟨a,b,d⟩,e⟩=>⟨⟨a,b,d⟩,e⟩,fun⟨⟨a,b,d⟩,e⟩=>⟨⟨a,b,d⟩,e⟩⟩
end Go.Proofs.YtgncapdjheghfaaDoor
namespace Go.Proofs.YtgncapdjheghfaaDoor
open Go.Am Go.Proofs Go
theorem cF(l m i:Nat)(hl:l<64):(aV l m).testBit i=(l.testBit i&& !m.testBit i):=by
 unfold aV
 rw[Nat.testBit_and,Nat.testBit_xor,za]
 by_cases hi:i<6
 ·rw[decide_eq_true hi,Bool.true_xor]
 ·have:l.testBit i=false:=Nat.testBit_lt_two_pow (Nat.lt_of_lt_of_le hl (by have:=Nat.pow_le_pow_right (n:=2) (by omega) (show 6≤i by omega);omega))
  rw[this,Bool.false_and,Bool.false_and]
theorem iT{l m:Nat}(hl:l<64):aV l m<64:=Nat.lt_of_le_of_lt Nat.and_le_left hl
def tO(a left:Nat):Prop:=∀i,left.testBit i=true→a≤i
theorem tO.next{a left:Nat}(h:tO a left)(hb:left.testBit a=false):tO (a+1) left:=fun i hi=>by
 have:=h i hi
 rcases Nat.lt_or_ge a i with h|h
 ·exact h
 ·obtain rfl:i=a:=by omega
  rw[hb]at hi;simp at hi
theorem tO.zero{a left:Nat}(h:tO a left)(hl:left<64)(ha:6≤a):left=0:=by
 apply Nat.eq_of_testBit_eq
 intro i
 rw[Nat.zero_testBit]
 cases hb:left.testBit i with
 | false=>rfl
 | true =>
  have:=h i hb
  have:left.testBit i=false:=Nat.testBit_lt_two_pow (Nat.lt_of_lt_of_le hl (by have:=Nat.pow_le_pow_right (n:=2) (by omega) (show 6≤i by omega);omega))
  rw[this]at hb;simp at hb
theorem DA(m left:Nat):m&&&left=m↔∀i,m.testBit i=true→left.testBit i=true:=by
 constructor
 ·intro h i hi
  have:=congrArg (·.testBit i) h
  simp only[Nat.testBit_and,hi,Bool.true_and]at this
  exact this
 ·intro h
  apply Nat.eq_of_testBit_eq
  intro i
  rw[Nat.testBit_and]
  cases hm:m.testBit i with
  | false=>rfl
  | true=>rw[h i hm];rfl
theorem d9{s:Bill}{a:Nat}{x:Ent}:x∈s.tries a↔(x.says=0∨x.says=1∨x.says=2)∧x.a=a∧0≤x.b∧x.b<s.figs.length:=by
 unfold Bill.tries
 rw[List.mem_flatMap]
 constructor
 ·rintro⟨k,hk,h⟩
  obtain⟨b,hb,rfl⟩:=List.mem_map.1 h
  have:=List.mem_range.1 hk
  have:=List.mem_range.1 hb
  refine⟨?_,rfl,?_,?_⟩<;>simp only<;>omega
 ·obtain⟨k,y,b⟩:=x
  rintro⟨h1,h2,h3,h4⟩
  simp only at h1 h2 h3 h4
  refine⟨k.toNat,List.mem_range.2 (by omega),List.mem_map.2 ⟨b.toNat,List.mem_range.2 (by omega),?_⟩⟩
  simp only[Ent.mk.injEq]
  omega
theorem gl{s:Bill}{left:Nat}{x:Ent}:s.fitsIn left x=true↔s.so x=true∧∀i,x.named.testBit i=true→left.testBit i=true:=by
 unfold Bill.fitsIn
 rw[Bool.and_eq_true,decide_eq_true_eq,DA]
theorem Cat.cons{s:Bill}{p:Int}{x:Ent}{c:List Ent}:s.Cat p (x::c)↔s.OkE x∧p<x.a∧s.Cat x.a c∧x.named&&&eI c=0:=by
 constructor
 ·rintro⟨h1,⟨h2,h3⟩,h4⟩
  simp only[mN,Nat.zero_and,true_and,Nat.zero_or]at h4
  obtain⟨h5,h6⟩:=iF.1 h4
  exact⟨h1 x (by simp),h2,⟨fun y hy=>h1 y (by simp[hy]),h3,h6⟩,h5⟩
 ·rintro⟨h1,h2,⟨h3,h4,h5⟩,h6⟩
  refine⟨fun y hy=>?_,⟨h2,h4⟩,?_⟩
  ·rcases List.mem_cons.1 hy with rfl|hy
   ·exact h1
   ·exact h3 y hy
  ·simp only[mN,Nat.zero_and,true_and,Nat.zero_or]
   exact iF.2 ⟨h6,h5⟩
theorem Cat.nil(s:Bill)(p:Int):s.Cat p []:=⟨by simp,trivial,trivial⟩
theorem tv{l m k:Nat}(hl:l<64):k=aV l m∧(∀i,m.testBit i=true→l.testBit i=true)↔m|||k=l∧m&&&k=0:=by
 rw[cm]
 constructor
 ·rintro⟨rfl,h⟩
  refine⟨Nat.eq_of_testBit_eq fun i=>?_,fun i hi=>?_⟩
  ·rw[Nat.testBit_or,cF _ _ _ hl]
   cases hm:m.testBit i with
   | false=>simp
   | true=>rw[h i hm];rfl
  ·rw[cF _ _ _ hl,hi.1]at hi
   simp at hi
 ·rintro⟨h1,h2⟩
  have hb:∀i,(m.testBit i||k.testBit i)=l.testBit i:=fun i=>by rw[←Nat.testBit_or,h1]
  refine⟨Nat.eq_of_testBit_eq fun i=>?_,fun i hi=>by rw[←hb,hi];rfl⟩
  rw[cF _ _ _ hl, ←hb]
  cases hm:m.testBit i with
  | false=>simp
  | true =>
   cases hk:k.testBit i with
   | false=>rfl
   | true=>exact absurd ⟨hm,hk⟩ (h2 i)
theorem xd{s:Bill}:∀{c:List Ent} {p:Int},s.Cat p c→∀i,(eI c).testBit i=true→p<i
 | [],p,_,i,h=>by simp[eI]at h
 | x::c,p,hc,i,h=>by
  obtain⟨h1,h2,h3,_⟩:=Cat.cons.1 hc
  simp only[eI,Nat.testBit_or,Bool.or_eq_true,b9,decide_eq_true_eq]at h
  have:=h1.a
  have:=h1.b
  rcases h with(h|⟨q,h⟩)|h
  ·omega
  ·have:=h1.lt q;omega
  ·have:=xd h3 i h;omega
theorem iD{s:Bill}(hg:s.Good):∀(f a left:Nat) (c:List Ent),left<64→tO a left→6≤a+f→(c∈s.catsN f a left↔s.Cat ((a:Int)-1) c∧eI c=left)
 | 0,a,left,c,hl,hf,ha=>by
  have h0:=hf.zero hl (by omega)
  subst h0
  unfold Bill.catsN
  rw[if_pos rfl,List.mem_singleton]
  constructor
  ·rintro rfl;exact⟨Cat.nil ..,rfl⟩
  ·rintro⟨_,h⟩
   cases c with
   | nil=>rfl
   | cons x c =>
    have:=congrArg (·.testBit x.a.toNat) h
    simp[eI,b9]at this
 | f+1,a,left,c,hl,hf,ha=>by
  unfold Bill.catsN
  by_cases h0:left=0
  ·subst h0
   rw[if_pos rfl,List.mem_singleton]
   constructor
   ·rintro rfl;exact⟨Cat.nil ..,rfl⟩
   ·rintro⟨_,h⟩
    cases c with
    | nil=>rfl
    | cons x c =>
     have:=congrArg (·.testBit x.a.toNat) h
     simp[eI,b9]at this
  rw[if_neg h0]
  by_cases hb:left.testBit a=false
  ·rw[if_pos hb,iD hg f (a+1) left c hl (hf.next hb) (by omega)]
   constructor
   ·rintro⟨⟨h1,h2,h3⟩,h4⟩
    exact⟨⟨h1,h2.mono (by omega),h3⟩,h4⟩
   ·rintro⟨h1,h4⟩
    refine⟨⟨h1.ok,?_,h1.disj⟩,h4⟩
    cases c with
    | nil=>trivial
    | cons x c =>
     obtain⟨k1,k2,k3,_⟩:=Cat.cons.1 h1
     refine⟨?_,k3.asc⟩
     have:x.a.toNat≠a:=fun e=>by
      have:(eI (x::c)).testBit a=true:=by simp[eI,b9,e]
      rw[h4,hb]at this;simp at this
     have:=k1.a
     omega
  ·rw[if_neg hb,List.mem_flatMap]
   have hb:left.testBit a=true:=by simpa using hb
   constructor
   ·rintro⟨x,hx,hc⟩
    obtain⟨d,hd,rfl⟩:=List.mem_map.1 hc
    obtain⟨h1,h2⟩:=List.mem_filter.1 hx
    obtain⟨t1,t2,t3⟩:=d9.1 h1
    obtain⟨t4,t5⟩:=gl.1 h2
    have ha':a<s.figs.length∨s.figs.length≤a:=by omega
    have hxa:x.named.testBit a=true:=by rw[b9,t2];simp
    have hf':tO (a+1) (aV left x.named):=fun i hi=>by
     rw[cF _ _ _ hl,Bool.and_eq_true,Bool.not_eq_true']at hi
     have:=hf i hi.1
     rcases Nat.lt_or_ge a i with h|h
     ·exact h
     ·obtain rfl:i=a:=by omega
      rw[hxa]at hi;simp at hi
    obtain⟨k1,k2⟩:=(iD hg f (a+1) _ d (iT hl) hf' (by omega)).1 hd
    obtain⟨m1,m2⟩:=(tv hl).1 ⟨k2,t5⟩
    have hso:s.inSome a=true∨True:= .inr trivial
    have haf:(a:Int)<s.figs.length:=by
     have hn:=t4
     unfold Bill.so at hn
     rcases ha' with h|h
     ·omega
     ·exfalso
      have hna:s.inSome a=false:=by
       cases hq:s.inSome a with
       | false=>rfl
       | true=>have:=iM hg hq;omega
      have hnl:s.inAll a=false:=by
       cases hq:s.inAll a with
       | false=>rfl
       | true=>rw[nk hg hq]at hna;simp at hna
      rw[t2]at hn
      simp only[Int.toNat_natCast,hna,hnl]at hn
      split at hn
      ·simp at hn
      ·split at hn
       ·rw[Bool.and_eq_true,decide_eq_true_eq]at hn
        omega
       ·simp at hn
    refine⟨Cat.cons.2 ⟨⟨t1,by omega,t3,t4⟩,by omega,?_,m2⟩,m1⟩
    rw[t2]
    rw[show((a+1:Nat):Int)-1=(a:Int) by omega]at k1
    exact k1
   ·rintro⟨h1,h4⟩
    cases c with
    | nil=>simp[eI]at h4;rw[←h4]at hb;simp at hb
    | cons x c =>
     obtain⟨k1,k2,k3,k4⟩:=Cat.cons.1 h1
     have hxa:x.a=a:=by
      rw[←h4]at hb
      simp only[eI,Nat.testBit_or,Bool.or_eq_true,b9,decide_eq_true_eq]at hb
      have:=k1.a
      have:=k1.b
      rcases hb with(h|⟨q,h⟩)|h
      ·omega
      ·have:=k1.lt q;omega
      ·have:=xd k3 a h;omega
     have hm:=(tv hl).2 ⟨h4,k4⟩
     have hxb:x.named.testBit a=true:=by rw[b9,hxa];simp
     have hf':tO (a+1) (aV left x.named):=fun i hi=>by
      rw[cF _ _ _ hl,Bool.and_eq_true,Bool.not_eq_true']at hi
      have:=hf i hi.1
      rcases Nat.lt_or_ge a i with h|h
      ·exact h
      ·obtain rfl:i=a:=by omega
       rw[hxb]at hi;simp at hi
     refine⟨x,List.mem_filter.2 ⟨d9.2 ⟨k1.says,hxa,k1.b⟩,gl.2 ⟨k1.so,hm.2⟩⟩,List.mem_map.2 ⟨c,?_,rfl⟩⟩
     refine(iD hg f (a+1) _ c (iT hl) hf' (by omega)).2 ⟨?_,hm.1⟩
     rw[show((a+1:Nat):Int)-1=(a:Int) by omega, ←hxa]
     exact k3
theorem zg{s:Bill}(hg:s.Good)(c:List Ent):c∈s.cats↔s.holds c=true:=by
 rw[lI]
 exact iD hg 6 0 s.someN c (fg hg) (fun i _=>Nat.zero_le i) (by omega)
theorem oo{s:Bill}(hg:s.Good):∀(f a left:Nat),left<64→tO a left→6≤a+f→(∀i,left.testBit i=true→s.inSome i=true)→s.catsN f a left≠[]
 | 0,a,left,hl,hf,ha,_=>by
  have h0:=hf.zero hl (by omega)
  subst h0
  simp[Bill.catsN]
 | f+1,a,left,hl,hf,ha,hs=>by
  unfold Bill.catsN
  split
  ·simp
  split
  ·rename_i hb
   exact oo hg f (a+1) left hl (hf.next hb) (by omega) hs
  ·rename_i hb
   have hb:left.testBit a=true:=by simpa using hb
   have hsa:=hs a hb
   have hla:=iM hg hsa
   obtain⟨x,h1,h2,h3⟩:∃x∈s.tries a,s.fitsIn left x=true∧x.named=2^a:=by
    cases hall:s.inAll a with
    | true =>
     refine⟨⟨0,a,0⟩,d9.2 ⟨.inl rfl,rfl,by simp;omega⟩,gl.2 ⟨by simp[Bill.so,hall],fun i hi=>?_⟩,by simp[Ent.named]⟩
     rw[b9]at hi
     simp at hi
     subst hi;exact hb
    | false =>
     refine⟨⟨2,a,0⟩,d9.2 ⟨.inr (.inr rfl),rfl,by simp;omega⟩,gl.2 ⟨by simp[Bill.so,hall,hsa],fun i hi=>?_⟩,by simp[Ent.named]⟩
     rw[b9]at hi
     simp at hi
     subst hi;exact hb
   have hf':tO (a+1) (aV left x.named):=fun i hi=>by
    rw[cF _ _ _ hl,Bool.and_eq_true,Bool.not_eq_true',h3,fA]at hi
    have:=hf i hi.1
    rcases Nat.lt_or_ge a i with h|h
    ·exact h
    ·obtain rfl:i=a:=by omega
     simp at hi
   have ih:=oo hg f (a+1) (aV left x.named) (iT hl) hf' (by omega) fun i hi=>by
    rw[cF _ _ _ hl,Bool.and_eq_true]at hi
    exact hs i hi.1
   obtain⟨c,hc⟩:=List.exists_mem_of_ne_nil _ ih
   intro he
   have:(x::c)∈((s.tries a).filter (s.fitsIn left)).flatMap fun x=>(s.catsN f (a+1) (aV left x.named)).map (x:: ·) :=
    List.mem_flatMap.2 ⟨x,List.mem_filter.2 ⟨h1,h2⟩,List.mem_map.2 ⟨c,hc,rfl⟩⟩
   rw[he]at this
   simp at this
theorem Cu{s:Bill}(hg:s.Good):s.cats≠[]:=oo hg 6 0 s.someN (fg hg) (fun i _=>Nat.zero_le i) (by omega) fun i hi=>by rw[←d7];exact hi
end Go.Proofs.YtgncapdjheghfaaDoor
namespace Go.Proofs.YtgncapdjheghfaaDoor
open Go.Am Go.Proofs Go
theorem eZ:∀{a b:List Int},cE a b=true→cE b a=false
 | [],[],h=>by simp[cE]at h
 | [],_::_,_=>rfl
 | _::_,[],h=>by simp[cE]at h
 | x::a,y::b,h=>by
  simp only[cE]at h ⊢
  split at h
  ·rename_i e
   rw[if_pos e.symm]
   exact eZ h
  ·rename_i e
   rw[if_neg (fun h=>e h.symm)]
   simp at h ⊢
   omega
theorem eg:∀a:List Int,cE a a=false
 | []=>rfl
 | x::a=>by simp[cE,eg a]
theorem lP:∀{a b:List Int},cE a b=false→cE b a=false→a=b
 | [],[],_,_=>rfl
 | [],_::_,h,_=>by simp[cE]at h
 | _::_,[],_,h=>by simp[cE]at h
 | x::a,y::b,h,k=>by
  simp only[cE]at h k
  split at h
  ·rename_i e
   rw[if_pos e.symm]at k
   rw[e,lP h k]
  ·rename_i e
   rw[if_neg (fun h=>e h.symm)]at k
   simp at h k
   omega
theorem lQ:∀{a b c:List Int},cE a b=true→cE b c=true→cE a c=true
 | [],_,[],h,k=>by rename_i b;cases b<;>simp[cE]at h k
 | [],_,_::_,_,_=>rfl
 | _::_,[],_,h,_=>by simp[cE]at h
 | _::_,_::_,[],_,k=>by simp[cE]at k
 | x::a,y::b,z::c,h,k=>by
  simp only[cE]at h k ⊢
  by_cases e1:x=y
  ·rw[if_pos e1]at h
   by_cases e2:y=z
   ·rw[if_pos e2]at k
    rw[if_pos (e1.trans e2)]
    exact lQ h k
   ·rw[if_neg e2]at k
    rw[if_neg (by rw[e1];exact e2),e1]
    exact k
  ·rw[if_neg e1]at h
   by_cases e2:y=z
   ·rw[if_neg (by rw[←e2];exact e1), ←e2]
    exact h
   ·rw[if_neg e2]at k
    simp at h k
    rw[if_neg (by omega)]
    simp;omega
def rT(c:List Ent):List Int:=c.flatMap fun x=>[x.a,x.says,x.b]
def before(c d:List Ent):Bool:=cE (rT c) (rT d)
theorem gm(x:Ent)(c:List Ent):rT (x::c)=x.a::x.says::x.b::rT c:=by unfold rT;rw[List.flatMap_cons];rfl
def EB(x:Ent):List Int:=[x.says,x.b]
theorem qQ(s:Bill)(a:Nat):(s.tries a).Pairwise fun x y=>cE (EB x) (EB y)=true:=by
 unfold Bill.tries
 rw[List.flatMap_def,List.pairwise_flatten]
 constructor
 ·intro l hl
  obtain⟨k,_,rfl⟩:=List.mem_map.1 hl
  rw[List.pairwise_map]
  refine List.Pairwise.imp ?_ List.pairwise_lt_range
  intro i j hij
  simp only[EB,cE,if_true]
  rw[if_neg (by omega)]
  simp;omega
 ·rw[List.pairwise_map]
  refine List.Pairwise.imp ?_ List.pairwise_lt_range
  intro i j hij x hx y hy
  obtain⟨b,_,rfl⟩:=List.mem_map.1 hx
  obtain⟨b',_,rfl⟩:=List.mem_map.1 hy
  simp only[EB,cE]
  rw[if_neg (by omega)]
  simp;omega
theorem fE(s:Bill):∀(f a left:Nat),(s.catsN f a left).Pairwise fun c d=>before c d=true
 | 0,a,left=>by unfold Bill.catsN;split<;>simp
 | f+1,a,left=>by
  unfold Bill.catsN
  split
  ·simp
  split
  ·exact fE s f (a+1) left
  ·rw[List.flatMap_def,List.pairwise_flatten]
   constructor
   ·intro l hl
    obtain⟨x,_,rfl⟩:=List.mem_map.1 hl
    rw[List.pairwise_map]
    refine List.Pairwise.imp ?_ (fE s f (a+1) (aV left x.named))
    intro c d h
    unfold before at h ⊢
    rw[gm,gm]
    simp only[cE,if_true]
    exact h
   ·rw[List.pairwise_map]
    have hs:=(qQ s a).sublist (List.filter_sublist (l:=s.tries a) (p:=s.fitsIn left))
    rw[List.pairwise_iff_forall_sublist]at hs ⊢
    intro x y hxy c hc d hd
    have hlt:=hs hxy
    have hx:=(List.mem_filter.1 (hxy.subset (by simp:x∈[x,y]))).1
    have hy:=(List.mem_filter.1 (hxy.subset (by simp:y∈[x,y]))).1
    obtain⟨c,_,rfl⟩:=List.mem_map.1 hc
    obtain⟨d,_,rfl⟩:=List.mem_map.1 hd
    unfold before
    rw[gm,gm,(d9.1 hx).2.1,(d9.1 hy).2.1]
    simp only[EB,cE]at hlt ⊢
    rw[if_pos trivial]
    split
    ·rename_i e
     rw[if_pos e]at hlt
     split at hlt
     ·simp at hlt
     ·rename_i e2
      rw[if_neg e2];exact hlt
    ·rename_i e
     rw[if_neg e]at hlt
     exact hlt
theorem rj(s:Bill):s.cats.Pairwise fun c d=>before c d=true:=fE s 6 0 s.someN
def LeB(c d:List Ent):Prop:=di c<di d∨(di c=di d∧(d=c∨before c d=true))
theorem gV:∀(l:List (List Ent)) (b:List Ent),(b::l).Pairwise (fun c d=>before c d=true)→∃c,cC (some (b,(di b:Int))) l=some (c,(di c:Int))∧c∈b::l∧∀d∈b::l,LeB c d
 | [],b,_=>⟨b,rfl,by simp,fun d hd=>by simp at hd;subst hd;exact .inr ⟨rfl,.inl rfl⟩⟩
 | x::l,b,hp=>by
  obtain⟨hb,hx,hl⟩:(∀d∈x::l,before b d=true)∧(∀d∈l,before x d=true)∧l.Pairwise (fun c d=>before c d=true):=by
   rw[List.pairwise_cons,List.pairwise_cons]at hp
   exact⟨hp.1,hp.2.1,hp.2.2⟩
  unfold cC
  by_cases h:(di x:Int)<(di b:Int)
  ·rw[if_pos h]
   obtain⟨c,h1,h2,h3⟩:=gV l x (List.pairwise_cons.2 ⟨hx,hl⟩)
   refine⟨c,h1,List.mem_cons_of_mem _ h2,fun d hd=>?_⟩
   rcases List.mem_cons.1 hd with rfl|hd
   ·left
    rcases h3 x (by simp)with k|⟨k,_⟩<;>omega
   ·exact h3 d hd
  ·rw[if_neg h]
   obtain⟨c,h1,h2,h3⟩:=gV l b (List.pairwise_cons.2 ⟨fun d hd=>hb d (by simp[hd]),hl⟩)
   refine⟨c,h1,?_,fun d hd=>?_⟩
   ·rcases List.mem_cons.1 h2 with rfl|h2
    ·simp
    ·simp[h2]
   ·rcases List.mem_cons.1 hd with rfl|hd
    ·exact h3 d (by simp)
    rcases List.mem_cons.1 hd with rfl|hd
    ·rcases List.mem_cons.1 h2 with rfl|hc
     ·by_cases e:di c=di d
      ·exact .inr ⟨e,.inr (hb d (by simp))⟩
      ·left;omega
     ·left
      have hbc:=hb c (by simp[hc])
      rcases h3 b (by simp)with k|⟨k,rfl|k2⟩
      ·omega
      ·unfold before at hbc;rw[eg]at hbc;simp at hbc
      ·have:=eZ (show cE (rT b) (rT c)=true from hbc)
       unfold before at k2;rw[this]at k2;simp at k2
    ·exact h3 d (by simp[hd])
theorem LeB.not{c d:List Ent}(h:LeB c d):di c≤di d∧(di c=di d→before d c=false):=by
 rcases h with h|⟨h,rfl|h2⟩
 ·exact⟨by omega,fun e=>by omega⟩
 ·exact⟨by omega,fun _=>eg _⟩
 ·exact⟨by omega,fun _=>eZ h2⟩
theorem pp{s:Bill}(hg:s.Good):∃c,cC none s.cats=some (c,(di c:Int))∧s.holds c=true∧∀d,s.holds d=true→LeB c d:=by
 have hne:=Cu hg
 have hs:=rj s
 have hi:=fun c=>zg hg c
 cases hc:s.cats with
 | nil=>exact absurd hc hne
 | cons b l =>
  rw[hc]at hs
  obtain⟨c,h1,h2,h3⟩:=gV l b hs
  refine⟨c,h1,(hi c).1 (by rw[hc];exact h2),fun d hd=>h3 d ?_⟩
  rw[←hc]
  exact(hi d).2 hd
end Go.Proofs.YtgncapdjheghfaaDoor
namespace Go.Proofs.YtgncapdjheghfaaDoor
open Go.Am Go.Proofs Go
theorem ui(i:Int)(a b:List Int):fH (i::a) (i::b)=fH a b:=by
 unfold fH
 simp only[List.length_cons,Nat.add_right_cancel_iff,cE,if_true,Nat.add_lt_add_iff_right]
theorem pE(a:List Int):fH a a=false:=by unfold fH;rw[if_pos rfl,eg]
theorem rv{a b:List Int}(h:fH a b=true):fH b a=false:=by
 unfold fH at *
 split at h
 ·rename_i e
  rw[if_pos e.symm]
  exact eZ h
 ·rename_i e
  rw[if_neg (fun h=>e h.symm)]
  simp at h ⊢
  omega
theorem rx{a b:List Int}(h:fH a b=false)(k:fH b a=false):a=b:=by
 unfold fH at *
 split at h
 ·rename_i e
  rw[if_pos e.symm]at k
  exact lP h k
 ·rename_i e
  rw[if_neg (fun h=>e h.symm)]at k
  simp at h k
  omega
theorem ry{a b c:List Int}(h:fH a b=true)(k:fH b c=true):fH a c=true:=by
 unfold fH at *
 by_cases e1:a.length=b.length
 ·rw[if_pos e1]at h
  by_cases e2:b.length=c.length
  ·rw[if_pos e2]at k
   rw[if_pos (e1.trans e2)]
   exact lQ h k
  ·rw[if_neg e2]at k
   rw[if_neg (by omega)]
   simp at k ⊢;omega
 ·rw[if_neg e1]at h
  by_cases e2:b.length=c.length
  ·rw[if_neg (by omega)]
   simp at h ⊢;omega
  ·rw[if_neg e2]at k
   simp at h k
   rw[if_neg (by omega)]
   simp;omega
theorem ey(p:Press):bu p p=false:=by unfold bu;rw[if_neg (by simp),pE]
theorem oa{p q:Press}(h:bu p q=true):bu q p=false:=by
 unfold bu at *
 split at h
 ·rename_i e
  rw[if_pos (fun h=>e h.symm)]
  simp at h ⊢;omega
 ·rename_i e
  rw[if_neg (fun h=>e (fun k=>h k.symm))]
  exact rv h
theorem iz{p q:Press}(h:bu p q=false)(k:bu q p=false):p=q:=by
 unfold bu at *
 split at h
 ·rename_i e
  rw[if_pos (fun h=>e h.symm)]at k
  simp at h k;omega
 ·rename_i e
  have e:p.white=q.white:=Decidable.not_not.1 e
  rw[if_neg (by rw[e];simp)]at k
  obtain⟨a,b⟩:=p
  obtain⟨c,d⟩:=q
  simp only at e h k
  rw[e,rx h k]
theorem od{p q r:Press}(h:bu p q=true)(k:bu q r=true):bu p r=true:=by
 unfold bu at *
 by_cases e1:p.white=q.white
 ·rw[if_neg (by simp[e1])]at h
  by_cases e2:q.white=r.white
  ·rw[if_neg (by simp[e2])]at k
   rw[if_neg (by simp[e1,e2])]
   exact ry h k
  ·rw[if_pos e2]at k
   rw[if_pos (by rw[e1];exact e2),e1];exact k
 ·rw[if_pos e1]at h
  by_cases e2:q.white=r.white
  ·rw[if_pos (by rw[←e2];exact e1), ←e2];exact h
  ·rw[if_pos e2]at k
   simp at h k
   rw[if_pos (by omega)]
   simp;omega
def LeP(p q:Press):Prop:=bu q p=false
theorem LeP.refl(p:Press):LeP p p:=ey p
theorem LeP.trans{p q r:Press}(h:LeP p q)(k:LeP q r):LeP p r:=by
 unfold LeP at *
 cases h1:bu r p with
 | false=>rfl
 | true =>
  cases h2:bu p q with
  | true=>rw[od h1 h2]at k;simp at k
  | false=>have:=iz h2 h;subst this;rw[h1]at k;simp at k
theorem LeP.antisymm{p q:Press}(h:LeP p q)(k:LeP q p):p=q:=iz k h
theorem zQ(b x:Press):LeP (dF (some b) x) b∧LeP (dF (some b) x) x:=by
 unfold dF LeP
 simp only
 by_cases h:bu x b=true
 ·rw[if_pos h];exact⟨oa h,ey x⟩
 ·rw[if_neg h];exact⟨ey b,Bool.eq_false_iff.2 h⟩
theorem zR(b x:Press):dF (some b) x=b∨dF (some b) x=x:=by
 unfold dF
 simp only
 split
 ·exact .inr rfl
 ·exact .inl rfl
theorem LeP.shift{a b:List Int}{w v:Int}(h:LeP ⟨a,w⟩ ⟨b,v⟩)(i k:Int):LeP ⟨i::a,w+k⟩ ⟨i::b,v+k⟩:=by
 unfold LeP bu at *
 simp only at *
 rw[ui]
 by_cases e:v=w
 ·rw[if_neg (by simp[e])]at h
  rw[if_neg (by simp[e])];exact h
 ·rw[if_pos e]at h
  rw[if_pos (by omega)]
  simp at h ⊢;omega
theorem ni{s:Bill}(hg:s.Good){x:Ent}(hx:s.OkE x):1≤s.height x∧s.height x≤12:=by
 have ha:1≤s.heightAt x.a∧s.heightAt x.a≤6:=by
  unfold Bill.heightAt
  have:=hx.a
  rw[List.getElem?_eq_getElem (by omega)]
  exact(hg.figs _ (List.getElem_mem _)).2.2
 have hb:1≤s.heightAt x.b∧s.heightAt x.b≤6:=by
  unfold Bill.heightAt
  have:=hx.b
  rw[List.getElem?_eq_getElem (by omega)]
  exact(hg.figs _ (List.getElem_mem _)).2.2
 unfold Bill.height
 split<;>omega
theorem iL(s:Bill)(c:List Ent)(i:Nat)(t:Bool):0≤s.heading c i t∧s.heading c i t≤2:=by
 unfold Bill.heading
 split
 ·omega
 split
 ·omega
 split
 ·omega
 split<;>omega
theorem fQ{s:Bill}(hg:s.Good){c:List Ent}(hc:∀x∈c,s.OkE x){i:Nat}(hi:i<c.length)(t:Bool):1≤s.lineOf c i t∧s.lineOf c i t≤14:=by
 unfold Bill.lineOf
 have h1:=iL s c i t
 rw[List.getElem?_eq_getElem hi]
 have h2:=ni hg (hc _ (List.getElem_mem hi))
 simp only
 omega
theorem pS{s:Bill}(hg:s.Good){c:List Ent}(hc:∀x∈c,s.OkE x)(i:Nat):∀n,i+n<c.length→s.linesOn c i n≤s.linesOn c i (n+1):=fun n hn=>by
 have:=fQ hg hc hn (n==0)
 show _≤s.linesOn c i n+s.lineOf c (i+n) (n==0)
 omega
theorem wV{s:Bill}(hg:s.Good){c:List Ent}(hc:∀x∈c,s.OkE x){i j:Nat}(hij:i≤j)(hj:j<c.length):s.left c i (j+1)≤s.left c i j:=by
 have:=pS hg hc i (j-i) (by omega)
 unfold Bill.left
 rw[show j+1-i=j-i+1 by omega]
 omega
theorem iP{s:Bill}(hg:s.Good){c:List Ent}(hc:∀x∈c,s.OkE x){i:Nat}:∀(k j:Nat),i≤j→j+k≤c.length→s.left c i (j+k)≤s.left c i j
 | 0,j,_,_=>Int.le_refl _
 | k+1,j,hij,hk=>by
  have h1:=iP hg hc k j hij (by omega)
  have h2:=wV hg hc (i:=i) (j:=j+k) (by omega) (by omega)
  rw[show j+(k+1)=j+k+1 by omega]
  omega
theorem oF{s:Bill}(hg:s.Good){c:List Ent}(hc:∀x∈c,s.OkE x){i:Nat}(hi:i<c.length):0≤s.left c i (i+1):=by
 have h1:=fQ hg hc hi true
 have:=hg.lines
 unfold Bill.left
 rw[show i+1-i=1 by omega]
 show 0≤s.lines-(0+s.lineOf c (i+0) true)
 rw[Nat.add_zero]
 omega
theorem wW(s:Bill)(c:List Ent)(i:Nat):s.left c i i=s.lines:=by unfold Bill.left;rw[Nat.sub_self];show s.lines-0=_;omega
theorem oE{s:Bill}(hg:s.Good){c:List Ent}(hc:∀x∈c,s.OkE x){i j:Nat}(hij:i≤j)(hj:j≤c.length):s.left c i j≤30:=by
 have:=iP hg hc (i:=i) (j-i) i (Nat.le_refl _) (by omega)
 rw[show i+(j-i)=j by omega,wW]at this
 have:=hg.lines
 omega
def dX(c:List Ent):Nat→List Nat→Prop
 | i,[]=>i=c.length
 | i,j::l=>i=j∧i<dC c l∧dX c (dC c l) l
theorem dX.le{c:List Ent}:∀{l:List Nat} {i:Nat},dX c i l→i≤c.length
 | [],i,h=>Nat.le_of_eq h
 | j::l,i,⟨_,h2,h3⟩=>by have:=h3.le;omega
theorem dX.end_le{c:List Ent}{l:List Nat}{i:Nat}(h:dX c i l):dC c l=i:=by
 cases l with
 | nil=>exact h.symm
 | cons j l=>exact h.1.symm
def f5(l:List Nat)(w:Int):Press:=⟨l.map fun(i:Nat)=>(i:Int),w⟩
structure Bill.BestP (s:Bill) (c:List Ent) (i:Nat) (p:Press):Prop where
 is:∃l w,p=f5 l w∧dX c i l∧s.whiteL c l=some w
 le:∀l w,dX c i l→s.whiteL c l=some w→LeP p (f5 l w)
theorem BestP.unique{s:Bill}{c:List Ent}{i:Nat}{p q:Press}(hp:s.BestP c i p)(hq:s.BestP c i q):p=q:=by
 obtain⟨l,w,rfl,h1,h2⟩:=hp.is
 obtain⟨l',w',rfl,k1,k2⟩:=hq.is
 exact(hp.le _ _ k1 k2).antisymm (hq.le _ _ h1 h2)
theorem fl{s:Bill}{c:List Ent}{i:Nat}{l:List Nat}{w:Int}:s.whiteL c (i::l)=some w↔0≤s.left c i (dC c l)∧∃v,s.whiteL c l=some v∧w=(if dC c l<c.length then s.left c i (dC c l) * s.left c i (dC c l)else 0)+v:=by
 show(if s.left c i (dC c l)<0 then none else match s.whiteL c l with|none=>none|some v=>some (_+v))=some w↔_
 by_cases h:s.left c i (dC c l)<0
 ·rw[if_pos h]
  constructor
  ·intro h;simp at h
  ·rintro⟨h1,_⟩;omega
 ·rw[if_neg h]
  cases s.whiteL c l with
  | none=>simp
  | some v =>
   simp only[Option.some.injEq,exists_eq_left']
   exact⟨fun e=>⟨by omega,e.symm⟩,fun e=>e.2.symm⟩
def iC(s:Bill)(c:List Ent)(press:Nat→Press)(i j:Nat):Press:=⟨(i:Int)::(press j).pages,(press j).white+(if j<c.length then s.left c i j * s.left c i j else 0)⟩
theorem f6{s:Bill}(hg:s.Good){c:List Ent}(hc:∀x∈c,s.OkE x){press:Nat→Press}{i:Nat}:∀(f j:Nat) (best:Option Press),i<j→j+f=c.length+1 →
  match s.pressTo c press i f j best with
  | none=>best=none∧(f=0∨s.left c i j<0)
  | some p=>(best=some p∨∃k,j≤k∧k≤c.length∧0≤s.left c i k∧p=iC s c press i k)∧(∀b,best=some b→LeP p b)∧∀k,j≤k→k≤c.length→0≤s.left c i k→LeP p (iC s c press i k)
 | 0,j,best,hij,hf=>by
  unfold Bill.pressTo
  cases best with
  | none=>exact⟨rfl,.inl rfl⟩
  | some p=>exact⟨.inl rfl,fun b hb=>by cases hb;exact LeP.refl _,fun k h1 h2=>by omega⟩
 | f+1,j,best,hij,hf=>by
  unfold Bill.pressTo
  by_cases h:s.left c i j<0
  ·rw[if_pos h]
   cases best with
   | none=>exact⟨rfl,.inr h⟩
   | some p =>
    refine⟨.inl rfl,fun b hb=>by cases hb;exact LeP.refl _,fun k h1 h2 h3=>?_⟩
    have:=iP hg hc (i:=i) (k-j) j (by omega) (by omega)
    rw[show j+(k-j)=k by omega]at this
    omega
  ·rw[if_neg h]
   have ih:=f6 hg hc (press:=press) (i:=i) f (j+1) (some (dF best (iC s c press i j))) (by omega) (by omega)
   show match s.pressTo c press i f (j+1) (some (dF best (iC s c press i j)))with|none=>_|some p=>_
   cases hr:s.pressTo c press i f (j+1) (some (dF best (iC s c press i j)))with
   | none=>rw[hr]at ih;simp at ih
   | some p =>
    rw[hr]at ih
    obtain⟨h1,h2,h3⟩:=ih
    have h2:=h2 _ rfl
    have hx:LeP p (iC s c press i j)∧∀b,best=some b→LeP p b:=by
     cases best with
     | none=>exact⟨h2,fun b hb=>by cases hb⟩
     | some b =>
      obtain⟨k1,k2⟩:=zQ b (iC s c press i j)
      exact⟨h2.trans k2,fun b' hb=>by cases hb;exact h2.trans k1⟩
    refine⟨?_,hx.2,fun k k1 k2 k3=>?_⟩
    ·rcases h1 with h1|⟨k,k1,k2,k3,k4⟩
     ·simp only[Option.some.injEq]at h1
      cases best with
      | none=>exact .inr ⟨j,Nat.le_refl _,by omega,by omega,h1.symm⟩
      | some b =>
       rcases zR b (iC s c press i j)with e|e
       ·left;rw[←h1,e]
       ·right;exact⟨j,Nat.le_refl _,by omega,by omega,by rw[←h1,e]⟩
     ·exact .inr ⟨k,by omega,k2,k3,k4⟩
    ·by_cases e:k=j
     ·subst e;exact hx.1
     ·exact h3 k (by omega) k2 k3
theorem eM{s:Bill}(hg:s.Good){c:List Ent}(hc:∀x∈c,s.OkE x):∀(f i:Nat),i≤c.length→c.length-i≤f→s.BestP c i (s.pressN c f i)
 | 0,i,hi,hf=>by
  have:i=c.length:=by omega
  subst this
  unfold Bill.pressN
  refine⟨⟨[],0,rfl,rfl,rfl⟩,fun l w h1 h2=>?_⟩
  cases l with
  | nil=>cases h2;exact LeP.refl _
  | cons j l=>obtain⟨_,a,b⟩:=h1;have:=b.le;omega
 | f+1,i,hi,hf=>by
  unfold Bill.pressN
  by_cases h:i=c.length
  ·subst h
   rw[if_pos rfl]
   refine⟨⟨[],0,rfl,rfl,rfl⟩,fun l w h1 h2=>?_⟩
   cases l with
   | nil=>cases h2;exact LeP.refl _
   | cons j l=>obtain⟨_,a,b⟩:=h1;have:=b.le;omega
  ·rw[if_neg h]
   have ih:=fun j (h1:i<j) (h2:j≤c.length)=>eM hg hc f j h2 (by omega)
   have hs:=f6 hg hc (press:=s.pressN c f) (i:=i) (c.length-i) (i+1) none (by omega) (by omega)
   have h1:=oF hg hc (i:=i) (by omega)
   cases hr:s.pressTo c (s.pressN c f) i (c.length-i) (i+1) none with
   | none=>rw[hr]at hs;rcases hs.2 with h|h<;>omega
   | some p =>
    rw[hr]at hs
    obtain⟨h1,_,h3⟩:=hs
    simp only
    refine⟨?_,fun l w k1 k2=>?_⟩
    ·rcases h1 with h1|⟨k,k1,k2,k3,rfl⟩
     ·simp at h1
     ·obtain⟨l,w,e,h4,h5⟩:=(ih k (by omega) k2).is
      refine⟨i::l,_,?_,⟨rfl,by rw[h4.end_le];omega,by rw[h4.end_le];exact h4⟩,fl.2 ⟨by rw[h4.end_le];exact k3,w,h5,rfl⟩⟩
      unfold iC
      rw[e,h4.end_le]
      unfold f5
      simp only[List.map_cons,Press.mk.injEq,true_and]
      omega
    ·cases l with
     | nil=>exact absurd k1 h
     | cons j l =>
      obtain⟨rfl,k3,k4⟩:=k1
      obtain⟨k5,v,k6,rfl⟩:=fl.1 k2
      have hle:=k4.le
      refine(h3 _ (by omega) hle k5).trans ?_
      have:=(ih _ k3 hle).le _ _ k4 k6
      unfold f5 at this
      have:=LeP.shift (a:=(s.pressN c f (dC c l)).pages) (w:=(s.pressN c f (dC c l)).white) this (i:Int) (if dC c l<c.length then s.left c i (dC c l) * s.left c i (dC c l)else 0)
      unfold iC f5
      rw[Int.add_comm _ v,List.map_cons]
      exact this
theorem zT{s:Bill}(hg:s.Good){c:List Ent}(hc:∀x∈c,s.OkE x):s.BestP c 0 (s.press c 0):=eM hg hc _ 0 (Nat.zero_le _) (Nat.le_refl _)
theorem lG{s:Bill}(hg:s.Good){c:List Ent}(hc:∀x∈c,s.OkE x){i:Nat}:∀(f j:Nat),i<j→j≤c.length→c.length≤j+f→0≤s.left c i j →
  j≤s.fullTo c i f j∧s.fullTo c i f j≤c.length∧0≤s.left c i (s.fullTo c i f j)∧∀k,k≤c.length→0≤s.left c i k→i<k→k≤s.fullTo c i f j
 | 0,j,hij,hj,hf,h0=>by
  unfold Bill.fullTo
  exact⟨Nat.le_refl _,hj,h0,fun k hk _ _=>by omega⟩
 | f+1,j,hij,hj,hf,h0=>by
  unfold Bill.fullTo
  by_cases h:j<c.length∧0≤s.left c i (j+1)
  ·rw[if_pos h]
   obtain⟨a,b,d,e⟩:=lG hg hc f (j+1) (by omega) (by omega) (by omega) h.2
   exact⟨by omega,b,d,e⟩
  ·rw[if_neg h]
   refine⟨Nat.le_refl _,hj,h0,fun k hk h1 h2=>?_⟩
   rcases Nat.lt_or_ge j k with hlt|hge
   ·exfalso
    have:=iP hg hc (i:=i) (k-(j+1)) (j+1) (by omega) (by omega)
    rw[show j+1+(k-(j+1))=k by omega]at this
    exact h ⟨by omega,by omega⟩
   ·exact hge
def Bill.full(s:Bill)(c:List Ent)(i:Nat):Nat:=s.fullTo c i c.length (i+1)
theorem lH{s:Bill}(hg:s.Good){c:List Ent}(hc:∀x∈c,s.OkE x){i:Nat}(hi:i<c.length) :
  i<s.full c i∧s.full c i≤c.length∧0≤s.left c i (s.full c i)∧∀k,k≤c.length→0≤s.left c i k→i<k→k≤s.full c i:=by
 obtain⟨a,b⟩:=lG hg hc (i:=i) c.length (i+1) (by omega) (by omega) (by omega) (oF hg hc hi)
 exact⟨a,b⟩
theorem jC(s:Bill)(c:List Ent)(f i:Nat)(hi:i<c.length):s.fullN c (f+1) i=s.fullN c f (s.full c i)+1:=by
 show(if i<c.length then _ else 0)=_
 rw[if_pos hi]
 rfl
theorem fL(s:Bill)(c:List Ent)(f i:Nat)(hi:c.length≤i):s.fullN c f i=0:=by
 cases f with
 | zero=>rfl
 | succ f=>show(if i<c.length then _ else 0)=0;rw[if_neg (by omega)]
theorem nf{s:Bill}(hg:s.Good){c:List Ent}(hc:∀x∈c,s.OkE x):∀(f g i:Nat),c.length≤i+f→c.length≤i+g→s.fullN c f i=s.fullN c g i
 | 0,g,i,hf,_=>by rw[fL s c 0 i (by omega),fL s c g i (by omega)]
 | f+1,g,i,hf,hgg=>by
  by_cases hi:i<c.length
  ·obtain⟨g,rfl⟩:∃k,g=k+1:=⟨g-1,by omega⟩
   have:=(lH hg hc hi).1
   rw[jC _ _ _ _ hi,jC _ _ _ _ hi,nf hg hc f g _ (by omega) (by omega)]
  ·rw[fL _ _ _ _ (by omega),fL _ _ _ _ (by omega)]
end Go.Proofs.YtgncapdjheghfaaDoor
namespace Go.Proofs.YtgncapdjheghfaaDoor
open Go.Am Go.Proofs Go
def fw(l:List Nat):List Int:=l.map fun(i:Nat)=>(i:Int)
theorem wv(l:List Nat):(fw l).map Int.toNat=l:=by unfold fw;rw[List.map_map];induction l with
 | nil=>rfl
 | cons x l ih=>simp only[List.map_cons,ih];rfl
def Bill.whiteI(s:Bill)(c:List Ent)(l:List Int):Option Int:=s.whiteL c (l.map Int.toNat)
theorem g4{c:List Ent}:∀{l:List Nat} {i:Nat},dX c i l→l.length+i≤c.length
 | [],i,h=>by have:i=c.length:=h;simp;omega
 | j::l,i,⟨_,h2,h3⟩=>by have:=g4 h3;simp only[List.length_cons];omega
end Go.Proofs.YtgncapdjheghfaaDoor
namespace Go.Proofs.YtgncapdjheghfaaDoor
open Go.Am Go.Proofs Go
abbrev Bs:=List UInt8
def cB:Bs:=[112,97,103,101]
def bI:Bs:=[114,111,111,109]
def wIs:Bs:=[105,115]
def yA:Bs:=[109,97,121]
def wBe:Bs:=[98,101]
def wAs:Bs:=[97,115]
def wOr:Bs:=[111,114]
def kU:Bs:=[99,111,110,116,105,110,117,101,100]
def num(n:Int):Bs:=[UInt8.ofNat (48+n.toNat)]
def bytes(s:ByteArray):Bs:=s.data.toList
def aL:List Bs→Bs
 | []=>[]
 | [w]=>w
 | w::ws=>w++32::aL ws
def Bill.whoW(s:Bill)(a:Int):List Bs:=match s.figs[a.toNat]? with
 | none=>[]
 | some f=>[bytes f.name,wAs,bytes f.role]
def Bill.entW(s:Bill)(i:Nat)(x:Ent):List Bs:=num ((i:Int)+1)::((if x.says=2 then [yA,wBe]else [wIs])++s.whoW x.a++(if x.says=1 then wOr::s.whoW x.b else []))
def Bill.headW(s:Bill)(c:List Ent)(i:Nat)(top:Bool)(x:Ent):List (List Bs) :=
 if s.heading c i top=2 then [[bI,num (s.roomAt x.a)]]else if s.heading c i top=1 then [[bI,num (s.roomAt x.a),kU]]else []
def C6(p:Nat):List Bs:=[cB,num ((p:Int)+1)]
def Bill.rowW(s:Bill)(c:List Ent)(pages:List Nat)(i:Nat):List (List Bs):=match c[i]? with
 | none=>[]
 | some x=>(match pages.findIdx? (· ==i)with|none=>[]|some p=>[C6 p])++s.headW c i ((pages.findIdx? (· ==i)).isSome) x++[s.entW i x]
def Bill.rowsW(s:Bill)(c:List Ent)(pages:List Nat):List (List Bs):=(List.range c.length).flatMap (s.rowW c pages)
def bm(ws:List Bs):Bs:=aL ws++[10]
def xz(p:Press):List Nat:=p.pages.map Int.toNat
def Bill.textL(s:Bill)(c:List Ent):Bs:=(s.rowsW c (xz (s.press c 0))).flatMap bm
def fp:Bs→Bs→List Bs
 | cur,[]=>if cur=[]then []else [cur]
 | cur,b::l=>if b=10 then cur::fp [] l else fp (cur++[b]) l
def okB(b:UInt8):Bool:=dS b||fx b
def ce:Bs→Bs→Option (List Bs)
 | w,[]=>some [w]
 | w,b::l=>if b=32 then(ce [] l).map (w:: ·)else if okB b=true then ce (w++[b]) l else none
def Bill.whoAt(s:Bill)(w:Bs):Int:=idx (fun f=>decide (bytes f.name=w)) s.figs
def Bill.readE(s:Bill)(ws:List Bs):Option Ent :=
 if ws.length=5∧ws[1]?=some wIs then some ⟨0,s.whoAt (ws.getD 2 []),0⟩
 else if ws.length=9∧ws[1]?=some wIs then some ⟨1,s.whoAt (ws.getD 2 []),s.whoAt (ws.getD 6 [])⟩
 else if ws.length=6∧ws[1]?=some yA then some ⟨2,s.whoAt (ws.getD 3 []),0⟩else none
def j0(ws:List Bs):Bool:=decide (ws[0]?=some cB)||decide (ws[0]?=some bI)
def Bill.parseW(s:Bill):List Bs→Option (List Ent)
 | []=>some []
 | l::ls=>match ce [] l with
  | none=>none
  | some ws=>if j0 ws=true then s.parseW ls else match s.readE ws with
   | none=>none
   | some x=>(s.parseW ls).map (x:: ·)
def Bill.parse(s:Bill)(t:Bs):Option (List Ent):=s.parseW (fp [] t)
def Bill.readR(s:Bill)(t:ByteArray):List Ent×Int :=
 if s.check.2.2≠0 then([],s.check.2.2)else if 800<t.size then([],3)else match s.parse (bytes t)with
  | none=>([],6)
  | some l=>if s.holds l=true∧s.textL l=bytes t then(l,0)else([],6)
theorem lR:∀(w cur rest:Bs),(10:UInt8)∉w→fp cur (w++10::rest)=(cur++w)::fp [] rest
 | [],cur,rest,_=>by simp[fp]
 | b::w,cur,rest,h=>by
  simp only[List.mem_cons,not_or]at h
  simp only[List.cons_append,fp]
  rw[if_neg (fun e=>h.1 e.symm),lR w _ rest h.2]
  simp
theorem yB{s:Bill}{a:Int}{f:Fig}(h:s.figs[a.toNat]?=some f):s.whoW a=[bytes f.name,wAs,bytes f.role]:=by unfold Bill.whoW;rw[h]
theorem iB{s t:ByteArray}(h:bytes s=bytes t):s=t:=by
 obtain⟨⟨a⟩⟩:=s
 obtain⟨⟨b⟩⟩:=t
 unfold bytes at h
 simp only at h
 subst h;rfl
theorem Asc.idx{n:Nat}:∀{c:List Ent} {p:Int},Asc p c→ -1≤p→(∀x∈c,x.a<n)→c≠[]→(c.length:Int)≤n-1-p
 | c,p,h,h0,hn,_=>by
  cases c with
  | nil=>contradiction
  | cons x c=>exact h.len h0 (by have:=hn x (by simp);have:=h.1;omega) hn
theorem jB{l:List Nat}{i p:Nat}(h:l.findIdx? (· ==i)=some p):p<l.length:=by
 have:=List.findIdx?_eq_some_iff_getElem.1 h
 exact this.1
theorem oB{s:Bill}{c:List Ent}(h:s.holds c=true):∀x∈c,s.OkE x:=(lI.1 h).1.ok
theorem lJ{s:Bill}(hg:s.Good){c:List Ent}(h:s.holds c=true):c.length≤s.figs.length:=by
 have hc:=(lI.1 h).1
 have:=hc.asc.len (n:=s.figs.length) (by omega) (by omega) fun x hx=>(hc.ok x hx).a.2
 omega
theorem sJ{s:Bill}(hg:s.Good){c:List Ent}(hc:∀x∈c,s.OkE x):∃l w,s.press c 0=f5 l w∧xz (s.press c 0)=l∧dX c 0 l∧s.whiteL c l=some w:=by
 obtain⟨l,w,e,h1,h2⟩:=(zT hg hc).is
 refine⟨l,w,e,?_,h1,h2⟩
 rw[e]
 exact wv l
end Go.Proofs.YtgncapdjheghfaaDoor
namespace Go.Proofs.YtgncapdjheghfaaDoor
open Go.Am Go.Proofs Go
theorem eW{α:Type}(g:Nat→α→Int):∀(l:List α) (i:Nat),(∀(j:Nat) x,l[j]?=some x→g (i+j) x=0)→a6 g i l=(0,0)
 | [],i,_=>rfl
 | y::l,i,h=>by
  unfold a6
  rw[if_pos (show g i y=0 from h 0 y rfl)]
  refine eW g l (i+1) fun j x hx=>?_
  have:=h (j+1) x (by simpa using hx)
  rw[show i+(j+1)=i+1+j by omega]at this
  exact this
theorem Bill.Good.check{s:Bill}(hg:s.Good):s.check=(0,0,0):=by
 have h1:s.figsErr=(0,0):=by
  refine eW _ _ 0 fun j x hx=>?_
  have hm:=hg.figs x (List.mem_of_getElem? hx)
  rw[Nat.zero_add]
  unfold lB
  rw[if_neg (by rw[hm.1.1];simp),if_neg,if_neg (by rw[hm.1.2];simp),if_neg,if_neg]
  ·unfold eT
   cases j with
   | zero=>simp
   | succ j =>
    obtain⟨y,hy⟩:∃y,s.figs[j]?=some y:=⟨_,List.getElem?_eq_getElem (by have:=(List.getElem?_eq_some_iff.1 hx).1;omega)⟩
    rw[List.take_add_one,hy]
    have:=hg.rooms j y x hy hx
    simp;exact this
  ·simp only[Bool.not_eq_true,Bool.or_eq_false_iff,a7]
   exact⟨hm.2.1,hm.2.2⟩
  ·rw[Bool.not_eq_true,List.any_eq_false]
   intro y hy
   rw[List.mem_take_iff_getElem]at hy
   obtain⟨i,hi,rfl⟩:=hy
   have:=hg.apart i j s.figs[i] x (by omega) (List.getElem?_eq_getElem (by omega)) hx
   simpa using this
 have h2:s.truthsErr=(0,0):=by
  refine eW _ _ 0 fun j x hx=>?_
  have hm:=hg.truths x (List.mem_of_getElem? hx)
  rw[Nat.zero_add]
  unfold ep
  rw[if_neg,if_neg]
  ·rw[Bool.not_eq_true,List.any_eq_false]
   intro y hy e
   rw[decide_eq_true_eq]at e
   subst e
   rw[List.mem_take_iff_getElem]at hy
   obtain⟨i,hi,e⟩:=hy
   have hnd:=hg.apartT
   unfold List.Nodup at hnd
   rw[List.pairwise_iff_getElem]at hnd
   obtain⟨hj,e2⟩:=List.getElem?_eq_some_iff.1 hx
   exact hnd i j (by omega) hj (by omega) (e.trans e2.symm)
  ·rw[Bool.not_eq_true,a7];omega
 have h3:=hg.lines
 have h4:=hg.len
 have h5:=hg.lenT
 unfold Bill.check
 rw[if_neg (by rw[Bool.not_eq_true,a7];exact h3),if_neg (by omega),if_neg (by rw[h1];simp),if_neg (by rw[Bool.not_eq_true,a7];omega),if_neg (by rw[h2];simp)]
structure Alike (s t:Bill):Prop where
 len:t.figs.length=s.figs.length
 room:∀i,t.roomAt i=s.roomAt i
 all:∀i,t.inAll i=s.inAll i
 some:∀i,t.inSome i=s.inSome i
 one:∀a b,t.oneOf a b=s.oneOf a b
theorem Alike.someN{s t:Bill}(h:Alike s t):t.someN=s.someN:=by
 apply Nat.eq_of_testBit_eq
 intro i
 rw[d7,d7,h.some]
theorem Alike.so{s t:Bill}(h:Alike s t)(x:Ent):t.so x=s.so x:=by
 unfold Bill.so
 simp only[h.room,h.all,h.some,h.one]
theorem Alike.holdsL{s t:Bill}(h:Alike s t):∀(l:List Ent) (m:Nat) (p:Int),t.holdsL l m p=s.holdsL l m p
 | [],m,p=>by unfold Bill.holdsL;rw[h.someN]
 | x::l,m,p=>by unfold Bill.holdsL;rw[h.so,h.len,h.holdsL l]
theorem Alike.holds{s t:Bill}(h:Alike s t)(c:List Ent):t.holds c=s.holds c:=h.holdsL c 0 (-1)
theorem Alike.tries{s t:Bill}(h:Alike s t)(a:Nat):t.tries a=s.tries a:=by unfold Bill.tries;rw[h.len]
theorem Alike.catsN{s t:Bill}(h:Alike s t):∀(f a left:Nat),t.catsN f a left=s.catsN f a left
 | 0,_,_=>rfl
 | f+1,a,left=>by
  unfold Bill.catsN
  have e:t.fitsIn left=s.fitsIn left:=by funext x;unfold Bill.fitsIn;rw[h.so]
  simp only[h.catsN f,h.tries,e]
theorem Alike.cats{s t:Bill}(h:Alike s t):t.cats=s.cats:=by unfold Bill.cats;rw[h.someN,h.catsN]
def Bill.flat(s:Bill):Bill:={ s with lines:=30,figs:=s.figs.map fun f=>{ f with height:=1}}
theorem qU{s:Bill}{c:List Ent}:∀l w,s.whiteL c l=some w→0≤w
 | [],w,h=>by cases h;omega
 | i::l,w,h=>by
  obtain⟨h1,v,h2,rfl⟩:=fl.1 h
  have:=qU l v h2
  split
  ·have:=Int.mul_nonneg h1 h1;omega
  ·omega
def bA(left:Nat):Nat→List Int→List Int
 | _,[]=>[]
 | i,t::l=>if left.testBit i=true then t::bA left (i+1) l else bA left (i+1) l
def Bill.leftT(s:Bill)(left:Nat):Bill:={ s with truths:=bA left 0 s.truths}
theorem fB(left:Nat):∀(l:List Int) (i:Nat),(bA left i l).Sublist l
 | [],_=> .slnil
 | t::l,i=>by
  unfold bA
  split
  ·exact(fB left l (i+1)).cons_cons t
  ·exact(fB left l (i+1)).cons t
theorem ka{left:Nat}:∀{l:List Int} {i j:Nat} {t:Int},l[j]?=some t→left.testBit (i+j)=true→t∈bA left i l
 | [],i,j,t,h,_=>by simp at h
 | x::l,i,0,t,h,hb=>by
  simp at h;subst h
  unfold bA
  rw[if_pos (by simpa using hb)];simp
 | x::l,i,j+1,t,h,hb=>by
  have:=ka (l:=l) (i:=i+1) (j:=j) (by simpa using h) (by rw[show i+1+j=i+(j+1) by omega];exact hb)
  unfold bA
  split
  ·exact List.mem_cons_of_mem _ this
  ·exact this
theorem uu{s:Bill}(hg:s.Good){left:Nat}(h:(bA left 0 s.truths)≠[]):(s.leftT left).Good:=by
 have hs:=fB left s.truths 0
 have:=hg.lenT
 have h1:=hs.length_le
 have h2:(bA left 0 s.truths).length≠0:=fun e=>h (List.length_eq_zero_iff.1 e)
 exact⟨hg.lines,hg.len,hg.figs,hg.apart,hg.rooms,by show 1≤(bA left 0 s.truths).length∧(bA left 0 s.truths).length≤6;omega,fun t ht=>hg.truths t (hs.subset ht),hg.apartT.sublist hs⟩
theorem BI{left n:Nat}{l:List Int}(hn:l.length=n)(h0:left≠0)(hlt:left<2^n):bA left 0 l≠[]:=by
 obtain⟨i,hi⟩:∃i,left.testBit i=true:=by
  refine Classical.byContradiction fun h=>h0 ?_
  apply Nat.eq_of_testBit_eq
  intro i
  rw[Nat.zero_testBit]
  exact Bool.eq_false_iff.2 fun e=>h ⟨i,e⟩
 have hin:i<n:=by
  rcases Nat.lt_or_ge i n with h|h
  ·exact h
  ·have:=Nat.testBit_lt_two_pow (Nat.lt_of_lt_of_le hlt (Nat.pow_le_pow_right (n:=2) (by omega) h))
   rw[this]at hi;simp at hi
 have:=ka (left:=left) (l:=l) (i:=0) (j:=i) (t:=l[i]) (List.getElem?_eq_getElem (by omega)) (by rw[Nat.zero_add];exact hi)
 intro e
 rw[e]at this
 simp at this
end Go.Proofs.YtgncapdjheghfaaDoor
namespace Go.Proofs.YtgncapdjheghfaaDoor
open Go.Am Go.Proofs Go
theorem lK{α:Type}(p:α→Bool):∀(l:List α) (i:Nat),decide (0≤cn p i l)=l.any p
 | [],i=>by simp[cn]
 | x::xs,i=>by
  simp only[cn,List.any_cons]
  by_cases h:p x=true
  ·simp[h]
  ·simp only[h]
   have:=lK p xs (i+1)
   simpa using this
theorem rW{α:Type}(p:α→Bool)(l:List α):decide (0≤idx p l)=l.any p:=lK p l 0
theorem cT(n l m:Int):PureA Tryd.prog 15 [ak l,ak m,ak n] (aH (aS l m n)):=by
 refine ag ax { l:=0,f:=15} mixed BP Tryd.func15 (by kernel_rfl) ?_
 conv=>whnf
 repeat(any_goals(first|exact ac|(refine ao ?_ ?_<;>intro _<;>first|exact ap|conv=>whnf)|((first|refine ae ?_|refine bi ?_ ?_|intro _)<;>conv=>whnf)))
 all_goals(refine⟨⟨?_⟩,trivial⟩;simp[*,aS,oneOf,aH])
theorem ef{α:Type}{p:α→Bool}{l:List α}{i:Nat}{x:α}(hd:l.drop i=x::l.drop (i+1))(H:idx p l=cn p i (l.drop i)) :
 idx p l=if p x then(i:Int)else cn p (i+1) (l.drop (i+1)):=by rw[H,hd];rfl
theorem xU(s:ByteArray):s.size=s.data.toList.length:=by simp
theorem Bj{s:ByteArray}{i:Nat}{b:UInt8}(h:s.data.toList[i]?=some b):s.get! i=b:=by
 have:s.data[i]?=some b:=by rw[←Array.getElem?_toList];exact h
 show s.data[i]! = b
 rw[getElem!_def,this]
theorem m8{s:ByteArray}{i:Nat}{b:UInt8}(h:s.data.toList[i]?=some b)(hb:b.toNat<128):Utf8.decode s i=(b.toNat,1):=by
 unfold Utf8.decode
 simp only[Nat.add_zero,Bj h,if_pos hb]
theorem lx{s:ByteArray}{i:Nat}{b:UInt8}(h:s.data.toList[i]?=some b)(hb:¬b.toNat<128):128≤(Utf8.decode s i).1:=by
 unfold Utf8.decode
 simp only[Nat.add_zero,Bj h,if_neg hb]
 repeat(first|split|(simp only[Utf8.runeError];omega)|(simp only[Bool.and_eq_true,decide_eq_true_eq]at *;omega))
theorem Bp(s:ByteArray)(hl:s.size≤1048576):PureA Tryd.prog 42 [aI s] (aH (d4 s)):=by
 have hsz:=xU s
 refine ag ax { l:=0,f:=42} mixed B5 Tryd.func42 (by kernel_rfl) ?_
 conv=>whnf
 refine bS ax { l:=0,f:=42} mixed (fun _:Nat=>[]) (fun i=>[(⟨0,42,7⟩,(1,some (0,[aI s,ak i])))]) (fun _=>[]) (fun i=>i≤s.size∧p0 true s.data.toList=p0 (i==0) (s.data.toList.drop i)) (fun i=>s.size-i) 0 (by kernel_rfl)
  ⟨Nat.zero_le _,rfl⟩ ?_
 conv=>whnf
 refine⟨⟨trivial,bv rfl trivial,trivial⟩,?_⟩
 intro i ⟨hi,H⟩
 conv=>whnf
 refine bQ (fun h1=>?_) (fun h1=>?_)
 ·obtain⟨b,hb,hd⟩:=aF (l:=s.data.toList) (i:=i) (by omega)
  rw[hd]at H
  simp only[p0]at H
  have hlt:=b.toNat_lt
  by_cases h128:b.toNat<128
  ·have hdec:Utf8.decode s (i:Int).toNat=(b.toNat,1):=by rw[Int.toNat_natCast];exact m8 hb h128
   have hc:((Utf8.decode s (i:Int).toNat).1:Int)=b.toNat:=by rw[hdec]
   conv=>whnf
   repeat(any_goals(first|exact ac|(refine ao ?_ ?_<;>intro _<;>first|exact ap|conv=>whnf)|((first|refine ae ?_|refine bi ?_ ?_|intro _)<;>conv=>whnf)))
   all_goals first
    | omega
    | (refine⟨⟨?_⟩,trivial⟩;have hf:p0 true s.data.toList=false:=(by rw[H];first|(simp[dS,fx];done)|(simp[dS,fx];omega));simp[d4,hf,oneOf,aH];done)
    | (refine⟨i+1,⟨by omega,by(rw[H];first|(simp[dS,fx];done)|(simp[dS,fx];omega))⟩,by omega,?_⟩;(conv=>whnf);exact⟨by repeat(first|exact trivial|refine sc rfl ?_),bv (by simp only[hdec];rfl) trivial,trivial⟩)
  ·have hdec:128≤(Utf8.decode s (i:Int).toNat).1:=by rw[Int.toNat_natCast];exact lx hb h128
   have hf:p0 true s.data.toList=false:=by
    have h1:dS b=false:=by simp[dS];omega
    have h2:fx b=false:=by simp[fx];omega
    rw[H,h1,h2];simp
   conv=>whnf
   repeat(any_goals(first|exact ac|(refine ao ?_ ?_<;>intro _<;>first|exact ap|conv=>whnf)|((first|refine ae ?_|refine bi ?_ ?_|intro _)<;>conv=>whnf)))
   all_goals first
    | omega
    | (refine⟨⟨?_⟩,trivial⟩;simp[d4,hf,oneOf,aH];done)
 ·conv=>whnf
  have hdr:s.data.toList.drop i=[]:=List.drop_eq_nil_of_le (by omega)
  rw[hdr]at H
  repeat(any_goals(first|exact ac|(refine ao ?_ ?_<;>intro _<;>first|exact ap|conv=>whnf)|((first|refine ae ?_|refine bi ?_ ?_|intro _)<;>conv=>whnf)))
  ·rename_i h
   (refine⟨⟨?_⟩,trivial⟩;simp[d4,oneOf,aH,h])
  ·rename_i h
   have hne:s.data.toList≠[]:=fun e=>h (by cases s with|mk a=>simp at e;simp[e])
   have h16:decide ((s.size:Int)≤16)=decide (s.data.toList.length≤16):=by rw[hsz,Bool.eq_iff_iff,decide_eq_true_eq,decide_eq_true_eq];omega
   refine⟨⟨?_⟩,trivial⟩
   rw[h16]
   simp only[d4,oneOf,aH,H,p0,decide_eq_true hne,Bool.and_true,Bool.true_and]
end Go.Proofs.YtgncapdjheghfaaDoor
namespace Go.Proofs.YtgncapdjheghfaaDoor
open Go.Am Go.Proofs Go
def dw{α:Type}(p:α→α→Bool):List α→List α→Bool
 | [],[]=>true
 | x::xs,y::ys=>p x y&&dw p xs ys
 | _,_=>false
theorem pD{α:Type}(p:α→α→Bool):∀a b:List α,a.length≠b.length→dw p a b=false
 | [],[],h=>absurd rfl h
 | [],y::ys,_=>rfl
 | x::xs,[],_=>rfl
 | x::xs,y::ys,h=>by simp only[dw,pD p xs ys (by simpa using h),Bool.and_false]
theorem pC{α:Type}(p:α→α→Bool)(a b:List α):dw p a b=(decide ((a.length:Int)=b.length)&&dw p a b):=by
 by_cases h:a.length=b.length
 ·simp[h]
 ·rw[pD _ a b h,Bool.and_false]
theorem Ez(a b:List Int)(ha:a.length≤1048576)(hb:b.length≤1048576):PureA Tryd.prog 11 [bU a,bU b] (aH (dw (fun x y:Int=>decide (x=y)) a b)):=by
 have hlen:decide ((a.length:Int)=b.length)=true→a.length=b.length:=by simp;omega
 obtain⟨R,hRe⟩:∃R,R=dw (fun x y:Int=>decide (x=y)) a b:=⟨_,rfl⟩
 rw[←hRe]
 have hR:R=(decide ((a.length:Int)=b.length)&&dw (fun x y:Int=>decide (x=y)) a b):=by rw[hRe];exact pC (fun x y:Int=>decide (x=y)) a b
 clear hRe
 refine ag ax { l:=0,f:=11} mixed BM Tryd.func11 (by kernel_rfl) ?_
 conv=>whnf
 refine bS ax { l:=0,f:=11} mixed (fun x:Nat×Bool=>[(6,ak x.1),(5,aH x.2)]) (fun _=>[]) (fun _=>[]) (fun x=>x.1≤a.length∧(x.2=true→a.length=b.length)∧R=(x.2&&dw (fun x y:Int=>decide (x=y)) (a.drop x.1) (b.drop x.1))) (fun x=>a.length-x.1) (0,decide ((a.length:Int)=b.length)) (by kernel_rfl)
  ⟨Nat.zero_le _,hlen,hR⟩ ?_
 conv=>whnf
 refine⟨⟨aj rfl (aj (by
    conv=>lhs;whnf
    simp[aH]) trivial),trivial,trivial⟩,?_⟩
 intro⟨i,same⟩ ⟨hi,hs,H⟩
 simp only at hi hs H
 cases same
 ·conv=>whnf
  repeat(any_goals(first|exact ac|(refine ao ?_ ?_<;>intro _<;>first|exact ap|conv=>whnf)|((first|refine ae ?_|refine bi ?_ ?_|intro _)<;>conv=>whnf)))
  (refine⟨⟨?_⟩,trivial⟩;rw[H];rfl)
 ·have hs:=hs rfl
  rw[Bool.true_and]at H
  conv=>whnf
  refine bQ (fun h1=>?_) (fun h1=>?_)
  ·simp only[List.length_map]at h1
   obtain⟨x,hx,hd⟩:=aF (l:=a) (i:=i) (by omega)
   obtain⟨y,hy,he⟩:=aF (l:=b) (i:=i) (by omega)
   rw[hd,he]at H
   simp only[dw]at H
   skip
   conv=>whnf
   repeat(any_goals(first|exact ac|(refine ao ?_ ?_<;>intro _<;>first|exact ap|conv=>whnf)|((first|refine af hx rfl ?_|refine af hy rfl ?_|refine ae ?_|refine bi ?_ ?_|intro _)<;>conv=>whnf)))
   (refine⟨(i+1,(fun x y:Int=>decide (x=y)) x y),⟨by simp only;omega,fun _=>hs,H⟩,(by simp only;omega),?_⟩;(conv=>whnf);refine⟨?_,?_,?_⟩<;>repeat(first|exact trivial|refine sc rfl ?_|refine kn ?_|refine kc rfl ?_|refine sc (by rfl) ?_|refine kc (by rfl) ?_))
  ·conv=>whnf
   simp only[List.length_map]at h1
   have:i=a.length:=by omega
   subst this
   rw[hs,List.drop_length, ←hs,List.drop_length]at H
   (refine⟨⟨?_⟩,trivial⟩;rw[H];rfl)
end Go.Proofs.YtgncapdjheghfaaDoor
namespace Go.Proofs.YtgncapdjheghfaaDoor
open Go.Am Go.Proofs Go
theorem sO(x f:Fig):PureA Tryd.prog 44 [eR x,.cptr [aI f.name,aI f.role,ak f.room,ak f.height]] (aH (decide (x.name=f.name))):=by
 refine ag ax { l:=0,f:=44} mixed B7 Tryd.func44 (by kernel_rfl) ?_
 conv=>whnf
 (refine⟨⟨?_⟩,trivial⟩;rfl)
theorem zD(l:List Fig)(f:Fig)(hl:l.length≤1048576):PureA Tryd.prog 66 [iK l,.func (.func 44) [] [.cptr [aI f.name,aI f.role,ak f.room,ak f.height]]] (ak (idx (fun x=>decide (x.name=f.name)) l)):=by
 refine ag ax { l:=0,f:=66} mixed wh Tryd.func66 (by kernel_rfl) ?_
 conv=>whnf
 refine bS ax { l:=0,f:=66} mixed (fun i:Nat=>[(8,ak i)]) (fun _=>[]) (fun _=>[]) (fun i=>i≤l.length∧idx (fun x:Fig=>decide (x.name=f.name)) l=cn (fun x:Fig=>decide (x.name=f.name)) i (l.drop i)) (fun i=>l.length-i) 0 (by kernel_rfl)
  ⟨Nat.zero_le _,rfl⟩ ?_
 conv=>whnf
 refine⟨⟨aj rfl trivial,trivial,trivial⟩,?_⟩
 intro i ⟨hi,H⟩
 conv=>whnf
 refine bQ (fun h1=>?_) (fun h1=>?_)
 ·simp only[List.length_map]at h1
  obtain⟨x,hx,hd⟩:=aF (l:=l) (i:=i) (by omega)
  have H':=ef hd H
  conv=>whnf
  repeat(any_goals(first|exact ac|(refine ao ?_ ?_<;>intro _<;>first|exact ap|conv=>whnf)|((first|refine af hx rfl ?_|refine aa (sO x f) ?_|refine ae ?_|refine bi ?_ ?_|intro _)<;>conv=>whnf)))
  ·rename_i he
   simp only[he,if_true]at H'
   (refine⟨⟨?_⟩,trivial⟩;simp[oneOf,ak,H'])
  ·rename_i he
   simp only[he,Bool.false_eq_true,if_false]at H'
   (refine⟨i+1,⟨by omega,H'⟩,by omega,?_⟩;(conv=>whnf);refine⟨?_,?_,?_⟩<;>repeat(first|exact trivial|refine sc rfl ?_|refine kn ?_|refine kc rfl ?_))
 ·conv=>whnf
  simp only[List.length_map]at h1
  have:i=l.length:=by omega
  subst this
  (refine⟨⟨?_⟩,trivial⟩;simp[oneOf,ak,H,cn])
theorem tS(l:List Fig)(f:Fig)(hl:l.length≤1048576):PureA Tryd.prog 43 [iK l,.func (.func 44) [] [.cptr [aI f.name,aI f.role,ak f.room,ak f.height]]] (aH (l.any (fun x=>decide (x.name=f.name)))):=by
 refine ag ax { l:=0,f:=43} mixed B6 Tryd.func43 (by kernel_rfl) ?_
 conv=>whnf
 refine aa (zD l f hl) ?_
 conv=>whnf
 (refine⟨⟨?_⟩,trivial⟩;rw[←rW];rfl)
theorem zv(s:Bill)(l:List Fig)(g:Nat→Fig→Int)(hl:l.length≤1048576)
  (h:∀(i:Nat) x,l[i]?=some x→PureA Tryd.prog 41 ([ak i,eR x,.cptr (tV s)]) (ak (g i x))) :
  PureA Tryd.prog 40 [iK l,.func (.func 41) [] [.cptr (tV s)]] (.tuple [ak (a6 g 0 l).1,ak (a6 g 0 l).2]):=by
 refine ag ax { l:=0,f:=40} mixed B4 Tryd.func40 (by kernel_rfl) ?_
 conv=>whnf
 refine bS ax { l:=0,f:=40} mixed (fun i:Nat=>[(11,ak i)]) (fun _=>[]) (fun _=>[]) (fun i=>i≤l.length∧a6 g 0 l=a6 g i (l.drop i)) (fun i=>l.length-i) 0 (by kernel_rfl)
  ⟨Nat.zero_le _,rfl⟩ ?_
 conv=>whnf
 refine⟨⟨aj rfl trivial,trivial,trivial⟩,?_⟩
 intro i ⟨hi,H⟩
 conv=>whnf
 refine bQ (fun h1=>?_) (fun h1=>?_)
 ·simp only[List.length_map]at h1
  obtain⟨x,hx,hd⟩:=aF (l:=l) (i:=i) (by omega)
  rw[hd]at H
  have hg:=h i x hx
  generalize hy:g i x=y at *
  simp only[a6,hy]at H
  conv=>whnf
  repeat(any_goals(first|exact ac|(refine ao ?_ ?_<;>intro _<;>first|exact ap|conv=>whnf)|((first|refine af hx rfl ?_|refine aa hg ?_|refine ae ?_|refine bi ?_ ?_|intro _)<;>conv=>whnf)))
  ·rename_i h2
   rw[if_pos h2]at H
   (refine⟨i+1,⟨by omega,H⟩,by omega,?_⟩;(conv=>whnf);refine⟨?_,?_,?_⟩<;>repeat(first|exact trivial|refine sc rfl ?_|refine kn ?_|refine kc rfl ?_))
  ·rename_i h2
   rw[if_neg h2]at H
   (refine⟨⟨?_⟩,trivial⟩;simp[oneOf,ak,H])
 ·conv=>whnf
  simp only[List.length_map]at h1
  have:i=l.length:=by omega
  subst this
  (refine⟨⟨?_⟩,trivial⟩;simp[oneOf,ak,H,a6])
set_option maxHeartbeats 2000000 in
theorem zq(s:Bill)(i:Nat)(f:Fig)(hr:s.small)(hi:s.figs[i]?=some f) :
  PureA Tryd.prog 41 [ak i,eR f,.cptr (tV s)] (ak (lB (s.figs.take i) f)):=by
 obtain⟨h1,h2,h3⟩:=hr
 obtain⟨hf1,hf2⟩:=h3 f (List.mem_of_getElem? hi)
 have hlt:=(List.getElem?_eq_some_iff.1 hi).1
 have hn:=Bp f.name hf1
 have hn2:=Bp f.role hf2
 have ha:PureA Tryd.prog 43 [.slice 4 ((s.figs.map eR).take (i:Int).toNat) .no,.func (.func 44) [] [.cptr [aI f.name,aI f.role,ak f.room,ak f.height]]] (aH ((s.figs.take i).any (fun x=>decide (x.name=f.name)))):=by
  have:=tS (s.figs.take i) f (by simp;omega)
  simpa[iK,List.map_take]using this
 have hb1:=cT f.room 0 9
 have hb2:=cT f.height 1 6
 unfold lB
 generalize d4 f.name=b1 at *
 generalize d4 f.role=b5 at *
 generalize (s.figs.take i).any (fun x=>decide (x.name=f.name))=b2 at *
 generalize aS 0 9 f.room=b3 at *
 generalize aS 1 6 f.height=b4 at *
 have hbk:i=0∧eT (s.figs.take i) f=false∨∃j y,i=j+1∧s.figs[j]?=some y∧eT (s.figs.take i) f=decide (f.room<y.room):=by
  cases i with
  | zero=>exact .inl ⟨rfl,rfl⟩
  | succ j =>
   obtain⟨y,hy⟩:∃y,s.figs[j]?=some y:=⟨_,List.getElem?_eq_getElem (by omega)⟩
   refine .inr ⟨j,y,rfl,hy,?_⟩
   unfold eT
   rw[List.take_add_one,hy]
   simp
 rcases hbk with⟨rfl,hbk⟩|⟨j,y,rfl,hy,hbk⟩
 ·rw[hbk]
  refine ag ax { l:=0,f:=41} mixed rh Tryd.func41 (by kernel_rfl) ?_
  conv=>whnf
  cases b1<;>cases b2<;>cases b5<;>cases b3<;>cases b4
  all_goals
   repeat(any_goals(first|exact ac|(refine ao ?_ ?_<;>intro _<;>first|exact ap|conv=>whnf)|((first|refine aa hn ?_|refine ah ha rfl ?_|refine aa hn2 ?_|refine aa hb1 ?_|refine aa hb2 ?_|refine ae ?_|refine bi ?_ ?_|intro _)<;>conv=>whnf)))
  all_goals(refine⟨⟨?_⟩,trivial⟩;rfl)
 ·rw[hbk]
  by_cases q:f.room<y.room
  ·rw[decide_eq_true q]
   refine ag ax { l:=0,f:=41} mixed rh Tryd.func41 (by kernel_rfl) ?_
   conv=>whnf
   cases b1<;>cases b2<;>cases b5<;>cases b3<;>cases b4
   all_goals
    repeat(any_goals(first|exact ac|(refine ao ?_ ?_<;>intro _<;>first|exact ap|conv=>whnf)|((first|refine aa hn ?_|refine ah ha rfl ?_|refine aa hn2 ?_|refine aa hb1 ?_|refine aa hb2 ?_|refine af hy (by omega) ?_|refine ae ?_|refine bi ?_ ?_|intro _)<;>conv=>whnf)))
   all_goals(refine⟨⟨?_⟩,trivial⟩;rfl)
  ·rw[decide_eq_false q]
   refine ag ax { l:=0,f:=41} mixed rh Tryd.func41 (by kernel_rfl) ?_
   conv=>whnf
   cases b1<;>cases b2<;>cases b5<;>cases b3<;>cases b4
   all_goals
    repeat(any_goals(first|exact ac|(refine ao ?_ ?_<;>intro _<;>first|exact ap|conv=>whnf)|((first|refine aa hn ?_|refine ah ha rfl ?_|refine aa hn2 ?_|refine aa hb1 ?_|refine aa hb2 ?_|refine af hy (by omega) ?_|refine ae ?_|refine bi ?_ ?_|intro _)<;>conv=>whnf)))
   all_goals(refine⟨⟨?_⟩,trivial⟩;rfl)
theorem eY(l:List Int)(t:Int)(hl:l.length≤1048576):PureA Tryd.prog 56 [bU l,ak t] (ak (idx (fun x=>decide (t=x)) l)):=by
 refine ag ax { l:=0,f:=56} mixed Ch Tryd.func56 (by kernel_rfl) ?_
 conv=>whnf
 refine bS ax { l:=0,f:=56} mixed (fun i:Nat=>[(8,ak i)]) (fun _=>[]) (fun _=>[]) (fun i=>i≤l.length∧idx (fun x:Int=>decide (t=x)) l=cn (fun x:Int=>decide (t=x)) i (l.drop i)) (fun i=>l.length-i) 0 (by kernel_rfl)
  ⟨Nat.zero_le _,rfl⟩ ?_
 conv=>whnf
 refine⟨⟨aj rfl trivial,trivial,trivial⟩,?_⟩
 intro i ⟨hi,H⟩
 conv=>whnf
 refine bQ (fun h1=>?_) (fun h1=>?_)
 ·simp only[List.length_map]at h1
  obtain⟨x,hx,hd⟩:=aF (l:=l) (i:=i) (by omega)
  have H':=ef hd H
  conv=>whnf
  repeat(any_goals(first|exact ac|(refine ao ?_ ?_<;>intro _<;>first|exact ap|conv=>whnf)|((first|refine af hx rfl ?_|refine ae ?_|refine bi ?_ ?_|intro _)<;>conv=>whnf)))
  ·rename_i he
   simp only[decide_eq_true he,if_true]at H'
   (refine⟨⟨?_⟩,trivial⟩;simp[oneOf,ak,H'])
  ·rename_i he
   simp only[decide_eq_false he,Bool.false_eq_true,if_false]at H'
   (refine⟨i+1,⟨by omega,H'⟩,by omega,?_⟩;(conv=>whnf);refine⟨?_,?_,?_⟩<;>repeat(first|exact trivial|refine sc rfl ?_|refine kn ?_|refine kc rfl ?_))
 ·conv=>whnf
  simp only[List.length_map]at h1
  have:i=l.length:=by omega
  subst this
  (refine⟨⟨?_⟩,trivial⟩;simp[oneOf,ak,H,cn])
theorem rn(l:List Int)(t:Int)(hl:l.length≤1048576):PureA Tryd.prog 47 [bU l,ak t] (aH (l.any (fun x=>decide (x=t)))):=by
 have e:(fun x:Int=>decide (x=t))=fun x=>decide (t=x):=by funext x;rw[Bool.eq_iff_iff];simp[eq_comm]
 rw[e]
 refine ag ax { l:=0,f:=47} mixed Ca Tryd.func47 (by kernel_rfl) ?_
 conv=>whnf
 refine aa (eY l t hl) ?_
 conv=>whnf
 (refine⟨⟨?_⟩,trivial⟩;rw[←rW];rfl)
theorem zw(s:Bill)(l:List Int)(g:Nat→Int→Int)(hl:l.length≤1048576)
  (h:∀(i:Nat) x,l[i]?=some x→PureA Tryd.prog 46 ([ak i,ak x,.cptr (tV s)]) (ak (g i x))) :
  PureA Tryd.prog 45 [bU l,.func (.func 46) [] [.cptr (tV s)]] (.tuple [ak (a6 g 0 l).1,ak (a6 g 0 l).2]):=by
 refine ag ax { l:=0,f:=45} mixed B8 Tryd.func45 (by kernel_rfl) ?_
 conv=>whnf
 refine bS ax { l:=0,f:=45} mixed (fun i:Nat=>[(11,ak i)]) (fun _=>[]) (fun _=>[]) (fun i=>i≤l.length∧a6 g 0 l=a6 g i (l.drop i)) (fun i=>l.length-i) 0 (by kernel_rfl)
  ⟨Nat.zero_le _,rfl⟩ ?_
 conv=>whnf
 refine⟨⟨aj rfl trivial,trivial,trivial⟩,?_⟩
 intro i ⟨hi,H⟩
 conv=>whnf
 refine bQ (fun h1=>?_) (fun h1=>?_)
 ·simp only[List.length_map]at h1
  obtain⟨x,hx,hd⟩:=aF (l:=l) (i:=i) (by omega)
  rw[hd]at H
  have hg:=h i x hx
  generalize hy:g i x=y at *
  simp only[a6,hy]at H
  conv=>whnf
  repeat(any_goals(first|exact ac|(refine ao ?_ ?_<;>intro _<;>first|exact ap|conv=>whnf)|((first|refine af hx rfl ?_|refine aa hg ?_|refine ae ?_|refine bi ?_ ?_|intro _)<;>conv=>whnf)))
  ·rename_i h2
   rw[if_pos h2]at H
   (refine⟨i+1,⟨by omega,H⟩,by omega,?_⟩;(conv=>whnf);refine⟨?_,?_,?_⟩<;>repeat(first|exact trivial|refine sc rfl ?_|refine kn ?_|refine kc rfl ?_))
  ·rename_i h2
   rw[if_neg h2]at H
   (refine⟨⟨?_⟩,trivial⟩;simp[oneOf,ak,H])
 ·conv=>whnf
  simp only[List.length_map]at h1
  have:i=l.length:=by omega
  subst this
  (refine⟨⟨?_⟩,trivial⟩;simp[oneOf,ak,H,a6])
theorem pf:∀n:Nat,n≤6→IntKind.i64.wrap (1 * 2^min ((n:Int)).toNat IntKind.i64.bits)=2^n:=by decide +kernel
theorem fk{n:Nat}(h:n≤6):(1:Int)≤2^n∧(2:Int)^n≤64:=by
 have key:∀n:Nat,n≤6→(1:Int)≤2^n∧(2:Int)^n≤64:=by decide +kernel
 exact key n h
theorem vw(s:Bill)(i:Nat)(t:Int)(hr:s.small)(h6:s.figs.length≤6)(hi:i≤s.truths.length) :
  PureA Tryd.prog 46 [ak i,ak t,.cptr (tV s)] (ak (ep s.figs.length (s.truths.take i) t)):=by
 obtain⟨h1,h2,h3⟩:=hr
 have hfl:(s.figs.map eR).length=s.figs.length:=List.length_map ..
 have hsh:=pf s.figs.length h6
 rw[←hfl]at hsh
 obtain⟨p1,p2⟩:=fk h6
 have hb:=cT t 0 (IntKind.i64.wrap (1 * 2^min (((s.figs.map eR).length:Int)).toNat IntKind.i64.bits)-1)
 rw[hsh,hfl]at hb
 have hb:PureA Tryd.prog 15 [ak 0,ak (IntKind.i64.wrap (1 * 2^min (((s.figs.map eR).length:Int)).toNat IntKind.i64.bits)-1),ak t] (aH (aS 0 (2^s.figs.length-1) t)):=by
  rw[hsh,hfl];exact hb
 rw[hfl]at hsh
 have ha:PureA Tryd.prog 47 [.slice 1 ((s.truths.map ak).take (i:Int).toNat) .no,ak t] (aH ((s.truths.take i).any (fun x=>decide (x=t)))):=by
  have:=rn (s.truths.take i) t (by simp;omega)
  simpa[bU,List.map_take]using this
 have htl:(s.truths.map ak).length=s.truths.length:=List.length_map ..
 unfold ep
 generalize aS 0 (2^s.figs.length-1) t=b1 at *
 generalize (s.truths.take i).any (fun x=>decide (x=t))=b2 at *
 refine ag ax { l:=0,f:=46} mixed B9 Tryd.func46 (by kernel_rfl) ?_
 conv=>whnf
 cases b1<;>cases b2
 all_goals
  repeat(any_goals(first|exact ac|(refine ao ?_ ?_<;>intro _<;>first|exact ap|conv=>whnf)|((first|refine aa hb ?_|refine aa ha ?_|refine ae ?_|refine bi ?_ ?_|intro _)<;>conv=>whnf)))
 all_goals(refine⟨⟨?_⟩,trivial⟩;rfl)
theorem ww(s:Bill)(hr:s.small):PureA Tryd.prog 26 [ci s] (E0 s.check):=by
 have hr':=hr
 obtain⟨h1,h2,h3⟩:=hr
 have hb0:=cT s.lines 14 30
 have hb1:=cT s.truths.length 1 6
 have hf:=zv s s.figs (fun i f=>lB (s.figs.take i) f) h1 (fun i x hx=>zq s i x hr' hx)
 have htl:(s.truths.map ak).length=s.truths.length:=List.length_map ..
 have hfl:(s.figs.map eR).length=s.figs.length:=List.length_map ..
 rw[←htl]at hb1
 by_cases h6:s.figs.length≤6
 ·have ht:=zw s s.truths (fun i t=>ep s.figs.length (s.truths.take i) t) h2 (fun i x hx=>vw s i x hr' h6 (Nat.le_of_lt (List.getElem?_eq_some_iff.1 hx).1))
  unfold Bill.check E0
  change PureA _ _ _ (.tuple [ak s.figsErr.1,ak s.figsErr.2])at hf
  change PureA _ _ _ (.tuple [ak s.truthsErr.1,ak s.truthsErr.2])at ht
  rw[←htl]
  generalize s.figsErr=F at *
  generalize s.truthsErr=T at *
  obtain⟨f1,f2⟩:=F
  obtain⟨t1,t2⟩:=T
  simp only at *
  generalize aS 14 30 s.lines=b0 at *
  generalize aS 1 6 ((s.truths.map ak).length:Int)=b1 at *
  rw[if_neg (show¬(6:Int)<s.figs.length by omega)]
  refine ag ax { l:=0,f:=26} mixed v6 Tryd.func26 (by kernel_rfl) ?_
  conv=>whnf
  cases b0<;>cases b1<;>by_cases e1:f2=0<;>by_cases e2:t2=0
  all_goals
   repeat(any_goals(first|exact ac|(refine ao ?_ ?_<;>intro _<;>first|exact ap|conv=>whnf)|((first|refine aa hb0 ?_|refine ah hf rfl ?_|refine aa hb1 ?_|refine ah ht rfl ?_|refine ae ?_|refine bi ?_ ?_|intro _)<;>conv=>whnf)))
  all_goals(refine⟨⟨?_⟩,trivial⟩;first|rfl|simp_all [oneOf,ak])
 ·unfold Bill.check E0
  rw[if_pos (show(6:Int)<s.figs.length by omega)]
  generalize aS 14 30 s.lines=b0 at *
  refine ag ax { l:=0,f:=26} mixed v6 Tryd.func26 (by kernel_rfl) ?_
  conv=>whnf
  cases b0
  all_goals
   repeat(any_goals(first|exact ac|(refine ao ?_ ?_<;>intro _<;>first|exact ap|conv=>whnf)|((first|refine aa hb0 ?_|refine ae ?_|refine bi ?_ ?_|intro _)<;>conv=>whnf)))
  all_goals(refine⟨⟨?_⟩,trivial⟩;rfl)
end Go.Proofs.YtgncapdjheghfaaDoor
namespace Go.Proofs.YtgncapdjheghfaaDoor
open Go.Am Go.Proofs Go
end Go.Proofs.YtgncapdjheghfaaDoor
namespace Go.Proofs.YtgncapdjheghfaaDoor
open Go.Am Go.Proofs Go
end Go.Proofs.YtgncapdjheghfaaDoor
namespace Go.Proofs.YtgncapdjheghfaaDoor
open Go.Am Go.Proofs Go
def eb(a b:Int):Int:=IntKind.i64.wrap ((BitVec.ofInt IntKind.i64.bits a&&&BitVec.ofInt IntKind.i64.bits b).toNat:Nat)
def orX(a b:Int):Int:=IntKind.i64.wrap ((BitVec.ofInt IntKind.i64.bits a|||BitVec.ofInt IntKind.i64.bits b).toNat:Nat)
def bq(a b:Int):Int:=IntKind.i64.wrap ((BitVec.ofInt IntKind.i64.bits a&&& ~~~BitVec.ofInt IntKind.i64.bits b).toNat:Nat)
def js(a b:Int):Int:=a.fdiv (2^min b.toNat IntKind.i64.bits)
def EU(a b:Int):Int:=IntKind.i64.wrap (a * 2^min b.toNat IntKind.i64.bits)
theorem DU(n:Nat)(h:n<4611686018427387904):IntKind.i64.wrap (n:Int)=n:=by
 rw[IntKind.wrap_i64];omega
theorem p7(n:Nat):BitVec.ofInt IntKind.i64.bits (n:Int)=BitVec.ofNat 64 n:=BitVec.ofInt_natCast ..
theorem eS(a b:Nat)(ha:a<4611686018427387904)(hb:b<4611686018427387904):eb a b=((a&&&b:Nat):Int):=by
 unfold eb
 rw[p7,p7]
 have e:(BitVec.ofNat 64 a&&&BitVec.ofNat 64 b).toNat=a&&&b:=by
  rw[BitVec.toNat_and,BitVec.toNat_ofNat,BitVec.toNat_ofNat,Nat.mod_eq_of_lt (by omega),Nat.mod_eq_of_lt (by omega)]
 have h:=Nat.and_lt_two_pow (n:=62) a hb
 exact(congrArg (fun x:Nat=>IntKind.i64.wrap (x:Int)) e).trans (DU _ h)
theorem o5(a b:Nat)(ha:a<4611686018427387904)(hb:b<4611686018427387904):orX a b=((a|||b:Nat):Int):=by
 unfold orX
 rw[p7,p7]
 have e:(BitVec.ofNat 64 a|||BitVec.ofNat 64 b).toNat=a|||b:=by
  rw[BitVec.toNat_or,BitVec.toNat_ofNat,BitVec.toNat_ofNat,Nat.mod_eq_of_lt (by omega),Nat.mod_eq_of_lt (by omega)]
 have h:=Nat.or_lt_two_pow (n:=62) ha hb
 exact(congrArg (fun x:Nat=>IntKind.i64.wrap (x:Int)) e).trans (DU _ h)
theorem y7(b:Nat)(hb:b<4611686018427387904):eb (-1) b=b:=by
 unfold eb
 rw[p7]
 have e:(BitVec.ofInt 64 (-1)&&&BitVec.ofNat 64 b).toNat=b:=by
  have:BitVec.ofInt 64 (-1)=BitVec.allOnes 64:=by decide
  rw[this,BitVec.allOnes_and,BitVec.toNat_ofNat,Nat.mod_eq_of_lt (by omega)]
 exact(congrArg (fun x:Nat=>IntKind.i64.wrap (x:Int)) e).trans (DU _ hb)
theorem dR:∀a b:Nat,a<64→b<64→bq a b=((a&&&(63^^^b):Nat):Int):=by
 have h:∀a,a<64→∀b,b<64→bq ((a:Nat):Int) ((b:Nat):Int)=((a&&&(63^^^b):Nat):Int):=by decide +kernel
 exact fun a b ha hb=>h a ha b hb
theorem jn(a b:Nat)(hb:b≤64):js a b=((a/2^b:Nat):Int):=by
 unfold js
 have e:min ((b:Int)).toNat IntKind.i64.bits=b:=by rw[Int.toNat_natCast];show min b 64=b;omega
 rw[e,Int.fdiv_eq_ediv_of_nonneg _ (by exact_mod_cast Nat.zero_le (2^b))]
 push_cast;rfl
theorem pe:∀n:Nat,n≤6→EU 1 n=((2^n:Nat):Int):=by decide +kernel
theorem n6(n:Nat):n&&&1=n%2:=Nat.and_one_is_mod n
theorem BH(a b:Nat)(ha:a<4611686018427387904)(hb:b≤64):decide (eb (js a b) 1=1)=a.testBit b:=by
 have h:a/2^b≤a:=Nat.div_le_self ..
 rw[jn a b hb,show(1:Int)=((1:Nat):Int) by rfl,eS _ 1 (by omega) (by omega),n6,Nat.testBit_eq_decide_div_mod_eq]
 rw[Bool.eq_iff_iff,decide_eq_true_eq,decide_eq_true_eq]
 omega
def b6:Key:=⟨0,14,19⟩
def EV(s:Bill)(a b:Int):List AV:=[ak s.lines,iK s.figs,bU s.truths,ak a,ak b]
def xT(s:Bill)(a b:Int):AV:= .agg (EV s a b)
def cL(s:Bill):AV:= .cptr (EV s s.allN s.someN)
def co(s:Bill):bV:=(b6,1,5,[xT s s.allN s.someN])
def kL(s:Bill)(i:Nat):Int:=if i=0 then -1 else(((s.truths.take i).foldl (fun x t=>x&&&t.toNat) 63:Nat):Int)
def vG(s:Bill)(i:Nat):Int:=(((s.truths.take i).foldl (fun x t=>x|||t.toNat) 0:Nat):Int)
theorem uk(l:List Int):l.foldl (fun x t=>x&&&t.toNat) 63<64:=by
 apply Nat.lt_pow_two_of_testBit (n:=6)
 intro i hi
 rw[gZ,za,decide_eq_false (by omega),Bool.false_and]
theorem pN:∀(l:List Int) (x:Nat),x<64→(∀t∈l,0≤t∧t<64)→l.foldl (fun x t=>x|||t.toNat) x<64
 | [],x,hx,_=>hx
 | t::l,x,hx,h=>by
  have ht:=h t (List.mem_cons_self ..)
  exact pN l _ (Nat.or_lt_two_pow (n:=6) hx (by omega)) fun y hy=>h y (List.mem_cons_of_mem _ hy)
theorem tR{s:Bill}{i:Nat}{t:Int}(h:s.truths[i]?=some t)(ht:0≤t∧t<64):eb (kL s i) t=kL s (i+1):=by
 obtain⟨n,rfl⟩:=Int.eq_ofNat_of_zero_le ht.1
 have e:s.truths.take (i+1)=s.truths.take i++[((n:Nat):Int)]:=by rw[List.take_add_one,h];rfl
 unfold kL
 rw[if_neg (show¬i+1=0 by omega),e,List.foldl_append]
 by_cases hi:i=0
 ·subst hi
  rw[if_pos rfl,y7 n (by omega)]
  simp only[List.take_zero,List.foldl_nil,List.foldl_cons,Int.toNat_natCast]
  have:63&&&n=n:=by
   rw[Nat.and_comm,show(63:Nat)=2^6-1 by rfl,Nat.and_two_pow_sub_one_eq_mod,Nat.mod_eq_of_lt (by omega)]
  rw[this]
 ·rw[if_neg hi]
  have:=uk (s.truths.take i)
  rw[eS _ _ (by omega) (by omega)]
  simp only[List.foldl_nil,List.foldl_cons,Int.toNat_natCast]
theorem xy{s:Bill}{i:Nat}{t:Int}(h:s.truths[i]?=some t)(hs:∀t∈s.truths,0≤t∧t<64):orX (vG s i) t=vG s (i+1):=by
 have ht:=hs t (List.mem_of_getElem? h)
 obtain⟨n,rfl⟩:=Int.eq_ofNat_of_zero_le ht.1
 have e:s.truths.take (i+1)=s.truths.take i++[((n:Nat):Int)]:=by rw[List.take_add_one,h];rfl
 unfold vG
 rw[e,List.foldl_append]
 have:=pN (s.truths.take i) 0 (by omega) fun x hx=>hs x (List.mem_of_mem_take hx)
 rw[o5 _ _ (by omega) (by omega)]
 simp only[List.foldl_nil,List.foldl_cons,Int.toNat_natCast]
set_option maxHeartbeats 1000000 in
theorem wS(s:Bill)(a b:Int)(hl:s.truths.length≤6)(hs:∀t∈s.truths,0≤t∧t<64) :
  BoxA Tryd.prog (.fn 20) [(b6,1,5,[xT s a b])] [.ptr b6 1 5 0 0] (.tuple []) [(b6,1,5,[xT s (kL s s.truths.length) (vG s s.truths.length)])]:=by
 have h0:kL s 0 = -1:=rfl
 have h1:vG s 0=0:=rfl
 have hA:∀i t,s.truths[i]?=some t→eb (kL s i) t=kL s (i+1):=fun i t h=>tR h (hs t (List.mem_of_getElem? h))
 have hO:∀i t,s.truths[i]?=some t→orX (vG s i) t=vG s (i+1):=fun i t h=>xy h hs
 generalize kL s=F at *
 generalize vG s=G at *
 refine aD ax { l:=0,f:=20} mixed BS Tryd.func20 (by kernel_rfl) ?_
 conv=>whnf
 refine bS ax { l:=0,f:=20} mixed (fun i:Nat=>[(16,ak i)]) (fun i=>[(b6,some (1,some (5,[xT s (F i) (G i)])))]) (fun _=>[]) (fun i=>i≤s.truths.length) (fun i=>s.truths.length-i) 0 (by kernel_rfl)
  (Nat.zero_le _) ?_
 conv=>whnf
 refine⟨⟨aj rfl trivial,bv (by rw[h0,h1];rfl) trivial,trivial⟩,?_⟩
 intro i hi
 conv=>whnf
 refine bQ (fun h1=>?_) (fun h1=>?_)
 ·simp only[List.length_map]at h1
  obtain⟨x,hx,hd⟩:=aF (l:=s.truths) (i:=i) (by omega)
  have hA':=hA i x hx
  have hO':=hO i x hx
  conv=>whnf
  repeat(any_goals(first|exact ac|(refine ao ?_ ?_<;>intro _<;>first|exact ap|conv=>whnf)|((first|refine af hx rfl ?_|refine ae ?_|refine bi ?_ ?_|intro _)<;>conv=>whnf)))
  (refine⟨i+1,(by omega),by omega,?_⟩;(conv=>whnf);refine⟨?_,?_,?_⟩<;>repeat(first|exact trivial|refine sc rfl ?_|refine kn ?_|refine kc rfl ?_|refine sc (by(rw[←hA', ←hO'];rfl)) ?_|refine kc (by(rw[←hA', ←hO'];rfl)) ?_))
 ·conv=>whnf
  simp only[List.length_map]at h1
  have:i=s.truths.length:=by omega
  subst this
  refine And.intro ?_ ?_
  ·conv=>whnf
   refine⟨⟨?_⟩,trivial⟩
   rfl
  ·repeat(first|exact trivial|refine And.intro rfl ?_|refine And.intro (by skip) ?_)
theorem g6(s:Bill)(hr:s.small)(hc:s.check.2.2=0):BoxA Tryd.prog (.fn 14) [] [ci s] (.tuple [.ptr b6 1 5 0 0,ak 0]) [co s]:=by
 have hg:=Bill.good hc
 have hk:=ww s hr
 unfold E0 at hk
 rw[hc]at hk
 have hkn:=wS s 0 0 hg.lenT.2 fun t ht=>hg.lt ht
 have e1:kL s s.truths.length=s.allN:=by
  unfold kL
  have:=hg.lenT
  rw[if_neg (by omega),List.take_length];rfl
 have e2:vG s s.truths.length=s.someN:=by
  unfold vG
  rw[List.take_length];rfl
 rw[e1,e2]at hkn
 unfold co
 refine aD ax { l:=0,f:=14,mat:=[20]} mixed vW Tryd.func14 (by kernel_rfl) ?_
 conv=>whnf
 repeat(any_goals(first|exact ac|(refine ao ?_ ?_<;>intro _<;>first|exact ap|conv=>whnf)|((first|refine aa hk ?_|refine ae ?_|refine bi ?_ ?_|intro _)<;>conv=>whnf)))
 refine⟨[b6],?_⟩
 conv=>whnf
 refine⟨_,_,hkn,?_⟩
 conv=>whnf
 refine And.intro ?_ ?_
 ·conv=>whnf
  refine⟨⟨?_⟩,trivial⟩
  rfl
 ·repeat(first|exact trivial|refine And.intro rfl ?_|refine And.intro (by skip) ?_)
def xk:AV:= .v (.pointer none)
theorem CQ(s:Bill)(hr:s.small)(hc:s.check.2.2≠0):BoxA Tryd.prog (.fn 14) [] [ci s] (.tuple [xk,ak s.check.2.2]) []:=by
 have hk:=ww s hr
 unfold E0 at hk
 generalize s.check=c at *
 obtain⟨c1,c2,c3⟩:=c
 refine aD ax { l:=0,f:=14,mat:=[20]} mixed vW Tryd.func14 (by kernel_rfl) ?_
 conv=>whnf
 repeat(any_goals(first|exact ac|(refine ao ?_ ?_<;>intro _<;>first|exact ap|conv=>whnf)|((first|refine aa hk ?_|refine ae ?_|refine bi ?_ ?_|intro _)<;>conv=>whnf)))
 refine And.intro ?_ ?_
 ·conv=>whnf
  refine⟨⟨?_⟩,trivial⟩
  rfl
 ·repeat(first|exact trivial|refine And.intro rfl ?_|refine And.intro (by skip) ?_)
theorem DB(t set:Int)(ht:0≤t∧t<64)(hs:0≤set∧set<64):PureA Tryd.prog 28 [ak t,.cptr [ak set]] (aH (decide (t.toNat&&&set.toNat=0))):=by
 obtain⟨n,rfl⟩:=Int.eq_ofNat_of_zero_le ht.1
 obtain⟨m,rfl⟩:=Int.eq_ofNat_of_zero_le hs.1
 have e:=eS n m (by omega) (by omega)
 have e2:decide (n&&&m=0)=decide (eb n m=0):=by rw[e,decide_eq_decide];omega
 rw[Int.toNat_natCast,Int.toNat_natCast,e2]
 refine ag ax { l:=0,f:=28} mixed BW Tryd.func28 (by kernel_rfl) ?_
 conv=>whnf
 (refine⟨⟨?_⟩,trivial⟩;rfl)
theorem CM(l:List Int)(set:Int)(hl:l.length≤1048576)(h:∀t∈l,0≤t∧t<64)(hs:0≤set∧set<64):PureA Tryd.prog 48 [bU l,.func (.func 28) [] [.cptr [ak set]]] (ak (idx (fun t=>decide (t.toNat&&&set.toNat=0)) l)):=by
 have hF:=fun t ht=>DB t set (h t ht) hs
 generalize hp:(fun t:Int=>decide (t.toNat&&&set.toNat=0))=p at *
 have hp':∀t:Int,decide (t.toNat&&&set.toNat=0)=p t:=fun t=>by rw[←hp]
 simp only[hp']at hF
 clear hp hp'
 refine ag ax { l:=0,f:=48} mixed Cb Tryd.func48 (by kernel_rfl) ?_
 conv=>whnf
 refine bS ax { l:=0,f:=48} mixed (fun i:Nat=>[(8,ak i)]) (fun _=>[]) (fun _=>[]) (fun i=>i≤l.length∧idx p l=cn p i (l.drop i)) (fun i=>l.length-i) 0 (by kernel_rfl)
  ⟨Nat.zero_le _,rfl⟩ ?_
 conv=>whnf
 refine⟨⟨aj rfl trivial,trivial,trivial⟩,?_⟩
 intro i ⟨hi,H⟩
 conv=>whnf
 refine bQ (fun h1=>?_) (fun h1=>?_)
 ·simp only[List.length_map]at h1
  obtain⟨x,hx,hd⟩:=aF (l:=l) (i:=i) (by omega)
  have H':=ef hd H
  have hFx:=hF x (List.mem_of_getElem? hx)
  conv=>whnf
  repeat(any_goals(first|exact ac|(refine ao ?_ ?_<;>intro _<;>first|exact ap|conv=>whnf)|((first|refine af hx rfl ?_|refine aa hFx ?_|refine ae ?_|refine bi ?_ ?_|intro _)<;>conv=>whnf)))
  ·rename_i he
   simp only[he,if_true]at H'
   (refine⟨⟨?_⟩,trivial⟩;simp[oneOf,ak,H'])
  ·rename_i he
   simp only[he,Bool.false_eq_true,if_false]at H'
   (refine⟨i+1,⟨by omega,H'⟩,by omega,?_⟩;(conv=>whnf);refine⟨?_,?_,?_⟩<;>repeat(first|exact trivial|refine sc rfl ?_|refine kn ?_|refine kc rfl ?_))
 ·conv=>whnf
  simp only[List.length_map]at h1
  have:i=l.length:=by omega
  subst this
  (refine⟨⟨?_⟩,trivial⟩;simp[oneOf,ak,H,cn])
theorem Cv(l:List Int)(set:Int)(hl:l.length≤1048576)(h:∀t∈l,0≤t∧t<64)(hs:0≤set∧set<64):PureA Tryd.prog 27 [bU l,.func (.func 28) [] [.cptr [ak set]]] (aH (l.any (fun t=>decide (t.toNat&&&set.toNat=0)))):=by
 refine ag ax { l:=0,f:=27} mixed BV Tryd.func27 (by kernel_rfl) ?_
 conv=>whnf
 refine aa (CM l set hl h hs) ?_
 conv=>whnf
 (refine⟨⟨?_⟩,trivial⟩;rw[←rW];rfl)
theorem tG(s:Bill)(hg:s.Good)(set:Int)(hs:0≤set∧set<64):PureA Tryd.prog 16 [cL s,ak set] (aH (s.sure set)):=by
 have h:=Cv s.truths set (by have:=hg.lenT;omega) (fun t ht=>hg.lt ht) hs
 unfold Bill.sure
 generalize (s.truths.any fun t=>decide (t.toNat&&&set.toNat=0))=b at *
 refine ag ax { l:=0,f:=16} mixed BQ Tryd.func16 (by kernel_rfl) ?_
 conv=>whnf
 repeat(any_goals(first|exact ac|(refine ao ?_ ?_<;>intro _<;>first|exact ap|conv=>whnf)|((first|refine ah h rfl ?_|refine ae ?_|refine bi ?_ ?_|intro _)<;>conv=>whnf)))
 (refine⟨⟨?_⟩,trivial⟩;rfl)
end Go.Proofs.YtgncapdjheghfaaDoor
namespace Go.Proofs.YtgncapdjheghfaaDoor
open Go.Am Go.Proofs Go
theorem d5{n:Nat}(h:n<64):n<4611686018427387904:=by omega
theorem s4(s:Bill)(n:Nat)(h:n<6):decide (eb (js s.allN n) 1=1)=s.inAll n:=by
 rw[BH _ _ (d5 (qZ s)) (by omega),iy,decide_eq_true h,Bool.true_and]
theorem Bm(s:Bill)(x:Ent)(ha:0≤x.a∧x.a<6):PureA Tryd.prog 68 [cL s,bK x] (aH (decide (x.b=0)&&s.inAll x.a.toNat)):=by
 obtain⟨sy,a,b⟩:=x
 simp only[bK]at *
 obtain⟨n,rfl⟩:=Int.eq_ofNat_of_zero_le ha.1
 have hb:=s4 s n (by omega)
 rw[Int.toNat_natCast, ←hb]
 by_cases q:b=0
 ·rw[decide_eq_true q]
  refine ag ax { l:=0,f:=68} mixed wi Tryd.func68 (by kernel_rfl) ?_
  conv=>whnf
  repeat(any_goals(first|exact ac|(refine ao ?_ ?_<;>intro _<;>first|exact ap|conv=>whnf)|((first|refine ae ?_|refine bi ?_ ?_|intro _)<;>conv=>whnf)))
  (refine⟨⟨?_⟩,trivial⟩;rfl)
 ·rw[decide_eq_false q]
  refine ag ax { l:=0,f:=68} mixed wi Tryd.func68 (by kernel_rfl) ?_
  conv=>whnf
  repeat(any_goals(first|exact ac|(refine ao ?_ ?_<;>intro _<;>first|exact ap|conv=>whnf)|((first|refine ae ?_|refine bi ?_ ?_|intro _)<;>conv=>whnf)))
  (refine⟨⟨?_⟩,trivial⟩;rfl)
theorem EE(s:Bill)(hg:s.Good)(n:Nat)(h:n<6):decide (eb (js (bq s.someN s.allN) n) 1=1)=(s.inSome n&& !s.inAll n):=by
 have h1:=fg hg
 have h2:=qZ s
 have h3:(s.someN&&&(63^^^s.allN))<64:=Nat.and_lt_two_pow (n:=6) _ (Nat.xor_lt_two_pow (n:=6) (by omega) h2)
 rw[dR _ _ h1 h2,BH _ _ (d5 h3) (by omega),Nat.testBit_and,Nat.testBit_xor,iy,d7,za,decide_eq_true h,Bool.true_and,Bool.true_xor]
theorem xf(s:Bill)(hg:s.Good)(x:Ent)(ha:0≤x.a∧x.a<6):PureA Tryd.prog 70 [cL s,bK x] (aH (decide (x.b=0)&&(s.inSome x.a.toNat&& !s.inAll x.a.toNat))):=by
 obtain⟨sy,a,b⟩:=x
 simp only[bK]at *
 obtain⟨n,rfl⟩:=Int.eq_ofNat_of_zero_le ha.1
 have hb:=EE s hg n (by omega)
 rw[Int.toNat_natCast, ←hb]
 by_cases q:b=0
 ·rw[decide_eq_true q]
  refine ag ax { l:=0,f:=70} mixed wm Tryd.func70 (by kernel_rfl) ?_
  conv=>whnf
  repeat(any_goals(first|exact ac|(refine ao ?_ ?_<;>intro _<;>first|exact ap|conv=>whnf)|((first|refine ae ?_|refine bi ?_ ?_|intro _)<;>conv=>whnf)))
  (refine⟨⟨?_⟩,trivial⟩;rfl)
 ·rw[decide_eq_false q]
  refine ag ax { l:=0,f:=70} mixed wm Tryd.func70 (by kernel_rfl) ?_
  conv=>whnf
  repeat(any_goals(first|exact ac|(refine ao ?_ ?_<;>intro _<;>first|exact ap|conv=>whnf)|((first|refine ae ?_|refine bi ?_ ?_|intro _)<;>conv=>whnf)))
  (refine⟨⟨?_⟩,trivial⟩;rfl)
theorem CR(s:Bill)(a b:Nat)(ha:a<6)(hb:b<6):decide (eb (orX (js s.allN a) (js s.allN b)) 1=0)=(!s.inAll a&& !s.inAll b):=by
 have h:=qZ s
 have h1:s.allN/2^a≤s.allN:=Nat.div_le_self ..
 have h2:s.allN/2^b≤s.allN:=Nat.div_le_self ..
 have h3:(s.allN/2^a|||s.allN/2^b)<64:=Nat.or_lt_two_pow (n:=6) (by omega) (by omega)
 have e1:s.inAll a=s.allN.testBit a:=by rw[iy,decide_eq_true ha,Bool.true_and]
 have e2:s.inAll b=s.allN.testBit b:=by rw[iy,decide_eq_true hb,Bool.true_and]
 have p1:(s.allN/2^a).testBit 0=s.allN.testBit a:=by rw[Nat.testBit_div_two_pow,Nat.zero_add]
 have p2:(s.allN/2^b).testBit 0=s.allN.testBit b:=by rw[Nat.testBit_div_two_pow,Nat.zero_add]
 rw[jn _ _ (by omega),jn _ _ (by omega),o5 _ _ (by omega) (by omega),show(1:Int)=((1:Nat):Int) by rfl,eS _ _ (by omega) (by omega),n6,e1,e2, ←p1, ←p2, ←Bool.not_or, ←Nat.testBit_or,Nat.testBit_zero,Bool.eq_iff_iff,decide_eq_true_eq,Bool.not_eq_true',decide_eq_false_iff_not]
 omega
theorem C7(a b:Nat)(ha:a<6)(hb:b<6):orX (EU 1 a) (EU 1 b)=((2^a|||2^b:Nat):Int)∧(2^a|||2^b)<64:=by
 have h1:2^a<64:=by have:=Nat.pow_lt_pow_right (a:=2) (by omega) ha;omega
 have h2:2^b<64:=by have:=Nat.pow_lt_pow_right (a:=2) (by omega) hb;omega
 rw[pe a (by omega),pe b (by omega),o5 _ _ (by omega) (by omega)]
 exact⟨rfl,Nat.or_lt_two_pow (n:=6) h1 h2⟩
theorem uj{s:Bill}{a:Int}(h:0≤a∧a≤(s.figs.length:Int)-1):∃f,s.figs[a.toNat]?=some f∧s.roomAt a=f.room∧s.heightAt a=f.height:=by
 have hl:a.toNat<s.figs.length:=by omega
 refine⟨s.figs[a.toNat],List.getElem?_eq_getElem hl,?_,?_⟩
 ·unfold Bill.roomAt;rw[List.getElem?_eq_getElem hl]
 ·unfold Bill.heightAt;rw[List.getElem?_eq_getElem hl]
set_option maxHeartbeats 1000000 in
theorem m9(s:Bill)(hg:s.Good)(x:Ent)(ha:0≤x.a∧x.a≤(s.figs.length:Int)-1)(hb:0≤x.b∧x.b≤(s.figs.length:Int)-1) :
  PureA Tryd.prog 69 [cL s,bK x] (aH (decide (x.a<x.b)&&(decide (s.roomAt x.a=s.roomAt x.b)&&((!s.inAll x.a.toNat&& !s.inAll x.b.toNat)&&s.oneOf x.a.toNat x.b.toNat)))):=by
 obtain⟨f,hf,er,_⟩:=uj ha
 obtain⟨g,hgg,er2,_⟩:=uj hb
 have h6:=hg.len
 obtain⟨sy,a,b⟩:=x
 simp only[bK]at *
 rw[er,er2]
 obtain⟨n,rfl⟩:=Int.eq_ofNat_of_zero_le ha.1
 obtain⟨m,rfl⟩:=Int.eq_ofNat_of_zero_le hb.1
 simp only[Int.toNat_natCast]at *
 have hN:=CR s n m (by omega) (by omega)
 obtain⟨hP,hP2⟩:=C7 n m (by omega) (by omega)
 have hS:=tG s hg (orX (EU 1 n) (EU 1 m)) (by rw[hP];omega)
 rw[hP,x9, ←hP]at hS
 rw[←hN]
 clear hg
 generalize s.oneOf n m=B at *
 by_cases q1:(n:Int)<m
 ·rw[decide_eq_true q1]
  by_cases q2:f.room=g.room
  ·rw[decide_eq_true q2]
   by_cases q3:eb (orX (js s.allN n) (js s.allN m)) 1=0
   ·rw[decide_eq_true q3]
    unfold eb orX js at q3
    refine ag ax { l:=0,f:=69} mixed ol Tryd.func69 (by kernel_rfl) ?_
    conv=>whnf
    repeat(any_goals(first|exact ac|(refine ao ?_ ?_<;>intro _<;>first|exact ap|conv=>whnf)|((first|refine af hf rfl ?_|refine af hgg rfl ?_|refine aa hS ?_|refine ae ?_|refine bi ?_ ?_|intro _)<;>conv=>whnf)))
    (refine⟨⟨?_⟩,trivial⟩;rfl)
   ·rw[decide_eq_false q3]
    unfold eb orX js at q3
    refine ag ax { l:=0,f:=69} mixed ol Tryd.func69 (by kernel_rfl) ?_
    conv=>whnf
    repeat(any_goals(first|exact ac|(refine ao ?_ ?_<;>intro _<;>first|exact ap|conv=>whnf)|((first|refine af hf rfl ?_|refine af hgg rfl ?_|refine aa hS ?_|refine ae ?_|refine bi ?_ ?_|intro _)<;>conv=>whnf)))
    (refine⟨⟨?_⟩,trivial⟩;rfl)
  ·rw[decide_eq_false q2]
   refine ag ax { l:=0,f:=69} mixed ol Tryd.func69 (by kernel_rfl) ?_
   conv=>whnf
   repeat(any_goals(first|exact ac|(refine ao ?_ ?_<;>intro _<;>first|exact ap|conv=>whnf)|((first|refine af hf rfl ?_|refine af hgg rfl ?_|refine aa hS ?_|refine ae ?_|refine bi ?_ ?_|intro _)<;>conv=>whnf)))
   (refine⟨⟨?_⟩,trivial⟩;rfl)
 ·rw[decide_eq_false q1]
  refine ag ax { l:=0,f:=69} mixed ol Tryd.func69 (by kernel_rfl) ?_
  conv=>whnf
  repeat(any_goals(first|exact ac|(refine ao ?_ ?_<;>intro _<;>first|exact ap|conv=>whnf)|((first|refine af hf rfl ?_|refine af hgg rfl ?_|refine aa hS ?_|refine ae ?_|refine bi ?_ ?_|intro _)<;>conv=>whnf)))
  (refine⟨⟨?_⟩,trivial⟩;rfl)
theorem lW(x:Ent)(ha:0≤x.a∧x.a<6)(hb:0≤x.b∧x.b<6):PureA Tryd.prog 50 [bK x] (ak x.named):=by
 obtain⟨sy,a,b⟩:=x
 simp only[bK]at *
 obtain⟨n,rfl⟩:=Int.eq_ofNat_of_zero_le ha.1
 obtain⟨m,rfl⟩:=Int.eq_ofNat_of_zero_le hb.1
 have h1:=(C7 n m (by omega) (by omega)).1
 have h2:=pe n (by omega)
 unfold Ent.named
 simp only[Int.toNat_natCast]
 by_cases q:sy=1
 ·rw[if_pos q, ←h1]
  refine ag ax { l:=0,f:=50} mixed wa Tryd.func50 (by kernel_rfl) ?_
  conv=>whnf
  repeat(any_goals(first|exact ac|(refine ao ?_ ?_<;>intro _<;>first|exact ap|conv=>whnf)|((first|refine ae ?_|refine bi ?_ ?_|intro _)<;>conv=>whnf)))
  (refine⟨⟨?_⟩,trivial⟩;rfl)
 ·rw[if_neg q, ←h2]
  refine ag ax { l:=0,f:=50} mixed wa Tryd.func50 (by kernel_rfl) ?_
  conv=>whnf
  repeat(any_goals(first|exact ac|(refine ao ?_ ?_<;>intro _<;>first|exact ap|conv=>whnf)|((first|refine ae ?_|refine bi ?_ ?_|intro _)<;>conv=>whnf)))
  (refine⟨⟨?_⟩,trivial⟩;rfl)
theorem iU(x:Ent)(ha:0≤x.a∧x.a<6)(hb:0≤x.b∧x.b<6):x.named<64:=by
 have h1:=(C7 x.a.toNat x.b.toNat (by omega) (by omega)).2
 have h2:2^x.a.toNat<64:=Nat.pow_lt_pow_right (a:=2) (n:=6) (m:=x.a.toNat) (by omega) (by omega)
 unfold Ent.named
 split
 ·exact h1
 ·exact h2
def isB:ByteArray:=⟨#[105,115]⟩
def Fv:ByteArray:=⟨#[109,97,121,32,98,101]⟩
def fb:List AV:=[.func (.func 68) [] [],aI isB,.func (.func 69) [] [],aI isB,.func (.func 70) [] [],aI Fv]
theorem eN:PureA Tryd.prog 49 [] (.agg fb):=by
 refine ag ax { l:=0,f:=49} mixed Cc Tryd.func49 (by kernel_rfl) ?_
 conv=>whnf
 (refine⟨⟨?_⟩,trivial⟩;rfl)
end Go.Proofs.YtgncapdjheghfaaDoor
namespace Go.Proofs.YtgncapdjheghfaaDoor
open Go.Am Go.Proofs Go
end Go.Proofs.YtgncapdjheghfaaDoor
namespace Go.Proofs.YtgncapdjheghfaaDoor
open Go.Am Go.Proofs Go
end Go.Proofs.YtgncapdjheghfaaDoor
namespace Go.Proofs.YtgncapdjheghfaaDoor
open Go.Am Go.Proofs Go
end Go.Proofs.YtgncapdjheghfaaDoor
namespace Go.Proofs.YtgncapdjheghfaaDoor
open Go.Am Go.Proofs Go
theorem zK(m n:Nat)(hm:m<64)(hn:n<64):eb m n=((m&&&n:Nat):Int)∧orX m n=((m|||n:Nat):Int)∧(m|||n)<64 :=
 ⟨eS m n (by omega) (by omega),o5 m n (by omega) (by omega),Nat.or_lt_two_pow (n:=6) hm hn⟩
def xX(s:Bill)(x:Ent):Nat→Bool
 | 0=>decide (x.b=0)&&s.inAll x.a.toNat
 | 1=>decide (x.a<x.b)&&(decide (s.roomAt x.a=s.roomAt x.b)&&((!s.inAll x.a.toNat&& !s.inAll x.b.toNat)&&s.oneOf x.a.toNat x.b.toNat))
 | _=>decide (x.b=0)&&(s.inSome x.a.toNat&& !s.inAll x.a.toNat)
structure HState where
 i:Nat
 met:Nat
 last:Int
set_option maxHeartbeats 2000000 in
theorem oA(s:Bill)(hg:s.Good)(c:List Ent)(hl:c.length≤1048576):PureA Tryd.prog 29 [cL s,bg c] (aH (s.holds c)):=by
 have h6:=hg.len
 have hfl:(s.figs.map eR).length=s.figs.length:=List.length_map ..
 have h64:=fg hg
 have hend:∀m:Nat,decide (m=s.someN)=decide ((m:Int)=(s.someN:Int)):=fun m=>by rw[decide_eq_decide];omega
 have hH:s.holds c=s.holdsL (c.drop 0) 0 (-1):=rfl
 generalize s.holds c=R at *
 refine ag ax { l:=0,f:=29} mixed BX Tryd.func29 (by kernel_rfl) ?_
 conv=>whnf
 repeat(any_goals(first|exact ac|(refine ao ?_ ?_<;>intro _<;>first|exact ap|conv=>whnf)|((first|refine aa eN ?_|refine ae ?_|refine bi ?_ ?_|intro _)<;>conv=>whnf)))
 refine bS ax { l:=0,f:=29} mixed (fun u:HState=>[(13,ak u.i),(6,ak u.met),(7,ak u.last)]) (fun _=>[]) (fun _=>[]) (fun u=>u.i≤c.length∧(u.met<64∧ -1≤u.last∧u.last≤6)∧R=s.holdsL (c.drop u.i) u.met u.last) (fun u=>c.length-u.i) (⟨0,0, -1⟩:HState) (by kernel_rfl)
  ⟨Nat.zero_le _,⟨by decide,by decide,by decide⟩,hH⟩ ?_
 conv=>whnf
 refine⟨⟨aj rfl (aj rfl (aj rfl trivial)),trivial,trivial⟩,?_⟩
 clear hH
 rintro⟨i,m,la⟩ ⟨hi,⟨hm,hl1,hl2⟩,H⟩
 simp only at hi hm hl1 hl2 H
 conv=>whnf
 refine bQ (fun h1=>?_) (fun h1=>?_)
 ·simp only[List.length_map]at h1
  obtain⟨x,hx,hd⟩:=aF (l:=c) (i:=i) (by omega)
  rw[hd]at H
  simp only[Bill.holdsL]at H
  have hb1:=cT x.says 0 2
  have hb2:=cT x.a (la+1) (((s.figs.map eR).length:Int)-1)
  have hb3:=cT x.b 0 (((s.figs.map eR).length:Int)-1)
  rw[←hfl]at H
  by_cases hok:(aS 0 2 x.says||(aS (la+1) (((s.figs.map eR).length:Int)-1) x.a||aS 0 (((s.figs.map eR).length:Int)-1) x.b))=true
  ·rw[if_pos hok]at H
   generalize aS 0 2 x.says=b1 at *
   generalize aS (la+1) (((s.figs.map eR).length:Int)-1) x.a=b2 at *
   generalize aS 0 (((s.figs.map eR).length:Int)-1) x.b=b3 at *
   cases b1<;>cases b2<;>cases b3
   all_goals first
    | exact absurd hok (by decide)
    | skip
   all_goals conv=>whnf
   all_goals repeat(any_goals(first|exact ac|(refine ao ?_ ?_<;>intro _<;>first|exact ap|conv=>whnf)|((first|refine af hx rfl ?_|refine aa hb1 ?_|refine aa hb2 ?_|refine aa hb3 ?_|refine ae ?_|refine bi ?_ ?_|intro _)<;>conv=>whnf)))
   all_goals(refine⟨⟨?_⟩,trivial⟩;rw[H];rfl)
  ·rw[if_neg hok]at H
   rw[Bool.not_eq_true,Bool.or_eq_false_iff,Bool.or_eq_false_iff]at hok
   obtain⟨o1,o2,o3⟩:=hok
   rw[o1]at hb1
   rw[o2]at hb2
   rw[o3]at hb3
   rw[a7]at o1 o2 o3
   rw[hfl]at o2 o3
   have hn:=lW x (by omega) (by omega)
   have hn64:=iU x (by omega) (by omega)
   obtain⟨m1,m2,m3⟩:=zK m x.named hm hn64
   have hz:decide (m&&&x.named≠0) = !decide (eb m x.named=0):=by rw[m1, ←decide_not,decide_eq_decide];omega
   have hso:PureA Tryd.prog 68 [cL s,bK x] (aH (xX s x 0)):=Bm s x (by omega)
   have hso1:PureA Tryd.prog 69 [cL s,bK x] (aH (xX s x 1)):=m9 s hg x (by omega) o3
   have hso2:PureA Tryd.prog 70 [cL s,bK x] (aH (xX s x 2)):=xf s hg x (by omega)
   have hS:s.so x=xX s x x.says.toNat:=by
    unfold Bill.so xX
    rcases(by omega:x.says=0∨x.says=1∨x.says=2)with h|h|h<;>rw[h]<;>rfl
   rw[hS,hz]at H
   clear hS hz hend
   generalize x.named=nm at *
   have hm2:m|||nm<64:=m3
   obtain⟨sy,xa,xb⟩:=x
   simp only[bK]at *
   rcases(by omega:sy=0∨sy=1∨sy=2)with h|h|h
   all_goals subst h
   ·change R=if(!xX s _ 0|| !decide (eb m nm=0))=true then false else _ at H
    clear hso1 hso2
    generalize xX s _ 0=B at *
    by_cases z:eb m nm=0
    ·rw[decide_eq_true z]at H
     unfold eb at z
     cases B
     ·conv=>whnf
      repeat(any_goals(first|exact ac|(refine ao ?_ ?_<;>intro _<;>first|exact ap|conv=>whnf)|((first|refine af hx rfl ?_|refine aa hb1 ?_|refine aa hb2 ?_|refine aa hb3 ?_|refine aa hso ?_|refine aa hn ?_|refine ae ?_|refine bi ?_ ?_|intro _)<;>conv=>whnf)))
      (refine⟨⟨?_⟩,trivial⟩;rw[H];rfl)
     ·rw[if_neg (by simp)]at H
      conv=>whnf
      repeat(any_goals(first|exact ac|(refine ao ?_ ?_<;>intro _<;>first|exact ap|conv=>whnf)|((first|refine af hx rfl ?_|refine aa hb1 ?_|refine aa hb2 ?_|refine aa hb3 ?_|refine aa hso ?_|refine aa hn ?_|refine ae ?_|refine bi ?_ ?_|intro _)<;>conv=>whnf)))
      (refine⟨⟨i+1,m|||nm,xa⟩,⟨by show i+1≤_;omega,⟨hm2,by show -1≤xa;omega,by show xa≤6;omega⟩,H⟩,(by show _-(i+1)<_-i;omega),?_⟩;(conv=>whnf);refine⟨?_,?_,?_⟩<;>repeat(first|exact trivial|refine sc rfl ?_|refine kn ?_|refine kc rfl ?_|refine sc (by(rw[←m2];rfl)) ?_|refine kc (by(rw[←m2];rfl)) ?_))
    ·rw[decide_eq_false z]at H
     unfold eb at z
     cases B
     all_goals conv=>whnf
     all_goals repeat(any_goals(first|exact ac|(refine ao ?_ ?_<;>intro _<;>first|exact ap|conv=>whnf)|((first|refine af hx rfl ?_|refine aa hb1 ?_|refine aa hb2 ?_|refine aa hb3 ?_|refine aa hso ?_|refine aa hn ?_|refine ae ?_|refine bi ?_ ?_|intro _)<;>conv=>whnf)))
     all_goals(refine⟨⟨?_⟩,trivial⟩;rw[H];rfl)
   ·change R=if(!xX s _ 1|| !decide (eb m nm=0))=true then false else _ at H
    clear hso hso2
    generalize xX s _ 1=B at *
    by_cases z:eb m nm=0
    ·rw[decide_eq_true z]at H
     unfold eb at z
     cases B
     ·conv=>whnf
      repeat(any_goals(first|exact ac|(refine ao ?_ ?_<;>intro _<;>first|exact ap|conv=>whnf)|((first|refine af hx rfl ?_|refine aa hb1 ?_|refine aa hb2 ?_|refine aa hb3 ?_|refine aa hso1 ?_|refine aa hn ?_|refine ae ?_|refine bi ?_ ?_|intro _)<;>conv=>whnf)))
      (refine⟨⟨?_⟩,trivial⟩;rw[H];rfl)
     ·rw[if_neg (by simp)]at H
      conv=>whnf
      repeat(any_goals(first|exact ac|(refine ao ?_ ?_<;>intro _<;>first|exact ap|conv=>whnf)|((first|refine af hx rfl ?_|refine aa hb1 ?_|refine aa hb2 ?_|refine aa hb3 ?_|refine aa hso1 ?_|refine aa hn ?_|refine ae ?_|refine bi ?_ ?_|intro _)<;>conv=>whnf)))
      (refine⟨⟨i+1,m|||nm,xa⟩,⟨by show i+1≤_;omega,⟨hm2,by show -1≤xa;omega,by show xa≤6;omega⟩,H⟩,(by show _-(i+1)<_-i;omega),?_⟩;(conv=>whnf);refine⟨?_,?_,?_⟩<;>repeat(first|exact trivial|refine sc rfl ?_|refine kn ?_|refine kc rfl ?_|refine sc (by(rw[←m2];rfl)) ?_|refine kc (by(rw[←m2];rfl)) ?_))
    ·rw[decide_eq_false z]at H
     unfold eb at z
     cases B
     all_goals conv=>whnf
     all_goals repeat(any_goals(first|exact ac|(refine ao ?_ ?_<;>intro _<;>first|exact ap|conv=>whnf)|((first|refine af hx rfl ?_|refine aa hb1 ?_|refine aa hb2 ?_|refine aa hb3 ?_|refine aa hso1 ?_|refine aa hn ?_|refine ae ?_|refine bi ?_ ?_|intro _)<;>conv=>whnf)))
     all_goals(refine⟨⟨?_⟩,trivial⟩;rw[H];rfl)
   ·change R=if(!xX s _ 2|| !decide (eb m nm=0))=true then false else _ at H
    clear hso hso1
    generalize xX s _ 2=B at *
    by_cases z:eb m nm=0
    ·rw[decide_eq_true z]at H
     unfold eb at z
     cases B
     ·conv=>whnf
      repeat(any_goals(first|exact ac|(refine ao ?_ ?_<;>intro _<;>first|exact ap|conv=>whnf)|((first|refine af hx rfl ?_|refine aa hb1 ?_|refine aa hb2 ?_|refine aa hb3 ?_|refine aa hso2 ?_|refine aa hn ?_|refine ae ?_|refine bi ?_ ?_|intro _)<;>conv=>whnf)))
      (refine⟨⟨?_⟩,trivial⟩;rw[H];rfl)
     ·rw[if_neg (by simp)]at H
      conv=>whnf
      repeat(any_goals(first|exact ac|(refine ao ?_ ?_<;>intro _<;>first|exact ap|conv=>whnf)|((first|refine af hx rfl ?_|refine aa hb1 ?_|refine aa hb2 ?_|refine aa hb3 ?_|refine aa hso2 ?_|refine aa hn ?_|refine ae ?_|refine bi ?_ ?_|intro _)<;>conv=>whnf)))
      (refine⟨⟨i+1,m|||nm,xa⟩,⟨by show i+1≤_;omega,⟨hm2,by show -1≤xa;omega,by show xa≤6;omega⟩,H⟩,(by show _-(i+1)<_-i;omega),?_⟩;(conv=>whnf);refine⟨?_,?_,?_⟩<;>repeat(first|exact trivial|refine sc rfl ?_|refine kn ?_|refine kc rfl ?_|refine sc (by(rw[←m2];rfl)) ?_|refine kc (by(rw[←m2];rfl)) ?_))
    ·rw[decide_eq_false z]at H
     unfold eb at z
     cases B
     all_goals conv=>whnf
     all_goals repeat(any_goals(first|exact ac|(refine ao ?_ ?_<;>intro _<;>first|exact ap|conv=>whnf)|((first|refine af hx rfl ?_|refine aa hb1 ?_|refine aa hb2 ?_|refine aa hb3 ?_|refine aa hso2 ?_|refine aa hn ?_|refine ae ?_|refine bi ?_ ?_|intro _)<;>conv=>whnf)))
     all_goals(refine⟨⟨?_⟩,trivial⟩;rw[H];rfl)
 ·conv=>whnf
  simp only[List.length_map]at h1
  have:i=c.length:=by omega
  subst this
  rw[List.drop_length]at H
  simp only[Bill.holdsL]at H
  rw[hend]at H
  (refine⟨⟨?_⟩,trivial⟩;rw[H];rfl)
end Go.Proofs.YtgncapdjheghfaaDoor
namespace Go.Proofs.YtgncapdjheghfaaDoor
open Go.Am Go.Proofs Go
def Bill.surelyR(s:Bill)(set:Int):Bool×Int:=if s.check.2.2≠0 then(false,s.check.2.2)else if aS 0 (2^s.figs.length-1) set=true then(false,4)else(s.sure set,0)
def Bill.trueR(s:Bill)(c:List Ent):Bool×Int:=if s.check.2.2≠0 then(false,s.check.2.2)else(s.holds c,0)
theorem pV(s:Bill)(hr:s.small)(e:Int)(he:s.check.2.2=e)(h0:e≠0):BoxA Tryd.prog (.fn 14) [] [ci s] (.tuple [xk,ak e]) []:=by
 subst he;exact CQ s hr h0
theorem fh(s:Bill)(hr:s.small)(set:Int):PureA Tryd.prog 6 [ci s,ak set] (.tuple [aH (s.surelyR set).1,ak (s.surelyR set).2]):=by
 have hfl:(s.figs.map eR).length=s.figs.length:=List.length_map ..
 unfold Bill.surelyR
 by_cases hc:s.check.2.2=0
 ·rw[hc,if_neg (by simp)]
  have hg:=Bill.good hc
  have hlk:=g6 s hr hc
  unfold co at hlk
  obtain⟨p1,p2⟩:=fk hg.len
  have hsh:=pf s.figs.length hg.len
  have hb:PureA Tryd.prog 15 [ak 0,ak (IntKind.i64.wrap (1 * 2^min (((s.figs.map eR).length:Int)).toNat IntKind.i64.bits)-1),ak set] (aH (aS 0 (2^s.figs.length-1) set)):=by
   have:=cT set 0 (2^s.figs.length-1)
   rw[hfl,hsh];exact this
  rw[←hfl]at hsh
  by_cases q:aS 0 (2^s.figs.length-1) set=true
  ·rw[q]at hb
   rw[if_pos q]
   refine ag ax { l:=0,f:=6,mat:=[14]} mixed wd Tryd.func6 (by kernel_rfl) ?_
   conv=>whnf
   refine⟨[],?_⟩
   conv=>whnf
   refine⟨_,_,hlk,?_⟩
   conv=>whnf
   repeat(any_goals(first|exact ac|(refine ao ?_ ?_<;>intro _<;>first|exact ap|conv=>whnf)|((first|refine aa hb ?_|refine ae ?_|refine bi ?_ ?_|intro _)<;>conv=>whnf)))
   (refine⟨⟨?_⟩,trivial⟩;rfl)
  ·rw[if_neg q]
   rw[Bool.not_eq_true]at q
   rw[q]at hb
   rw[a7]at q
   have hs:=tG s hg set (by omega)
   generalize s.sure set=B at *
   clear hg
   refine ag ax { l:=0,f:=6,mat:=[14]} mixed wd Tryd.func6 (by kernel_rfl) ?_
   conv=>whnf
   refine⟨[],?_⟩
   conv=>whnf
   refine⟨_,_,hlk,?_⟩
   conv=>whnf
   repeat(any_goals(first|exact ac|(refine ao ?_ ?_<;>intro _<;>first|exact ap|conv=>whnf)|((first|refine aa hb ?_|refine ah hs rfl ?_|refine ae ?_|refine bi ?_ ?_|intro _)<;>conv=>whnf)))
   (refine⟨⟨?_⟩,trivial⟩;rfl)
 ·rw[if_pos hc]
  obtain⟨e,he⟩:∃e,s.check.2.2=e:=⟨_,rfl⟩
  have hlk:=pV s hr e he (by rw[←he];exact hc)
  rw[he]at hc
  rw[he]
  refine ag ax { l:=0,f:=6,mat:=[14]} mixed wd Tryd.func6 (by kernel_rfl) ?_
  conv=>whnf
  refine⟨[],?_⟩
  conv=>whnf
  refine⟨_,_,hlk,?_⟩
  conv=>whnf
  repeat(any_goals(first|exact ac|(refine ao ?_ ?_<;>intro _<;>first|exact ap|conv=>whnf)|((first|refine ae ?_|refine bi ?_ ?_|intro _)<;>conv=>whnf)))
  (refine⟨⟨?_⟩,trivial⟩;rfl)
theorem qR(s:Bill)(hr:s.small)(c:List Ent)(hl:c.length≤1048576):PureA Tryd.prog 21 [ci s,bg c] (.tuple [aH (s.trueR c).1,ak (s.trueR c).2]):=by
 unfold Bill.trueR
 by_cases hc:s.check.2.2=0
 ·rw[hc,if_neg (by simp)]
  have hg:=Bill.good hc
  have hlk:=g6 s hr hc
  unfold co at hlk
  have hs:=oA s hg c hl
  generalize s.holds c=B at *
  clear hg
  refine ag ax { l:=0,f:=21,mat:=[14]} mixed vX Tryd.func21 (by kernel_rfl) ?_
  conv=>whnf
  refine⟨[],?_⟩
  conv=>whnf
  refine⟨_,_,hlk,?_⟩
  conv=>whnf
  repeat(any_goals(first|exact ac|(refine ao ?_ ?_<;>intro _<;>first|exact ap|conv=>whnf)|((first|refine ah hs rfl ?_|refine ae ?_|refine bi ?_ ?_|intro _)<;>conv=>whnf)))
  (refine⟨⟨?_⟩,trivial⟩;rfl)
 ·rw[if_pos hc]
  obtain⟨e,he⟩:∃e,s.check.2.2=e:=⟨_,rfl⟩
  have hlk:=pV s hr e he (by rw[←he];exact hc)
  rw[he]at hc
  rw[he]
  refine ag ax { l:=0,f:=21,mat:=[14]} mixed vX Tryd.func21 (by kernel_rfl) ?_
  conv=>whnf
  refine⟨[],?_⟩
  conv=>whnf
  refine⟨_,_,hlk,?_⟩
  conv=>whnf
  repeat(any_goals(first|exact ac|(refine ao ?_ ?_<;>intro _<;>first|exact ap|conv=>whnf)|((first|refine ae ?_|refine bi ?_ ?_|intro _)<;>conv=>whnf)))
  (refine⟨⟨?_⟩,trivial⟩;rfl)
theorem dp(s:Bill)(hr:s.small)(c:List Ent)(hl:c.length≤1048576)(hk:cj s c=0):BoxA Tryd.prog (.fn 17) [] [ci s,bg c] (.tuple [.ptr b6 1 5 0 0,ak 0]) [co s]:=by
 unfold cj at hk
 by_cases hc:s.check.2.2=0
 ·rw[hc,if_neg (by simp)]at hk
  by_cases hh:s.holds c=true
  ·have hg:=Bill.good hc
   have hlk:=g6 s hr hc
   have hs:=oA s hg c hl
   rw[hh]at hs
   unfold co at *
   clear hg
   refine aD ax { l:=0,f:=17,mat:=[14]} mixed rc Tryd.func17 (by kernel_rfl) ?_
   conv=>whnf
   refine⟨[],?_⟩
   conv=>whnf
   refine⟨_,_,hlk,?_⟩
   conv=>whnf
   repeat(any_goals(first|exact ac|(refine ao ?_ ?_<;>intro _<;>first|exact ap|conv=>whnf)|((first|refine ah hs rfl ?_|refine ae ?_|refine bi ?_ ?_|intro _)<;>conv=>whnf)))
   refine And.intro ?_ ?_
   ·conv=>whnf
    refine⟨⟨?_⟩,trivial⟩
    rfl
   ·repeat(first|exact trivial|refine And.intro rfl ?_|refine And.intro (by skip) ?_)
  ·rw[if_neg hh]at hk;omega
 ·rw[if_pos hc]at hk;omega
theorem iG(s:Bill)(hr:s.small)(c:List Ent)(hl:c.length≤1048576)(e:Int)(hk:cj s c=e)(h0:e≠0):BoxA Tryd.prog (.fn 17) [] [ci s,bg c] (.tuple [xk,ak e]) []:=by
 unfold cj at hk
 by_cases hc:s.check.2.2=0
 ·rw[hc,if_neg (by simp)]at hk
  by_cases hh:s.holds c=true
  ·rw[if_pos hh]at hk;omega
  ·rw[if_neg hh]at hk
   subst hk
   rw[Bool.not_eq_true]at hh
   have hg:=Bill.good hc
   have hlk:=g6 s hr hc
   have hs:=oA s hg c hl
   rw[hh]at hs
   unfold co at *
   clear hg
   refine aD ax { l:=0,f:=17,mat:=[14]} mixed rc Tryd.func17 (by kernel_rfl) ?_
   conv=>whnf
   refine⟨[],?_⟩
   conv=>whnf
   refine⟨_,_,hlk,?_⟩
   conv=>whnf
   repeat(any_goals(first|exact ac|(refine ao ?_ ?_<;>intro _<;>first|exact ap|conv=>whnf)|((first|refine ah hs rfl ?_|refine ae ?_|refine bi ?_ ?_|intro _)<;>conv=>whnf)))
   refine And.intro ?_ ?_
   ·conv=>whnf
    refine⟨⟨?_⟩,trivial⟩
    rfl
   ·repeat(first|exact trivial|refine And.intro rfl ?_|refine And.intro (by skip) ?_)
 ·rw[if_pos hc]at hk
  have hlk:=pV s hr e hk h0
  refine aD ax { l:=0,f:=17,mat:=[14]} mixed rc Tryd.func17 (by kernel_rfl) ?_
  conv=>whnf
  refine⟨[],?_⟩
  conv=>whnf
  refine⟨_,_,hlk,?_⟩
  conv=>whnf
  repeat(any_goals(first|exact ac|(refine ao ?_ ?_<;>intro _<;>first|exact ap|conv=>whnf)|((first|refine ae ?_|refine bi ?_ ?_|intro _)<;>conv=>whnf)))
  refine And.intro ?_ ?_
  ·conv=>whnf
   refine⟨⟨?_⟩,trivial⟩
   rfl
  ·repeat(first|exact trivial|refine And.intro rfl ?_|refine And.intro (by skip) ?_)
end Go.Proofs.YtgncapdjheghfaaDoor
namespace Go.Proofs.YtgncapdjheghfaaDoor
open Go.Am Go.Proofs Go
def Bill.In(s:Bill)(x:Ent):Prop:=(0≤x.says∧x.says≤2)∧(0≤x.a∧x.a≤(s.figs.length:Int)-1)∧0≤x.b∧x.b≤(s.figs.length:Int)-1
theorem Bill.OkE.inn{s:Bill}{x:Ent}(h:s.OkE x):s.In x:=⟨by have:=h.says;omega,by have:=h.a;omega,by have:=h.b;omega⟩
set_option maxHeartbeats 1000000 in
theorem dW(s:Bill)(c:List Ent)(hc:∀x∈c,s.In x)(h6:c.length≤6)(i:Nat)(hi:i<c.length)(top:Bool) :
  PureA Tryd.prog 30 [cL s,bg c,ak i,aH top] (ak (s.heading c i top)):=by
 obtain⟨x,hx⟩:∃x,c[i]?=some x:=⟨_,List.getElem?_eq_getElem hi⟩
 have hxi:=hc x (List.mem_of_getElem? hx)
 obtain⟨f,hf,rf,_⟩:=uj hxi.2.1
 cases i with
 | zero =>
  have e:s.heading c 0 top=2:=by unfold Bill.heading;rw[hx];rfl
  rw[e]
  refine ag ax { l:=0,f:=30} mixed oh Tryd.func30 (by kernel_rfl) ?_
  conv=>whnf
  repeat(any_goals(first|exact ac|(refine ao ?_ ?_<;>intro _<;>first|exact ap|conv=>whnf)|((first|refine ae ?_|refine bi ?_ ?_|intro _)<;>conv=>whnf)))
  (refine⟨⟨?_⟩,trivial⟩;rfl)
 | succ j =>
  obtain⟨y,hy⟩:∃y,c[j]?=some y:=⟨_,List.getElem?_eq_getElem (by omega)⟩
  have hyi:=hc y (List.mem_of_getElem? hy)
  obtain⟨g,hgg,rg,_⟩:=uj hyi.2.1
  have e:s.heading c (j+1) top=if s.roomAt x.a≠s.roomAt y.a then 2 else if top=true then 1 else 0:=by
   unfold Bill.heading
   rw[hx]
   simp only[Nat.add_sub_cancel,if_neg (show¬j+1=0 by omega),hy]
  rw[e,rf,rg]
  have q1:=hxi.2.1
  have q2:=hyi.2.1
  by_cases q:f.room=g.room
  ·rw[if_neg (by simpa using q)]
   cases top
   ·refine ag ax { l:=0,f:=30} mixed oh Tryd.func30 (by kernel_rfl) ?_
    conv=>whnf
    repeat(any_goals(first|exact ac|(refine ao ?_ ?_<;>intro _<;>first|exact ap|conv=>whnf)|((first|refine af hx rfl ?_|refine af hf (by omega) ?_|refine af hy (by omega) ?_|refine af hgg (by omega) ?_|refine ae ?_|refine bi ?_ ?_|intro _)<;>conv=>whnf)))
    (refine⟨⟨?_⟩,trivial⟩;rfl)
   ·refine ag ax { l:=0,f:=30} mixed oh Tryd.func30 (by kernel_rfl) ?_
    conv=>whnf
    repeat(any_goals(first|exact ac|(refine ao ?_ ?_<;>intro _<;>first|exact ap|conv=>whnf)|((first|refine af hx rfl ?_|refine af hf (by omega) ?_|refine af hy (by omega) ?_|refine af hgg (by omega) ?_|refine ae ?_|refine bi ?_ ?_|intro _)<;>conv=>whnf)))
    (refine⟨⟨?_⟩,trivial⟩;rfl)
  ·rw[if_pos (by simpa using q)]
   refine ag ax { l:=0,f:=30} mixed oh Tryd.func30 (by kernel_rfl) ?_
   conv=>whnf
   repeat(any_goals(first|exact ac|(refine ao ?_ ?_<;>intro _<;>first|exact ap|conv=>whnf)|((first|refine af hx rfl ?_|refine af hf (by omega) ?_|refine af hy (by omega) ?_|refine af hgg (by omega) ?_|refine ae ?_|refine bi ?_ ?_|intro _)<;>conv=>whnf)))
   (refine⟨⟨?_⟩,trivial⟩;rfl)
def uo(s:Bill)(m:Nat):Nat→Int
 | 0=>0
 | i+1=>uo s m i+if m.testBit i=true then s.heightAt i else 0
theorem nj{s:Bill}(hg:s.Good)(m:Nat):∀i:Nat,i≤s.figs.length→0≤uo s m i∧uo s m i≤6 * (i:Int)
 | 0,_=>by simp[uo]
 | i+1,h=>by
  have:=nj hg m i (by omega)
  obtain⟨f,hf,_,e⟩:=uj (s:=s) (a:=(i:Int)) (by omega)
  have:=hg.figs f (List.mem_of_getElem? hf)
  simp only[uo]
  split
  ·omega
  ·omega
theorem wN{s:Bill}{x:Ent}(ha:0≤x.a)(hb:0≤x.b)(hne:x.says=1→x.a≠x.b):∀i:Nat,uo s x.named i=(if x.a<i then s.heightAt x.a else 0)+(if x.says=1∧x.b<i then s.heightAt x.b else 0)
 | 0=>by
  simp only[uo]
  rw[if_neg (by omega),if_neg (by omega)];rfl
 | i+1=>by
  have ih:=wN (s:=s) ha hb hne i
  simp only[uo]
  rw[ih,b9]
  by_cases h1:(i:Int)=x.a
  ·have e:decide (i=x.a.toNat∨(x.says=1∧i=x.b.toNat))=true:=decide_eq_true (.inl (by omega))
   rw[e,if_pos rfl,if_neg (by omega),if_pos (show x.a<((i+1:Nat):Int) by omega),h1]
   by_cases h2:x.says=1
   ·have:=hne h2
    by_cases h3:x.b<(i:Int)
    ·rw[if_pos ⟨h2,by omega⟩,if_pos ⟨h2,by omega⟩];omega
    ·rw[if_neg (by omega),if_neg (by omega)];omega
   ·rw[if_neg (by omega),if_neg (by omega)];omega
  ·by_cases h2:x.says=1∧(i:Int)=x.b
   ·have e:decide (i=x.a.toNat∨(x.says=1∧i=x.b.toNat))=true:=decide_eq_true (.inr ⟨h2.1,by omega⟩)
    have h3:=h2.2
    rw[e,if_pos rfl,if_neg (show¬(x.says=1∧x.b<(i:Int)) by omega),if_pos (show x.says=1∧x.b<((i+1:Nat):Int) by omega), ←h2.2]
    by_cases h4:x.a<(i:Int)
    ·rw[if_pos h4,if_pos (by omega)];omega
    ·rw[if_neg h4,if_neg (by omega)];omega
   ·have e:decide (i=x.a.toNat∨(x.says=1∧i=x.b.toNat))=false:=decide_eq_false (by omega)
    rw[e,if_neg (show¬(false=true) by simp)]
    have p1:(x.a<((i+1:Nat):Int))↔x.a<(i:Int):=by omega
    have p2:(x.says=1∧x.b<((i+1:Nat):Int))↔x.says=1∧x.b<(i:Int):=by omega
    simp only[p1,p2];omega
theorem wM{s:Bill}{x:Ent}(h:s.In x)(hne:x.says=1→x.a≠x.b):uo s x.named s.figs.length=s.height x:=by
 obtain⟨_,h2,h3⟩:=h
 rw[wN h2.1 h3.1 hne]
 unfold Bill.height
 rw[if_pos (by omega)]
 by_cases h1:x.says=1
 ·rw[if_pos h1,if_pos (by omega)]
 ·rw[if_neg h1,if_neg (by omega)]
set_option maxHeartbeats 1000000 in
theorem zC(s:Bill)(hg:s.Good)(x:Ent)(hx:s.In x)(hne:x.says=1→x.a≠x.b):PureA Tryd.prog 31 [cL s,bK x] (ak (s.height x)):=by
 have h6:=hg.len
 have hn:=lW x (by have:=hx.2.1;omega) (by have:=hx.2.2;omega)
 have hn64:=iU x (by have:=hx.2.1;omega) (by have:=hx.2.2;omega)
 rw[←wM hx hne]
 have hB:∀i:Nat,i<6→decide (eb (js x.named i) 1=1)=x.named.testBit i:=fun i hi=>BH _ _ (by omega) (by omega)
 generalize x.named=m at *
 have hr:=nj hg m
 have hs:∀i:Nat,uo s m (i+1)=uo s m i+if m.testBit i=true then s.heightAt i else 0:=fun _=>rfl
 have h0:uo s m 0=0:=rfl
 have hgf:=hg.figs
 generalize uo s m=F at *
 clear hg hx hne
 refine ag ax { l:=0,f:=31} mixed BY Tryd.func31 (by kernel_rfl) ?_
 conv=>whnf
 refine aa hn ?_
 conv=>whnf
 refine bS ax { l:=0,f:=31} mixed (fun i:Nat=>[(15,ak i),(4,ak (F i))]) (fun _=>[]) (fun _=>[]) (fun i=>i≤s.figs.length) (fun i=>s.figs.length-i) 0 (by kernel_rfl)
  (Nat.zero_le _) ?_
 conv=>whnf
 refine⟨⟨aj rfl (aj (by rw[h0];rfl) trivial),trivial,trivial⟩,?_⟩
 intro i hi
 conv=>whnf
 refine bQ (fun h1=>?_) (fun h1=>?_)
 ·simp only[List.length_map]at h1
  obtain⟨x,hx,hd⟩:=aF (l:=s.figs) (i:=i) (by omega)
  obtain⟨f,hf,_,hh⟩:=uj (s:=s) (a:=(i:Int)) (by omega)
  rw[Int.toNat_natCast]at hf
  have hfx:=hgf f (List.mem_of_getElem? hf)
  have hri:=hr i (by omega)
  have hsi:=hs i
  have hBi:=hB i (by omega)
  rw[hh, ←hBi]at hsi
  by_cases q:eb (js m i) 1=1
  ·rw[decide_eq_true q,if_pos rfl]at hsi
   unfold eb js at q
   conv=>whnf
   repeat(any_goals(first|exact ac|(refine ao ?_ ?_<;>intro _<;>first|exact ap|conv=>whnf)|((first|refine af hf rfl ?_|refine ae ?_|refine bi ?_ ?_|intro _)<;>conv=>whnf)))
   (refine⟨i+1,(by omega),by omega,?_⟩;(conv=>whnf);refine⟨?_,?_,?_⟩<;>repeat(first|exact trivial|refine sc rfl ?_|refine kn ?_|refine kc rfl ?_|refine sc (by(rw[hsi];rfl)) ?_|refine kc (by(rw[hsi];rfl)) ?_))
  ·rw[decide_eq_false q,if_neg (by simp)]at hsi
   unfold eb js at q
   conv=>whnf
   repeat(any_goals(first|exact ac|(refine ao ?_ ?_<;>intro _<;>first|exact ap|conv=>whnf)|((first|refine af hf rfl ?_|refine ae ?_|refine bi ?_ ?_|intro _)<;>conv=>whnf)))
   (refine⟨i+1,(by omega),by omega,?_⟩;(conv=>whnf);refine⟨?_,?_,?_⟩<;>repeat(first|exact trivial|refine sc rfl ?_|refine kn ?_|refine kc rfl ?_|refine sc (by(rw[hsi,Int.add_zero];rfl)) ?_|refine kc (by(rw[hsi,Int.add_zero];rfl)) ?_))
 ·conv=>whnf
  simp only[List.length_map]at h1
  have:i=s.figs.length:=by omega
  subst this
  (refine⟨⟨?_⟩,trivial⟩;rfl)
set_option maxHeartbeats 1000000 in
theorem tm(s:Bill)(hg:s.Good)(c:List Ent)(hc:∀x∈c,s.OkE x)(h6:c.length≤6)(i j:Nat)(hij:i≤j)(hj:j≤c.length) :
  PureA Tryd.prog 18 [cL s,bg c,ak i,ak j] (ak (s.left c i j)):=by
 have hln:=hg.lines
 have hhd:=fun k (hk:k<c.length) t=>dW s c (fun x hx=>(hc x hx).inn) h6 k hk t
 have hht:=fun x (hx:x∈c)=>zC s hg x (hc x hx).inn fun h1=>by have:=(hc x hx).lt h1;omega
 have hr:∀n:Nat,i+n≤c.length→0≤s.linesOn c i n∧s.linesOn c i n≤14 * (n:Int):=by
  intro n
  induction n with
  | zero=>intro _;exact⟨Int.le_refl _,by simp[Bill.linesOn]⟩
  | succ n ih =>
   intro h
   have:=ih (by omega)
   have:=fQ hg hc (i:=i+n) (by omega) (n==0)
   simp only[Bill.linesOn]
   omega
 have hs:∀n x,c[i+n]?=some x→s.linesOn c i (n+1)=s.linesOn c i n+(s.heading c (i+n) (n==0)+s.height x):=by
  intro n x hx
  simp only[Bill.linesOn,Bill.lineOf,hx]
 have hh:=iL s c
 have hp:=fun x (hx:x∈c)=>ni hg (hc x hx)
 have h0:s.linesOn c i 0=0:=rfl
 unfold Bill.left
 generalize s.linesOn c i=F at *
 clear hg hc
 refine ag ax { l:=0,f:=18} mixed BR Tryd.func18 (by kernel_rfl) ?_
 conv=>whnf
 refine bS ax { l:=0,f:=18} mixed (fun n:Nat=>[(10,ak ((i+n:Nat):Int)),(9,ak (s.lines-F n))]) (fun _=>[]) (fun _=>[]) (fun n=>i+n≤j) (fun n=>j-(i+n)) 0 (by kernel_rfl)
  hij ?_
 conv=>whnf
 refine⟨⟨aj rfl (aj (by rw[h0,Int.sub_zero];rfl) trivial),trivial,trivial⟩,?_⟩
 intro n hn
 by_cases hlt:i+n<j
 ·obtain⟨x,hx⟩:∃x,c[i+n]?=some x:=⟨_,List.getElem?_eq_getElem (by omega)⟩
  have hxm:=List.mem_of_getElem? hx
  have hht':=hht x hxm
  have hhd':=hhd (i+n) (by omega) (n==0)
  have hsn:=hs n x hx
  have hrn:=hr n (by omega)
  have hhn:=hh (i+n) (n==0)
  have hpn:=hp x hxm
  have e:(n==0)=decide (((i+n:Nat):Int)=(i:Int)):=by
   rw[Bool.eq_iff_iff,decide_eq_true_eq,beq_iff_eq];omega
  rw[e]at hhd' hsn hhn
  generalize s.heading c (i+n) (decide (((i+n:Nat):Int)=(i:Int)))=y at *
  generalize s.height x=z at *
  clear hht hhd hs hr hh hp e
  conv=>whnf
  repeat(any_goals(first|exact ac|(refine ao ?_ ?_<;>intro _<;>first|exact ap|conv=>whnf)|((first|refine aa hhd' ?_|refine af hx rfl ?_|refine aa hht' ?_|refine ae ?_|refine bi ?_ ?_|intro _)<;>conv=>whnf)))
  (refine⟨n+1,(by omega),(by omega),?_⟩;(conv=>whnf);refine⟨?_,?_,?_⟩<;>repeat(first|exact trivial|refine sc rfl ?_|refine kn ?_|refine kc rfl ?_|refine sc (by first|rfl|(rw[←Nat.add_assoc];rfl)|(rw[hsn,show s.lines-(F n+(y+z))=s.lines-F n-(y+z) by omega];rfl)) ?_|refine kc (by first|rfl|(rw[←Nat.add_assoc];rfl)|(rw[hsn,show s.lines-(F n+(y+z))=s.lines-F n-(y+z) by omega];rfl)) ?_))
 ·have:i+n=j:=by omega
  have hn2:n=j-i:=by omega
  subst hn2
  conv=>whnf
  repeat(any_goals(first|exact ac|(refine ao ?_ ?_<;>intro _<;>first|exact ap|conv=>whnf)|((first|refine ae ?_|refine bi ?_ ?_|intro _)<;>conv=>whnf)))
  (refine⟨⟨?_⟩,trivial⟩;rfl)
end Go.Proofs.YtgncapdjheghfaaDoor
